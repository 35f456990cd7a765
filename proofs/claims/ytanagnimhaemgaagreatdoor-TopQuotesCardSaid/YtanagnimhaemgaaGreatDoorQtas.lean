/-
  Own texts, laid together for this claim: contracts of functions of the program and its references, used by the statements of this seat.
-/
import Derived.Test.YtanagnimhaemgaaGreatDoorQtac
import Derived.Test.YtanagnimhaemgaaGreatDoorQtaf
import Derived.Test.YtanagnimhaemgaaGreatDoorQtak
import Derived.Test.YtanagnimhaemgaaGreatDoorQtao
import Derived.Test.YtanagnimhaemgaaGreatDoorQtap
import Derived.Test.YtanagnimhaemgaaGreatDoorQtaq
set_option linter.all false
set_option maxHeartbeats 40000000
set_option maxRecDepth 100000
namespace Go.Ax
abbrev A6B(p:Pub):List AV:=[.i p.kind,.i p.attr,.i p.height,.sl .u8 p.policy,.sl .u8 p.unique]
end Go.Ax
namespace Go.Proofs.YtanagnimhaemgaaGreatDoor
open Go Go.Ax Go.Eng
variable (kind attr height:Int)(policy unique:List UInt8)
section
attribute [local irreducible] Bl CQ CS Bo Bg Ar CU Dw EN Dy EC Bf BU Bv Bz and' C9 CB BK Au BA BL BN Aa Ad AP AZ CV Dq CW DI CE BP BM BF BG BB AU BC Ae Ap Ai CX BH Bh Ba BO CG CY CJ fits CZ CO A8 AA Ac
theorem Hw(k:Int):Y E0 (.call 287 [.i k] [])=some (.ret (.i (uniq k)) []):=by
 refine tq ?_
 rcases FK k 2 with hc0|hc0
 ·subst hc0;refine tq ?_
  unfold uniq;(repeat(first|rw[if_pos zac]|rw[if_neg zac]));try simp only[NO]
 refine tq ?_
 unfold uniq;(repeat(first|rw[if_pos zac]|rw[if_neg zac]));try simp only[NO]
theorem FO(k:Int):Y E0 (.call 103 [.i k] [])=some (.ret (.i (uniq k)) []):=by
 refine tq ?_
 rcases FK k 2 with hc0|hc0
 ·subst hc0;refine tq ?_
  unfold uniq;(repeat(first|rw[if_pos zac]|rw[if_neg zac]));try simp only[NO]
 refine tq ?_
 unfold uniq;(repeat(first|rw[if_pos zac]|rw[if_neg zac]));try simp only[NO]
theorem Zw:Y E0 (.call 228 [.agg [.i kind,.i attr,.i height,.sl .u8 policy,.sl .u8 unique]] [])=some (.ret (.i (Cb ⟨kind,attr,height,policy,unique⟩)) []):=by
 refine tq ?_
 rcases D7 kind 1 with hc0|hc0
 ·refine tq ?_
  (try simp only[Af] at *);unfold Cb;dsimp only;(repeat(first|rw[if_pos zaa]|rw[if_neg zaa]));done
 refine tq ?_
 rcases D7 3 kind with hc1|hc1
 ·refine tq ?_
  (try simp only[Af] at *);unfold Cb;dsimp only;(repeat(first|rw[if_pos zaa]|rw[if_neg zaa]));done
 refine tq ?_
 rcases D7 attr 0 with hc2|hc2
 ·refine tq ?_
  (try simp only[Af] at *);unfold Cb;dsimp only;(repeat(first|rw[if_pos zaa]|rw[if_neg zaa]));done
 refine tq ?_
 rcases D7 7 attr with hc3|hc3
 ·refine tq ?_
  (try simp only[Af] at *);unfold Cb;dsimp only;(repeat(first|rw[if_pos zaa]|rw[if_neg zaa]));done
 refine tq ?_
 rcases Bj (Ar BinOp.and attr 4) 0 with hc4|hc4
 ·refine tq ?_
  rcases FK kind 2 with hc5|hc5
  ·subst hc5;refine tq ?_
   rcases FK (Ar BinOp.and attr 1) 0 with hc6|hc6
   ·refine tq ?_
    rcases FK (↑policy.length) 0 with hc7|hc7
    ·rw[Ff zax]
     conv=>lhs;whnf
     rw[AO]
     conv=>lhs;whnf
     (try simp only[Af] at *);unfold Cb;dsimp only;(repeat(first|rw[if_pos zaa]|rw[if_neg zaa]));done
    refine tq ?_
    rcases D7 height 0 with hc8|hc8
    ·refine tq ?_
     (try simp only[Af] at *);unfold Cb;dsimp only;(repeat(first|rw[if_pos zaa]|rw[if_neg zaa]));done
    rw[Gz zaa]
    conv=>lhs;whnf
    rw[AO]
    conv=>lhs;whnf
    rcases D7 3 height with hc9|hc9
    ·refine tq ?_
     (try simp only[Af] at *);unfold Cb;dsimp only;(repeat(first|rw[if_pos zaa]|rw[if_neg zaa]));done
    refine tq ?_
    rcases Bj height 0 with hc10|hc10
    ·refine tq ?_
     rcases Bj (↑policy.length) 32 with hc11|hc11
     ·refine tq ?_
      (try simp only[Af] at *);unfold Cb;dsimp only;(repeat(first|rw[if_pos zaa]|rw[if_neg zaa]));done
     refine tq ?_;rw[Hw _];refine tq ?_
     rcases Bj (↑unique.length) (uniq 2) with hc12|hc12
     ·refine tq ?_
      (try simp only[Af] at *);unfold Cb;dsimp only;(repeat(first|rw[if_pos zaa]|rw[if_neg zaa]));done
     refine tq ?_
     (try simp only[Af] at *);unfold Cb;dsimp only;(repeat(first|rw[if_pos zaa]|rw[if_neg zaa]));done
    subst hc10;refine tq ?_
    rcases Bj (↑policy.length) 32 with hc13|hc13
    ·refine tq ?_
     (try simp only[Af] at *);unfold Cb;dsimp only;(repeat(first|rw[if_pos zaa]|rw[if_neg zaa]));done
    refine tq ?_;rw[Hw _];refine tq ?_
    rcases Bj (↑unique.length) (uniq 2) with hc14|hc14
    ·refine tq ?_
     (try simp only[Af] at *);unfold Cb;dsimp only;(repeat(first|rw[if_pos zaa]|rw[if_neg zaa]));done
    refine tq ?_
    (try simp only[Af] at *);unfold Cb;dsimp only;(repeat(first|rw[if_pos zaa]|rw[if_neg zaa]));done
   refine tq ?_
   rcases D7 height 0 with hc15|hc15
   ·rw[Dp zaa]
    conv=>lhs;whnf
    rw[AO]
    conv=>lhs;whnf
    (try simp only[Af] at *);unfold Cb;dsimp only;(repeat(first|rw[if_pos zaa]|rw[if_neg zaa]));done
   rw[Gz zaa]
   conv=>lhs;whnf
   rw[AO]
   conv=>lhs;whnf
   rcases D7 3 height with hc16|hc16
   ·refine tq ?_
    (try simp only[Af] at *);unfold Cb;dsimp only;(repeat(first|rw[if_pos zaa]|rw[if_neg zaa]));done
   refine tq ?_
   rcases Bj height 0 with hc17|hc17
   ·refine tq ?_
    rcases Bj (↑policy.length) 0 with hc18|hc18
    ·refine tq ?_
     rcases Bj (↑policy.length) 32 with hc19|hc19
     ·refine tq ?_
      (try simp only[Af] at *);unfold Cb;dsimp only;(repeat(first|rw[if_pos zaa]|rw[if_neg zaa]));done
     refine tq ?_;rw[Hw _];refine tq ?_
     rcases Bj (↑unique.length) (uniq 2) with hc20|hc20
     ·refine tq ?_
      (try simp only[Af] at *);unfold Cb;dsimp only;(repeat(first|rw[if_pos zaa]|rw[if_neg zaa]));done
     refine tq ?_
     (try simp only[Af] at *);unfold Cb;dsimp only;(repeat(first|rw[if_pos zaa]|rw[if_neg zaa]));done
    refine tq ?_;rw[Hw _];refine tq ?_
    rcases Bj (↑unique.length) (uniq 2) with hc21|hc21
    ·refine tq ?_
     (try simp only[Af] at *);unfold Cb;dsimp only;(repeat(first|rw[if_pos zaa]|rw[if_neg zaa]));done
    refine tq ?_
    (try simp only[Af] at *);unfold Cb;dsimp only;(repeat(first|rw[if_pos zaa]|rw[if_neg zaa]));done
   subst hc17;refine tq ?_
   rcases Bj (↑policy.length) 0 with hc22|hc22
   ·refine tq ?_
    rcases Bj (↑policy.length) 32 with hc23|hc23
    ·refine tq ?_
     (try simp only[Af] at *);unfold Cb;dsimp only;(repeat(first|rw[if_pos zaa]|rw[if_neg zaa]));done
    refine tq ?_;rw[Hw _];refine tq ?_
    rcases Bj (↑unique.length) (uniq 2) with hc24|hc24
    ·refine tq ?_
     (try simp only[Af] at *);unfold Cb;dsimp only;(repeat(first|rw[if_pos zaa]|rw[if_neg zaa]));done
    refine tq ?_
    (try simp only[Af] at *);unfold Cb;dsimp only;(repeat(first|rw[if_pos zaa]|rw[if_neg zaa]));done
   refine tq ?_;rw[Hw _];refine tq ?_
   rcases Bj (↑unique.length) (uniq 2) with hc25|hc25
   ·refine tq ?_
    (try simp only[Af] at *);unfold Cb;dsimp only;(repeat(first|rw[if_pos zaa]|rw[if_neg zaa]));done
   refine tq ?_
   (try simp only[Af] at *);unfold Cb;dsimp only;(repeat(first|rw[if_pos zaa]|rw[if_neg zaa]));done
  refine tq ?_
  (try simp only[Af] at *);unfold Cb;dsimp only;(repeat(first|rw[if_pos zaa]|rw[if_neg zaa]));done
 refine tq ?_
 rcases FK (Ar BinOp.and attr 1) 0 with hc26|hc26
 ·refine tq ?_
  rcases FK (↑policy.length) 0 with hc27|hc27
  ·refine tq ?_
   (try simp only[Af] at *);unfold Cb;dsimp only;(repeat(first|rw[if_pos zaa]|rw[if_neg zaa]));done
  refine tq ?_
  rcases D7 height 0 with hc28|hc28
  ·refine tq ?_
   (try simp only[Af] at *);unfold Cb;dsimp only;(repeat(first|rw[if_pos zaa]|rw[if_neg zaa]));done
  rw[Gz zaa]
  conv=>lhs;whnf
  rw[AO]
  conv=>lhs;whnf
  rcases D7 3 height with hc29|hc29
  ·refine tq ?_
   (try simp only[Af] at *);unfold Cb;dsimp only;(repeat(first|rw[if_pos zaa]|rw[if_neg zaa]));done
  refine tq ?_
  rcases Bj height 0 with hc30|hc30
  ·refine tq ?_
   rcases FK kind 2 with hc31|hc31
   ·subst hc31;refine tq ?_
    rcases Bj (↑policy.length) 32 with hc32|hc32
    ·refine tq ?_
     (try simp only[Af] at *);unfold Cb;dsimp only;(repeat(first|rw[if_pos zaa]|rw[if_neg zaa]));done
    refine tq ?_;rw[Hw _];refine tq ?_
    rcases Bj (↑unique.length) (uniq 2) with hc33|hc33
    ·refine tq ?_
     (try simp only[Af] at *);unfold Cb;dsimp only;(repeat(first|rw[if_pos zaa]|rw[if_neg zaa]));done
    refine tq ?_
    (try simp only[Af] at *);unfold Cb;dsimp only;(repeat(first|rw[if_pos zaa]|rw[if_neg zaa]));done
   refine tq ?_
   (try simp only[Af] at *);unfold Cb;dsimp only;(repeat(first|rw[if_pos zaa]|rw[if_neg zaa]));done
  subst hc30;refine tq ?_
  rcases Bj (↑policy.length) 32 with hc34|hc34
  ·refine tq ?_
   (try simp only[Af] at *);unfold Cb;dsimp only;(repeat(first|rw[if_pos zaa]|rw[if_neg zaa]));done
  refine tq ?_;rw[Hw _];refine tq ?_
  rcases Bj (↑unique.length) (uniq kind) with hc35|hc35
  ·refine tq ?_
   (try simp only[Af] at *);unfold Cb;dsimp only;(repeat(first|rw[if_pos zaa]|rw[if_neg zaa]));done
  refine tq ?_
  (try simp only[Af] at *);unfold Cb;dsimp only;(repeat(first|rw[if_pos zaa]|rw[if_neg zaa]));done
 refine tq ?_
 rcases D7 height 0 with hc36|hc36
 ·rw[Dp zaa]
  conv=>lhs;whnf
  rw[AO]
  conv=>lhs;whnf
  (try simp only[Af] at *);unfold Cb;dsimp only;(repeat(first|rw[if_pos zaa]|rw[if_neg zaa]));done
 refine tq ?_
 rcases D7 3 height with hc37|hc37
 ·refine tq ?_
  (try simp only[Af] at *);unfold Cb;dsimp only;(repeat(first|rw[if_pos zaa]|rw[if_neg zaa]));done
 refine tq ?_
 rcases Bj height 0 with hc38|hc38
 ·refine tq ?_
  rcases FK kind 2 with hc39|hc39
  ·subst hc39;refine tq ?_
   rcases Bj (↑policy.length) 0 with hc40|hc40
   ·refine tq ?_
    rcases Bj (↑policy.length) 32 with hc41|hc41
    ·refine tq ?_
     (try simp only[Af] at *);unfold Cb;dsimp only;(repeat(first|rw[if_pos zaa]|rw[if_neg zaa]));done
    refine tq ?_;rw[Hw _];refine tq ?_
    rcases Bj (↑unique.length) (uniq 2) with hc42|hc42
    ·refine tq ?_
     (try simp only[Af] at *);unfold Cb;dsimp only;(repeat(first|rw[if_pos zaa]|rw[if_neg zaa]));done
    refine tq ?_
    (try simp only[Af] at *);unfold Cb;dsimp only;(repeat(first|rw[if_pos zaa]|rw[if_neg zaa]));done
   refine tq ?_;rw[Hw _];refine tq ?_
   rcases Bj (↑unique.length) (uniq 2) with hc43|hc43
   ·refine tq ?_
    (try simp only[Af] at *);unfold Cb;dsimp only;(repeat(first|rw[if_pos zaa]|rw[if_neg zaa]));done
   refine tq ?_
   (try simp only[Af] at *);unfold Cb;dsimp only;(repeat(first|rw[if_pos zaa]|rw[if_neg zaa]));done
  refine tq ?_
  (try simp only[Af] at *);unfold Cb;dsimp only;(repeat(first|rw[if_pos zaa]|rw[if_neg zaa]));done
 subst hc38;refine tq ?_
 rcases Bj (↑policy.length) 0 with hc44|hc44
 ·refine tq ?_
  rcases Bj (↑policy.length) 32 with hc45|hc45
  ·refine tq ?_
   (try simp only[Af] at *);unfold Cb;dsimp only;(repeat(first|rw[if_pos zaa]|rw[if_neg zaa]));done
  refine tq ?_;rw[Hw _];refine tq ?_
  rcases Bj (↑unique.length) (uniq kind) with hc46|hc46
  ·refine tq ?_
   (try simp only[Af] at *);unfold Cb;dsimp only;(repeat(first|rw[if_pos zaa]|rw[if_neg zaa]));done
  refine tq ?_
  (try simp only[Af] at *);unfold Cb;dsimp only;(repeat(first|rw[if_pos zaa]|rw[if_neg zaa]));done
 refine tq ?_;rw[Hw _];refine tq ?_
 rcases Bj (↑unique.length) (uniq kind) with hc47|hc47
 ·refine tq ?_
  (try simp only[Af] at *);unfold Cb;dsimp only;(repeat(first|rw[if_pos zaa]|rw[if_neg zaa]));done
 refine tq ?_
 (try simp only[Af] at *);unfold Cb;dsimp only;(repeat(first|rw[if_pos zaa]|rw[if_neg zaa]));done
theorem PX:Y E0 (.call 64 [.agg [.i kind,.i attr,.i height,.sl .u8 policy,.sl .u8 unique]] [])=some (.ret (.i (Cb ⟨kind,attr,height,policy,unique⟩)) []):=by
 refine tq ?_
 rcases D7 kind 1 with hc0|hc0
 ·refine tq ?_
  (try simp only[Af] at *);unfold Cb;dsimp only;(repeat(first|rw[if_pos zaa]|rw[if_neg zaa]));done
 refine tq ?_
 rcases D7 3 kind with hc1|hc1
 ·refine tq ?_
  (try simp only[Af] at *);unfold Cb;dsimp only;(repeat(first|rw[if_pos zaa]|rw[if_neg zaa]));done
 refine tq ?_
 rcases D7 attr 0 with hc2|hc2
 ·refine tq ?_
  (try simp only[Af] at *);unfold Cb;dsimp only;(repeat(first|rw[if_pos zaa]|rw[if_neg zaa]));done
 refine tq ?_
 rcases D7 7 attr with hc3|hc3
 ·refine tq ?_
  (try simp only[Af] at *);unfold Cb;dsimp only;(repeat(first|rw[if_pos zaa]|rw[if_neg zaa]));done
 refine tq ?_
 rcases Bj (Ar BinOp.and attr 4) 0 with hc4|hc4
 ·refine tq ?_
  rcases Bj kind 2 with hc5|hc5
  ·refine tq ?_
   (try simp only[Af] at *);unfold Cb;dsimp only;(repeat(first|rw[if_pos zaa]|rw[if_neg zaa]));done
  subst hc5;refine tq ?_
  rcases FK (Ar BinOp.and attr 1) 0 with hc6|hc6
  ·refine tq ?_
   rcases FK (↑policy.length) 0 with hc7|hc7
   ·refine tq ?_
    (try simp only[Af] at *);unfold Cb;dsimp only;(repeat(first|rw[if_pos zaa]|rw[if_neg zaa]));done
   refine tq ?_
   rcases D7 height 0 with hc8|hc8
   ·refine tq ?_
    (try simp only[Af] at *);unfold Cb;dsimp only;(repeat(first|rw[if_pos zaa]|rw[if_neg zaa]));done
   refine tq ?_
   rcases D7 3 height with hc9|hc9
   ·refine tq ?_
    (try simp only[Af] at *);unfold Cb;dsimp only;(repeat(first|rw[if_pos zaa]|rw[if_neg zaa]));done
   refine tq ?_
   rcases Bj height 0 with hc10|hc10
   ·refine tq ?_
    rcases Bj (↑policy.length) 32 with hc11|hc11
    ·refine tq ?_
     (try simp only[Af] at *);unfold Cb;dsimp only;(repeat(first|rw[if_pos zaa]|rw[if_neg zaa]));done
    refine tq ?_;rw[FO _];refine tq ?_
    rcases Bj (↑unique.length) (uniq 2) with hc12|hc12
    ·refine tq ?_
     (try simp only[Af] at *);unfold Cb;dsimp only;(repeat(first|rw[if_pos zaa]|rw[if_neg zaa]));done
    refine tq ?_
    (try simp only[Af] at *);unfold Cb;dsimp only;(repeat(first|rw[if_pos zaa]|rw[if_neg zaa]));done
   subst hc10;refine tq ?_
   rcases Bj (↑policy.length) 32 with hc13|hc13
   ·refine tq ?_
    (try simp only[Af] at *);unfold Cb;dsimp only;(repeat(first|rw[if_pos zaa]|rw[if_neg zaa]));done
   refine tq ?_;rw[FO _]
   conv=>lhs;whnf
   try dsimp -iota -beta -eta -zeta only
   rw[drw zaj];conv=>lhs;whnf
   rw[AO]
   conv=>lhs;whnf
   rcases Bj (↑unique.length) (uniq 2) with hc14|hc14
   ·refine tq ?_
    (try simp only[Af] at *);unfold Cb;dsimp only;(repeat(first|rw[if_pos zaa]|rw[if_neg zaa]));done
   refine tq ?_
   (try simp only[Af] at *);unfold Cb;dsimp only;(repeat(first|rw[if_pos zaa]|rw[if_neg zaa]));done
  refine tq ?_
  rcases D7 height 0 with hc15|hc15
  ·refine tq ?_
   (try simp only[Af] at *);unfold Cb;dsimp only;(repeat(first|rw[if_pos zaa]|rw[if_neg zaa]));done
  refine tq ?_
  rcases D7 3 height with hc16|hc16
  ·refine tq ?_
   (try simp only[Af] at *);unfold Cb;dsimp only;(repeat(first|rw[if_pos zaa]|rw[if_neg zaa]));done
  refine tq ?_
  rcases Bj height 0 with hc17|hc17
  ·refine tq ?_
   rcases Bj (↑policy.length) 0 with hc18|hc18
   ·refine tq ?_
    rcases Bj (↑policy.length) 32 with hc19|hc19
    ·refine tq ?_
     (try simp only[Af] at *);unfold Cb;dsimp only;(repeat(first|rw[if_pos zaa]|rw[if_neg zaa]));done
    refine tq ?_;rw[FO _]
    conv=>lhs;whnf
    try dsimp -iota -beta -eta -zeta only
    rw[drw zaj];conv=>lhs;whnf
    rw[AO]
    conv=>lhs;whnf
    rcases Bj (↑unique.length) (uniq 2) with hc20|hc20
    ·refine tq ?_
     (try simp only[Af] at *);unfold Cb;dsimp only;(repeat(first|rw[if_pos zaa]|rw[if_neg zaa]));done
    refine tq ?_
    (try simp only[Af] at *);unfold Cb;dsimp only;(repeat(first|rw[if_pos zaa]|rw[if_neg zaa]));done
   refine tq ?_;rw[FO _];refine tq ?_
   rcases Bj (↑unique.length) (uniq 2) with hc21|hc21
   ·refine tq ?_
    (try simp only[Af] at *);unfold Cb;dsimp only;(repeat(first|rw[if_pos zaa]|rw[if_neg zaa]));done
   refine tq ?_
   (try simp only[Af] at *);unfold Cb;dsimp only;(repeat(first|rw[if_pos zaa]|rw[if_neg zaa]));done
  subst hc17;refine tq ?_
  rcases Bj (↑policy.length) 0 with hc22|hc22
  ·refine tq ?_
   rcases Bj (↑policy.length) 32 with hc23|hc23
   ·refine tq ?_
    (try simp only[Af] at *);unfold Cb;dsimp only;(repeat(first|rw[if_pos zaa]|rw[if_neg zaa]));done
   refine tq ?_;rw[FO _];refine tq ?_
   rcases Bj (↑unique.length) (uniq 2) with hc24|hc24
   ·refine tq ?_
    (try simp only[Af] at *);unfold Cb;dsimp only;(repeat(first|rw[if_pos zaa]|rw[if_neg zaa]));done
   rw[DY zax]
   conv=>lhs;whnf
   rw[AO]
   conv=>lhs;whnf
   (try simp only[Af] at *);unfold Cb;dsimp only;(repeat(first|rw[if_pos zaa]|rw[if_neg zaa]));done
  refine tq ?_;rw[FO _];refine tq ?_
  rcases Bj (↑unique.length) (uniq 2) with hc25|hc25
  ·refine tq ?_
   (try simp only[Af] at *);unfold Cb;dsimp only;(repeat(first|rw[if_pos zaa]|rw[if_neg zaa]));done
  refine tq ?_
  (try simp only[Af] at *);unfold Cb;dsimp only;(repeat(first|rw[if_pos zaa]|rw[if_neg zaa]));done
 rw[DY zaa]
 conv=>lhs;whnf
 rw[AO]
 conv=>lhs;whnf
 rcases FK (Ar BinOp.and attr 1) 0 with hc26|hc26
 ·refine tq ?_
  rcases FK (↑policy.length) 0 with hc27|hc27
  ·refine tq ?_
   (try simp only[Af] at *);unfold Cb;dsimp only;(repeat(first|rw[if_pos zaa]|rw[if_neg zaa]));done
  refine tq ?_
  rcases D7 height 0 with hc28|hc28
  ·refine tq ?_
   (try simp only[Af] at *);unfold Cb;dsimp only;(repeat(first|rw[if_pos zaa]|rw[if_neg zaa]));done
  refine tq ?_
  rcases D7 3 height with hc29|hc29
  ·refine tq ?_
   (try simp only[Af] at *);unfold Cb;dsimp only;(repeat(first|rw[if_pos zaa]|rw[if_neg zaa]));done
  refine tq ?_
  rcases Bj height 0 with hc30|hc30
  ·refine tq ?_
   rcases Bj kind 2 with hc31|hc31
   ·refine tq ?_
    (try simp only[Af] at *);unfold Cb;dsimp only;(repeat(first|rw[if_pos zaa]|rw[if_neg zaa]));done
   subst hc31;refine tq ?_
   rcases Bj (↑policy.length) 32 with hc32|hc32
   ·refine tq ?_
    (try simp only[Af] at *);unfold Cb;dsimp only;(repeat(first|rw[if_pos zaa]|rw[if_neg zaa]));done
   refine tq ?_;rw[FO _]
   conv=>lhs;whnf
   try dsimp -iota -beta -eta -zeta only
   rw[drw zaj];conv=>lhs;whnf
   rw[AO]
   conv=>lhs;whnf
   rcases Bj (↑unique.length) (uniq 2) with hc33|hc33
   ·refine tq ?_
    (try simp only[Af] at *);unfold Cb;dsimp only;(repeat(first|rw[if_pos zaa]|rw[if_neg zaa]));done
   refine tq ?_
   (try simp only[Af] at *);unfold Cb;dsimp only;(repeat(first|rw[if_pos zaa]|rw[if_neg zaa]));done
  subst hc30;refine tq ?_
  rcases Bj (↑policy.length) 32 with hc34|hc34
  ·refine tq ?_
   (try simp only[Af] at *);unfold Cb;dsimp only;(repeat(first|rw[if_pos zaa]|rw[if_neg zaa]));done
  refine tq ?_;rw[FO _];refine tq ?_
  rcases Bj (↑unique.length) (uniq kind) with hc35|hc35
  ·rw[IY zax]
   conv=>lhs;whnf
   rw[AO]
   conv=>lhs;whnf
   (try simp only[Af] at *);unfold Cb;dsimp only;(repeat(first|rw[if_pos zaa]|rw[if_neg zaa]));done
  rw[DY zax]
  conv=>lhs;whnf
  rw[AO]
  conv=>lhs;whnf
  (try simp only[Af] at *);unfold Cb;dsimp only;(repeat(first|rw[if_pos zaa]|rw[if_neg zaa]));done
 refine tq ?_
 rcases D7 height 0 with hc36|hc36
 ·refine tq ?_
  (try simp only[Af] at *);unfold Cb;dsimp only;(repeat(first|rw[if_pos zaa]|rw[if_neg zaa]));done
 refine tq ?_
 rcases D7 3 height with hc37|hc37
 ·refine tq ?_
  (try simp only[Af] at *);unfold Cb;dsimp only;(repeat(first|rw[if_pos zaa]|rw[if_neg zaa]));done
 refine tq ?_
 rcases Bj height 0 with hc38|hc38
 ·rw[IY zaa]
  conv=>lhs;whnf
  rcases Bj kind 2 with hc39|hc39
  ·refine tq ?_
   (try simp only[Af] at *);unfold Cb;dsimp only;(repeat(first|rw[if_pos zaa]|rw[if_neg zaa]));done
  subst hc39;refine tq ?_
  rcases Bj (↑policy.length) 0 with hc40|hc40
  ·refine tq ?_
   rcases Bj (↑policy.length) 32 with hc41|hc41
   ·refine tq ?_
    (try simp only[Af] at *);unfold Cb;dsimp only;(repeat(first|rw[if_pos zaa]|rw[if_neg zaa]));done
   refine tq ?_;rw[FO _];refine tq ?_
   rcases Bj (↑unique.length) (uniq 2) with hc42|hc42
   ·refine tq ?_
    (try simp only[Af] at *);unfold Cb;dsimp only;(repeat(first|rw[if_pos zaa]|rw[if_neg zaa]));done
   rw[DY zax]
   conv=>lhs;whnf
   rw[AO]
   conv=>lhs;whnf
   (try simp only[Af] at *);unfold Cb;dsimp only;(repeat(first|rw[if_pos zaa]|rw[if_neg zaa]));done
  refine tq ?_;rw[FO _];refine tq ?_
  rcases Bj (↑unique.length) (uniq 2) with hc43|hc43
  ·refine tq ?_
   (try simp only[Af] at *);unfold Cb;dsimp only;(repeat(first|rw[if_pos zaa]|rw[if_neg zaa]));done
  refine tq ?_
  (try simp only[Af] at *);unfold Cb;dsimp only;(repeat(first|rw[if_pos zaa]|rw[if_neg zaa]));done
 subst hc38;refine tq ?_
 rcases Bj (↑policy.length) 0 with hc44|hc44
 ·refine tq ?_
  rcases Bj (↑policy.length) 32 with hc45|hc45
  ·refine tq ?_
   (try simp only[Af] at *);unfold Cb;dsimp only;(repeat(first|rw[if_pos zaa]|rw[if_neg zaa]));done
  refine tq ?_;rw[FO _];refine tq ?_
  rcases Bj (↑unique.length) (uniq kind) with hc46|hc46
  ·refine tq ?_
   (try simp only[Af] at *);unfold Cb;dsimp only;(repeat(first|rw[if_pos zaa]|rw[if_neg zaa]));done
  refine tq ?_
  (try simp only[Af] at *);unfold Cb;dsimp only;(repeat(first|rw[if_pos zaa]|rw[if_neg zaa]));done
 refine tq ?_;rw[FO _];refine tq ?_
 rcases Bj (↑unique.length) (uniq kind) with hc47|hc47
 ·refine tq ?_
  (try simp only[Af] at *);unfold Cb;dsimp only;(repeat(first|rw[if_pos zaa]|rw[if_neg zaa]));done
 refine tq ?_
 (try simp only[Af] at *);unfold Cb;dsimp only;(repeat(first|rw[if_pos zaa]|rw[if_neg zaa]));done
theorem wY(hp:policy.length<=1000000)(hu:unique.length<=1000000):Y E0 (.call 250 [.agg [.i kind,.i attr,.i height,.sl .u8 policy,.sl .u8 unique]] [])=some (.ret (.sl .u8 (EL ⟨kind,attr,height,policy,unique⟩)) []):=by
 refine tq ?_;rw[Ep _ _ Aq];refine tq ?_;rw[Ep _ _ Aq];refine tq ?_
 (simp only[Dh];rfl)
theorem zT(hp:policy.length<=1000000)(hu:unique.length<=1000000):Y E0 (.call 71 [.agg [.i kind,.i attr,.i height,.sl .u8 policy,.sl .u8 unique]] [])=some (.ret (.nm 0) [some (.row 5 .u8 (EL ⟨kind,attr,height,policy,unique⟩))]):=by
 refine tq ?_;rw[Nw _ _ Aq];refine tq ?_;rw[Nw _ _ Aq];refine tq ?_
 (simp only[Dh];rfl)
theorem zU(b:List UInt8)(hb:b.length<=4294967296):Y E0 (.call 30 [.sl .u8 b] [])=some (.ret (.tup [.agg (A6B (Fb b).1),.i (Fb b).2]) []):=by
 refine tq ?_;rw[Tm _];refine tq ?_;rw[show Y E0 (.call 61 [.pa 0 0,.i 1] [.var [.sl .u8 b,.i 0,.i 0]])=_ from EY b 0 0 1 hb (Nat.zero_le _)];generalize g0:Ey b 0 0 1=x0;obtain⟨v0,p0,er0⟩:=x0;have k0:p0<=b.length:=(by have:=MB (b:=b) (at':=0) (e:=0) (size:=1) (Nat.zero_le _);rw[g0] at this;exact this)
 refine tq ?_;rw[EY b p0 er0 1 hb k0];generalize g1:Ey b p0 er0 1=x1;obtain⟨v1,p1,er1⟩:=x1;have k1:p1<=b.length:=(by have:=MB (b:=b) (at':=p0) (e:=er0) (size:=1) k0;rw[g1] at this;exact this)
 refine tq ?_;rw[EY b p1 er1 1 hb k1];generalize g2:Ey b p1 er1 1=x2;obtain⟨v2,p2,er2⟩:=x2;have k2:p2<=b.length:=(by have:=MB (b:=b) (at':=p1) (e:=er1) (size:=1) k1;rw[g2] at this;exact this)
 refine tq ?_;rw[KC b p2 er2 32 hb k2];generalize g3:JK b p2 er2 32=x3;obtain⟨v3,p3,er3⟩:=x3;have k3:p3<=b.length:=(by have:=Xf (b:=b) (at':=p2) (e:=er2) (most:=32) k2;rw[g3] at this;exact this);have l3:v3.length<=b.length:=(by have:=QG (b:=b) (at':=p2) (e:=er2) (most:=32);rw[g3] at this;exact this);have m3:v3.length<=32:=(by have:=jh (b:=b) (at':=p2) (e:=er2) (most:=32) zad;rw[g3] at this;simp only at this;omega)
 refine tq ?_;rw[KC b p3 er3 32 hb k3];generalize g4:JK b p3 er3 32=x4;obtain⟨v4,p4,er4⟩:=x4;have k4:p4<=b.length:=(by have:=Xf (b:=b) (at':=p3) (e:=er3) (most:=32) k3;rw[g4] at this;exact this);have l4:v4.length<=b.length:=(by have:=QG (b:=b) (at':=p3) (e:=er3) (most:=32);rw[g4] at this;exact this);have m4:v4.length<=32:=(by have:=jh (b:=b) (at':=p3) (e:=er3) (most:=32) zad;rw[g4] at this;simp only at this;omega)
 refine tq ?_;rw[Tn _ _ _ Aq Aq];refine tq ?_
 rcases FK (VT b p4 er4) 0 with hc0|hc0
 ·refine tq ?_;rw[PX ..];refine tq ?_
  rcases Bj (Cb {kind:=v0,attr:=v1,height:=v2,policy:=v3,unique:=v4}) 0 with hc1|hc1
  ·refine tq ?_
   rw[eG g0 g1 g2 g3 g4];(repeat(first|rw[if_pos zac]|rw[if_neg zac]));rfl
  refine tq ?_
  rw[eG g0 g1 g2 g3 g4];(repeat(first|rw[if_pos zac]|rw[if_neg zac]));done
 refine tq ?_
 rw[eG g0 g1 g2 g3 g4];(repeat(first|rw[if_pos zac]|rw[if_neg zac]));rfl
theorem YH(hp:policy.length<=60000)(hu:unique.length<=60000):Y E0 (.call 233 [.agg [.i kind,.i attr,.i height,.sl .u8 policy,.sl .u8 unique]] [])=some (.ret (.sl .u8 (nameB ⟨kind,attr,height,policy,unique⟩)) []):=by
 have hl:=PM (p:=⟨kind,attr,height,policy,unique⟩) (Nat.le_trans hp zad) (Nat.le_trans hu zad)
 refine tq ?_;rw[wY _ _ _ _ _ Aq Aq];refine tq ?_;rw[Eu _ _ Aq Aq];refine tq ?_
 rfl
theorem rH(hp:policy.length<=60000)(hu:unique.length<=60000):Y E0 (.call 67 [.agg [.i kind,.i attr,.i height,.sl .u8 policy,.sl .u8 unique]] [])=some (.ret (.sl .u8 (nameB ⟨kind,attr,height,policy,unique⟩)) []):=by
 have hl:=PM (p:=⟨kind,attr,height,policy,unique⟩) (Nat.le_trans hp zad) (Nat.le_trans hu zad)
 refine tq ?_;rw[zT _ _ _ _ _ Aq Aq];refine tq ?_;rw[HY _ _ Aq Aq];refine tq ?_
 rfl
theorem A3K(h:Int):Y E0 (.call 280 [.i h] [])=some (.ret (.sl .u8 (Zt h)) []):=by
 rw[AO];conv=>lhs;whnf
 rcases Bool.eq_false_or_eq_true (Dy h 0) with hc0|hc0
 ·rw[hc0];replace hc0:=J7 hc0;try simp only[AC] at hc0
  conv=>lhs;whnf
  unfold Zt;(repeat(first|rw[if_pos zac]|rw[if_neg zac]));try simp only[NO]
 ·rw[hc0];replace hc0:=J8 hc0;try simp only[AC] at hc0
  conv=>lhs;whnf
  rcases Bool.eq_false_or_eq_true (Dy 3 h) with hc1|hc1
  ·rw[hc1];replace hc1:=J7 hc1;try simp only[AC] at hc1
   conv=>lhs;whnf
   unfold Zt;(repeat(first|rw[if_pos zac]|rw[if_neg zac]));try simp only[NO]
  ·rw[hc1];replace hc1:=J8 hc1;try simp only[AC] at hc1
   conv=>lhs;whnf
   rw[Ak];rw[Eu _ _ zax zax]
   conv=>lhs;whnf
   (rw[Zt,if_neg zaa,<-Dh])
end
end Go.Proofs.YtanagnimhaemgaaGreatDoor
