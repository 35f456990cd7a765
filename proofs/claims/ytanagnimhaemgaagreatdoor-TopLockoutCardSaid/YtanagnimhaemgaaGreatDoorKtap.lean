/-
  Own texts, laid together for this claim: contracts of functions of the program and its references, used by the statements of this seat.
-/
import Derived.Test.YtanagnimhaemgaaGreatDoorKtac
import Derived.Test.YtanagnimhaemgaaGreatDoorKtad
import Derived.Test.YtanagnimhaemgaaGreatDoorKtaf
import Derived.Test.YtanagnimhaemgaaGreatDoorKtah
import Derived.Test.YtanagnimhaemgaaGreatDoorKtaj
set_option linter.all false
set_option maxHeartbeats 40000000
set_option maxRecDepth 100000
namespace Go.Ax
abbrev A5H(p:Pub):List AV:=[.i p.kind,.i p.attr,.i p.height,.sl .u8 p.policy,.sl .u8 p.unique]
end Go.Ax
namespace Go.Proofs.YtanagnimhaemgaaGreatDoor
open Go Go.Ax Go.Eng
variable (kind attr height:Int)(policy unique:List UInt8)
section
attribute [local irreducible] Bl CS CU CJ Bh Ak CV Du EN E5 EH Be BN CE Bz and' CG CO BC Ag Ar BF BG AY Aa AP AX CW Dv CX DT C9 BJ BD BA BB Au AQ Az Ac Aw Ah CY BL Bi BR BI CB CZ CP fits Cb CQ A8 AA AZ
theorem H7(k:Int):Y E0 (.call 287 [.i k] [])=some (.ret (.i (uniq k)) []):=by
 refine tq ?_
 rcases I7 k 2 with hc0|hc0
 ·subst hc0;refine tq ?_
  unfold uniq;(repeat(first|rw[if_pos zaf]|rw[if_neg zaf]));try simp only[NO]
 refine tq ?_
 unfold uniq;(repeat(first|rw[if_pos zaf]|rw[if_neg zaf]));try simp only[NO]
theorem YV:Y E0 (.call 228 [.agg [.i kind,.i attr,.i height,.sl .u8 policy,.sl .u8 unique]] [])=some (.ret (.i (EG ⟨kind,attr,height,policy,unique⟩)) []):=by
 refine tq ?_
 rcases DU kind 1 with hc0|hc0
 ·refine tq ?_
  (try simp only[Ba] at *);unfold EG;dsimp only;(repeat(first|rw[if_pos zaa]|rw[if_neg zaa]));done
 refine tq ?_
 rcases DU 3 kind with hc1|hc1
 ·refine tq ?_
  (try simp only[Ba] at *);unfold EG;dsimp only;(repeat(first|rw[if_pos zaa]|rw[if_neg zaa]));done
 refine tq ?_
 rcases DU attr 0 with hc2|hc2
 ·refine tq ?_
  (try simp only[Ba] at *);unfold EG;dsimp only;(repeat(first|rw[if_pos zaa]|rw[if_neg zaa]));done
 refine tq ?_
 rcases DU 7 attr with hc3|hc3
 ·refine tq ?_
  (try simp only[Ba] at *);unfold EG;dsimp only;(repeat(first|rw[if_pos zaa]|rw[if_neg zaa]));done
 refine tq ?_
 rcases Dc (Ak BinOp.and attr 4) 0 with hc4|hc4
 ·refine tq ?_
  rcases I7 kind 2 with hc5|hc5
  ·subst hc5;refine tq ?_
   rcases I7 (Ak BinOp.and attr 1) 0 with hc6|hc6
   ·refine tq ?_
    rcases I7 (↑policy.length) 0 with hc7|hc7
    ·rw[Ep zaI]
     conv=>lhs;whnf
     rw[AU]
     conv=>lhs;whnf
     (try simp only[Ba] at *);unfold EG;dsimp only;(repeat(first|rw[if_pos zaa]|rw[if_neg zaa]));done
    refine tq ?_
    rcases DU height 0 with hc8|hc8
    ·refine tq ?_
     (try simp only[Ba] at *);unfold EG;dsimp only;(repeat(first|rw[if_pos zaa]|rw[if_neg zaa]));done
    rw[Iw zaa]
    conv=>lhs;whnf
    rw[AU]
    conv=>lhs;whnf
    rcases DU 3 height with hc9|hc9
    ·refine tq ?_
     (try simp only[Ba] at *);unfold EG;dsimp only;(repeat(first|rw[if_pos zaa]|rw[if_neg zaa]));done
    refine tq ?_
    rcases Dc height 0 with hc10|hc10
    ·refine tq ?_
     rcases Dc (↑policy.length) 32 with hc11|hc11
     ·refine tq ?_
      (try simp only[Ba] at *);unfold EG;dsimp only;(repeat(first|rw[if_pos zaa]|rw[if_neg zaa]));done
     refine tq ?_;rw[H7 _];refine tq ?_
     rcases Dc (↑unique.length) (uniq 2) with hc12|hc12
     ·refine tq ?_
      (try simp only[Ba] at *);unfold EG;dsimp only;(repeat(first|rw[if_pos zaa]|rw[if_neg zaa]));done
     refine tq ?_
     (try simp only[Ba] at *);unfold EG;dsimp only;(repeat(first|rw[if_pos zaa]|rw[if_neg zaa]));done
    subst hc10;refine tq ?_
    rcases Dc (↑policy.length) 32 with hc13|hc13
    ·refine tq ?_
     (try simp only[Ba] at *);unfold EG;dsimp only;(repeat(first|rw[if_pos zaa]|rw[if_neg zaa]));done
    refine tq ?_;rw[H7 _];refine tq ?_
    rcases Dc (↑unique.length) (uniq 2) with hc14|hc14
    ·refine tq ?_
     (try simp only[Ba] at *);unfold EG;dsimp only;(repeat(first|rw[if_pos zaa]|rw[if_neg zaa]));done
    refine tq ?_
    (try simp only[Ba] at *);unfold EG;dsimp only;(repeat(first|rw[if_pos zaa]|rw[if_neg zaa]));done
   refine tq ?_
   rcases DU height 0 with hc15|hc15
   ·rw[Dn zaa]
    conv=>lhs;whnf
    rw[AU]
    conv=>lhs;whnf
    (try simp only[Ba] at *);unfold EG;dsimp only;(repeat(first|rw[if_pos zaa]|rw[if_neg zaa]));done
   rw[Iw zaa]
   conv=>lhs;whnf
   rw[AU]
   conv=>lhs;whnf
   rcases DU 3 height with hc16|hc16
   ·refine tq ?_
    (try simp only[Ba] at *);unfold EG;dsimp only;(repeat(first|rw[if_pos zaa]|rw[if_neg zaa]));done
   refine tq ?_
   rcases Dc height 0 with hc17|hc17
   ·refine tq ?_
    rcases Dc (↑policy.length) 0 with hc18|hc18
    ·refine tq ?_
     rcases Dc (↑policy.length) 32 with hc19|hc19
     ·refine tq ?_
      (try simp only[Ba] at *);unfold EG;dsimp only;(repeat(first|rw[if_pos zaa]|rw[if_neg zaa]));done
     refine tq ?_;rw[H7 _];refine tq ?_
     rcases Dc (↑unique.length) (uniq 2) with hc20|hc20
     ·refine tq ?_
      (try simp only[Ba] at *);unfold EG;dsimp only;(repeat(first|rw[if_pos zaa]|rw[if_neg zaa]));done
     refine tq ?_
     (try simp only[Ba] at *);unfold EG;dsimp only;(repeat(first|rw[if_pos zaa]|rw[if_neg zaa]));done
    refine tq ?_;rw[H7 _];refine tq ?_
    rcases Dc (↑unique.length) (uniq 2) with hc21|hc21
    ·refine tq ?_
     (try simp only[Ba] at *);unfold EG;dsimp only;(repeat(first|rw[if_pos zaa]|rw[if_neg zaa]));done
    refine tq ?_
    (try simp only[Ba] at *);unfold EG;dsimp only;(repeat(first|rw[if_pos zaa]|rw[if_neg zaa]));done
   subst hc17;refine tq ?_
   rcases Dc (↑policy.length) 0 with hc22|hc22
   ·refine tq ?_
    rcases Dc (↑policy.length) 32 with hc23|hc23
    ·refine tq ?_
     (try simp only[Ba] at *);unfold EG;dsimp only;(repeat(first|rw[if_pos zaa]|rw[if_neg zaa]));done
    refine tq ?_;rw[H7 _];refine tq ?_
    rcases Dc (↑unique.length) (uniq 2) with hc24|hc24
    ·refine tq ?_
     (try simp only[Ba] at *);unfold EG;dsimp only;(repeat(first|rw[if_pos zaa]|rw[if_neg zaa]));done
    refine tq ?_
    (try simp only[Ba] at *);unfold EG;dsimp only;(repeat(first|rw[if_pos zaa]|rw[if_neg zaa]));done
   refine tq ?_;rw[H7 _];refine tq ?_
   rcases Dc (↑unique.length) (uniq 2) with hc25|hc25
   ·refine tq ?_
    (try simp only[Ba] at *);unfold EG;dsimp only;(repeat(first|rw[if_pos zaa]|rw[if_neg zaa]));done
   refine tq ?_
   (try simp only[Ba] at *);unfold EG;dsimp only;(repeat(first|rw[if_pos zaa]|rw[if_neg zaa]));done
  refine tq ?_
  (try simp only[Ba] at *);unfold EG;dsimp only;(repeat(first|rw[if_pos zaa]|rw[if_neg zaa]));done
 refine tq ?_
 rcases I7 (Ak BinOp.and attr 1) 0 with hc26|hc26
 ·refine tq ?_
  rcases I7 (↑policy.length) 0 with hc27|hc27
  ·refine tq ?_
   (try simp only[Ba] at *);unfold EG;dsimp only;(repeat(first|rw[if_pos zaa]|rw[if_neg zaa]));done
  refine tq ?_
  rcases DU height 0 with hc28|hc28
  ·refine tq ?_
   (try simp only[Ba] at *);unfold EG;dsimp only;(repeat(first|rw[if_pos zaa]|rw[if_neg zaa]));done
  rw[Iw zaa]
  conv=>lhs;whnf
  rw[AU]
  conv=>lhs;whnf
  rcases DU 3 height with hc29|hc29
  ·refine tq ?_
   (try simp only[Ba] at *);unfold EG;dsimp only;(repeat(first|rw[if_pos zaa]|rw[if_neg zaa]));done
  refine tq ?_
  rcases Dc height 0 with hc30|hc30
  ·refine tq ?_
   rcases I7 kind 2 with hc31|hc31
   ·subst hc31;refine tq ?_
    rcases Dc (↑policy.length) 32 with hc32|hc32
    ·refine tq ?_
     (try simp only[Ba] at *);unfold EG;dsimp only;(repeat(first|rw[if_pos zaa]|rw[if_neg zaa]));done
    refine tq ?_;rw[H7 _];refine tq ?_
    rcases Dc (↑unique.length) (uniq 2) with hc33|hc33
    ·refine tq ?_
     (try simp only[Ba] at *);unfold EG;dsimp only;(repeat(first|rw[if_pos zaa]|rw[if_neg zaa]));done
    refine tq ?_
    (try simp only[Ba] at *);unfold EG;dsimp only;(repeat(first|rw[if_pos zaa]|rw[if_neg zaa]));done
   refine tq ?_
   (try simp only[Ba] at *);unfold EG;dsimp only;(repeat(first|rw[if_pos zaa]|rw[if_neg zaa]));done
  subst hc30;refine tq ?_
  rcases Dc (↑policy.length) 32 with hc34|hc34
  ·refine tq ?_
   (try simp only[Ba] at *);unfold EG;dsimp only;(repeat(first|rw[if_pos zaa]|rw[if_neg zaa]));done
  refine tq ?_;rw[H7 _];refine tq ?_
  rcases Dc (↑unique.length) (uniq kind) with hc35|hc35
  ·refine tq ?_
   (try simp only[Ba] at *);unfold EG;dsimp only;(repeat(first|rw[if_pos zaa]|rw[if_neg zaa]));done
  refine tq ?_
  (try simp only[Ba] at *);unfold EG;dsimp only;(repeat(first|rw[if_pos zaa]|rw[if_neg zaa]));done
 refine tq ?_
 rcases DU height 0 with hc36|hc36
 ·rw[Dn zaa]
  conv=>lhs;whnf
  rw[AU]
  conv=>lhs;whnf
  (try simp only[Ba] at *);unfold EG;dsimp only;(repeat(first|rw[if_pos zaa]|rw[if_neg zaa]));done
 refine tq ?_
 rcases DU 3 height with hc37|hc37
 ·refine tq ?_
  (try simp only[Ba] at *);unfold EG;dsimp only;(repeat(first|rw[if_pos zaa]|rw[if_neg zaa]));done
 refine tq ?_
 rcases Dc height 0 with hc38|hc38
 ·refine tq ?_
  rcases I7 kind 2 with hc39|hc39
  ·subst hc39;refine tq ?_
   rcases Dc (↑policy.length) 0 with hc40|hc40
   ·refine tq ?_
    rcases Dc (↑policy.length) 32 with hc41|hc41
    ·refine tq ?_
     (try simp only[Ba] at *);unfold EG;dsimp only;(repeat(first|rw[if_pos zaa]|rw[if_neg zaa]));done
    refine tq ?_;rw[H7 _];refine tq ?_
    rcases Dc (↑unique.length) (uniq 2) with hc42|hc42
    ·refine tq ?_
     (try simp only[Ba] at *);unfold EG;dsimp only;(repeat(first|rw[if_pos zaa]|rw[if_neg zaa]));done
    refine tq ?_
    (try simp only[Ba] at *);unfold EG;dsimp only;(repeat(first|rw[if_pos zaa]|rw[if_neg zaa]));done
   refine tq ?_;rw[H7 _];refine tq ?_
   rcases Dc (↑unique.length) (uniq 2) with hc43|hc43
   ·refine tq ?_
    (try simp only[Ba] at *);unfold EG;dsimp only;(repeat(first|rw[if_pos zaa]|rw[if_neg zaa]));done
   refine tq ?_
   (try simp only[Ba] at *);unfold EG;dsimp only;(repeat(first|rw[if_pos zaa]|rw[if_neg zaa]));done
  refine tq ?_
  (try simp only[Ba] at *);unfold EG;dsimp only;(repeat(first|rw[if_pos zaa]|rw[if_neg zaa]));done
 subst hc38;refine tq ?_
 rcases Dc (↑policy.length) 0 with hc44|hc44
 ·refine tq ?_
  rcases Dc (↑policy.length) 32 with hc45|hc45
  ·refine tq ?_
   (try simp only[Ba] at *);unfold EG;dsimp only;(repeat(first|rw[if_pos zaa]|rw[if_neg zaa]));done
  refine tq ?_;rw[H7 _];refine tq ?_
  rcases Dc (↑unique.length) (uniq kind) with hc46|hc46
  ·refine tq ?_
   (try simp only[Ba] at *);unfold EG;dsimp only;(repeat(first|rw[if_pos zaa]|rw[if_neg zaa]));done
  refine tq ?_
  (try simp only[Ba] at *);unfold EG;dsimp only;(repeat(first|rw[if_pos zaa]|rw[if_neg zaa]));done
 refine tq ?_;rw[H7 _];refine tq ?_
 rcases Dc (↑unique.length) (uniq kind) with hc47|hc47
 ·refine tq ?_
  (try simp only[Ba] at *);unfold EG;dsimp only;(repeat(first|rw[if_pos zaa]|rw[if_neg zaa]));done
 refine tq ?_
 (try simp only[Ba] at *);unfold EG;dsimp only;(repeat(first|rw[if_pos zaa]|rw[if_neg zaa]));done
theorem qN(hp:policy.length<=1000000)(hu:unique.length<=1000000):Y E0 (.call 250 [.agg [.i kind,.i attr,.i height,.sl .u8 policy,.sl .u8 unique]] [])=some (.ret (.sl .u8 (ET ⟨kind,attr,height,policy,unique⟩)) []):=by
 refine tq ?_;rw[FQ _ _ Am];refine tq ?_;rw[FQ _ _ Am];refine tq ?_
 (simp only[EM];rfl)
theorem fE(hp:policy.length<=60000)(hu:unique.length<=60000):Y E0 (.call 233 [.agg [.i kind,.i attr,.i height,.sl .u8 policy,.sl .u8 unique]] [])=some (.ret (.sl .u8 (nameB ⟨kind,attr,height,policy,unique⟩)) []):=by
 have hl:=WY (p:=⟨kind,attr,height,policy,unique⟩) (Nat.le_trans hp zac) (Nat.le_trans hu zac)
 refine tq ?_;rw[qN _ _ _ _ _ Am Am];refine tq ?_;rw[FB _ _ Am Am];refine tq ?_
 rfl
theorem A0Y(h:Int):Y E0 (.call 280 [.i h] [])=some (.ret (.sl .u8 (YO h)) []):=by
 rw[AU];conv=>lhs;whnf
 rcases Bool.eq_false_or_eq_true (E5 h 0) with hc0|hc0
 ·rw[hc0];replace hc0:=Jb hc0;try simp only[AC] at hc0
  conv=>lhs;whnf
  unfold YO;(repeat(first|rw[if_pos zaf]|rw[if_neg zaf]));try simp only[NO]
 ·rw[hc0];replace hc0:=Jc hc0;try simp only[AC] at hc0
  conv=>lhs;whnf
  rcases Bool.eq_false_or_eq_true (E5 3 h) with hc1|hc1
  ·rw[hc1];replace hc1:=Jb hc1;try simp only[AC] at hc1
   conv=>lhs;whnf
   unfold YO;(repeat(first|rw[if_pos zaf]|rw[if_neg zaf]));try simp only[NO]
  ·rw[hc1];replace hc1:=Jc hc1;try simp only[AC] at hc1
   conv=>lhs;whnf
   rw[Aj];rw[FB _ _ zaI zaI]
   conv=>lhs;whnf
   (rw[YO,if_neg zaa,<-EM])
end
end Go.Proofs.YtanagnimhaemgaaGreatDoor
