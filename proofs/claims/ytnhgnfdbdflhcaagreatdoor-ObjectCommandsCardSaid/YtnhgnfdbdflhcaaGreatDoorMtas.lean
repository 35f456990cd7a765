/-
  Own texts, laid together for this claim: contracts of functions of the program and its references, used by the statements of this seat.
-/
import Derived.Test.YtnhgnfdbdflhcaaGreatDoorMtab
import Derived.Test.YtnhgnfdbdflhcaaGreatDoorMtad
import Derived.Test.YtnhgnfdbdflhcaaGreatDoorMtae
import Derived.Test.YtnhgnfdbdflhcaaGreatDoorMtaj
import Derived.Test.YtnhgnfdbdflhcaaGreatDoorMtao
import Derived.Test.YtnhgnfdbdflhcaaGreatDoorMtap
import Derived.Test.YtnhgnfdbdflhcaaGreatDoorMtaq
import Derived.Test.YtnhgnfdbdflhcaaGreatDoorMtar
set_option linter.all false
set_option maxHeartbeats 40000000
set_option maxRecDepth 100000
namespace Go.Ax
abbrev PI(p:Pub):List AV:=[.i p.kind,.i p.attr,.i p.height,.sl .u8 p.policy,.sl .u8 p.unique]
end Go.Ax
namespace Go.Proofs.YtnhgnfdbdflhcaaGreatDoor
open Go Go.Ax Go.Eng
variable (b:List UInt8)(n kind attr height:Int)(policy unique:List UInt8)
section
attribute [local irreducible] Cc Dn D7 DU DD BA Dp F7 FY FD Ez Ci CS DK DV and' DW DL C9 BR Bh CB CG BG BI Aw BC Dq Fh Dt ER DX Bl CE Bv Bz Bi Az Bg BK Bj BO Du Bc DF BZ BM Cj Di fits Dv Dk Ac Am BH
theorem IU(k:Int):Y E0 (.call 161 [.i k] [])=some (.ret (.i (uniq k)) []):=by
 refine tq ?_
 rcases AL k 2 with hc0|hc0
 ·subst hc0;refine tq ?_
  unfold uniq;(repeat(first|rw[if_pos zac]|rw[if_neg zac]));try simp only[NO]
 refine tq ?_
 unfold uniq;(repeat(first|rw[if_pos zac]|rw[if_neg zac]));try simp only[NO]
theorem Ei(k:Int):Y E0 (.call 57 [.i k] [])=some (.ret (.i (uniq k)) []):=by
 refine tq ?_
 rcases AL k 2 with hc0|hc0
 ·subst hc0;refine tq ?_
  unfold uniq;(repeat(first|rw[if_pos zac]|rw[if_neg zac]));try simp only[NO]
 refine tq ?_
 unfold uniq;(repeat(first|rw[if_pos zac]|rw[if_neg zac]));try simp only[NO]
theorem X3:Y E0 (.call 95 [.agg [.i kind,.i attr,.i height,.sl .u8 policy,.sl .u8 unique]] [])=some (.ret (.i (CV ⟨kind,attr,height,policy,unique⟩)) []):=by
 refine tq ?_
 rcases AZ kind 1 with hc0|hc0
 ·refine tq ?_
  (try simp only[Ak] at *);unfold CV;dsimp only;(repeat(first|rw[if_pos zaa]|rw[if_neg zaa]));done
 refine tq ?_
 rcases AZ 3 kind with hc1|hc1
 ·refine tq ?_
  (try simp only[Ak] at *);unfold CV;dsimp only;(repeat(first|rw[if_pos zaa]|rw[if_neg zaa]));done
 refine tq ?_
 rcases AZ attr 0 with hc2|hc2
 ·refine tq ?_
  (try simp only[Ak] at *);unfold CV;dsimp only;(repeat(first|rw[if_pos zaa]|rw[if_neg zaa]));done
 refine tq ?_
 rcases AZ 7 attr with hc3|hc3
 ·refine tq ?_
  (try simp only[Ak] at *);unfold CV;dsimp only;(repeat(first|rw[if_pos zaa]|rw[if_neg zaa]));done
 refine tq ?_
 rcases AX (BA BinOp.and attr 4) 0 with hc4|hc4
 ·refine tq ?_
  rcases AL kind 2 with hc5|hc5
  ·subst hc5;refine tq ?_
   rcases AL (BA BinOp.and attr 1) 0 with hc6|hc6
   ·refine tq ?_
    rcases AL (↑policy.length) 0 with hc7|hc7
    ·rw[EH zaG]
     conv=>lhs;whnf
     rw[Ad]
     conv=>lhs;whnf
     (try simp only[Ak] at *);unfold CV;dsimp only;(repeat(first|rw[if_pos zaa]|rw[if_neg zaa]));done
    refine tq ?_
    rcases AZ height 0 with hc8|hc8
    ·refine tq ?_
     (try simp only[Ak] at *);unfold CV;dsimp only;(repeat(first|rw[if_pos zaa]|rw[if_neg zaa]));done
    rw[GL zaa]
    conv=>lhs;whnf
    rw[Ad]
    conv=>lhs;whnf
    rcases AZ 3 height with hc9|hc9
    ·refine tq ?_
     (try simp only[Ak] at *);unfold CV;dsimp only;(repeat(first|rw[if_pos zaa]|rw[if_neg zaa]));done
    refine tq ?_
    rcases AX height 0 with hc10|hc10
    ·refine tq ?_
     rcases AX (↑policy.length) 32 with hc11|hc11
     ·refine tq ?_
      (try simp only[Ak] at *);unfold CV;dsimp only;(repeat(first|rw[if_pos zaa]|rw[if_neg zaa]));done
     refine tq ?_;rw[IU _];refine tq ?_
     rcases AX (↑unique.length) (uniq 2) with hc12|hc12
     ·refine tq ?_
      (try simp only[Ak] at *);unfold CV;dsimp only;(repeat(first|rw[if_pos zaa]|rw[if_neg zaa]));done
     refine tq ?_
     (try simp only[Ak] at *);unfold CV;dsimp only;(repeat(first|rw[if_pos zaa]|rw[if_neg zaa]));done
    subst hc10;refine tq ?_
    rcases AX (↑policy.length) 32 with hc13|hc13
    ·refine tq ?_
     (try simp only[Ak] at *);unfold CV;dsimp only;(repeat(first|rw[if_pos zaa]|rw[if_neg zaa]));done
    refine tq ?_;rw[IU _];refine tq ?_
    rcases AX (↑unique.length) (uniq 2) with hc14|hc14
    ·refine tq ?_
     (try simp only[Ak] at *);unfold CV;dsimp only;(repeat(first|rw[if_pos zaa]|rw[if_neg zaa]));done
    refine tq ?_
    (try simp only[Ak] at *);unfold CV;dsimp only;(repeat(first|rw[if_pos zaa]|rw[if_neg zaa]));done
   refine tq ?_
   rcases AZ height 0 with hc15|hc15
   ·rw[EZ zaa]
    conv=>lhs;whnf
    rw[Ad]
    conv=>lhs;whnf
    (try simp only[Ak] at *);unfold CV;dsimp only;(repeat(first|rw[if_pos zaa]|rw[if_neg zaa]));done
   rw[GL zaa]
   conv=>lhs;whnf
   rw[Ad]
   conv=>lhs;whnf
   rcases AZ 3 height with hc16|hc16
   ·refine tq ?_
    (try simp only[Ak] at *);unfold CV;dsimp only;(repeat(first|rw[if_pos zaa]|rw[if_neg zaa]));done
   refine tq ?_
   rcases AX height 0 with hc17|hc17
   ·refine tq ?_
    rcases AX (↑policy.length) 0 with hc18|hc18
    ·refine tq ?_
     rcases AX (↑policy.length) 32 with hc19|hc19
     ·refine tq ?_
      (try simp only[Ak] at *);unfold CV;dsimp only;(repeat(first|rw[if_pos zaa]|rw[if_neg zaa]));done
     refine tq ?_;rw[IU _];refine tq ?_
     rcases AX (↑unique.length) (uniq 2) with hc20|hc20
     ·refine tq ?_
      (try simp only[Ak] at *);unfold CV;dsimp only;(repeat(first|rw[if_pos zaa]|rw[if_neg zaa]));done
     refine tq ?_
     (try simp only[Ak] at *);unfold CV;dsimp only;(repeat(first|rw[if_pos zaa]|rw[if_neg zaa]));done
    refine tq ?_;rw[IU _];refine tq ?_
    rcases AX (↑unique.length) (uniq 2) with hc21|hc21
    ·refine tq ?_
     (try simp only[Ak] at *);unfold CV;dsimp only;(repeat(first|rw[if_pos zaa]|rw[if_neg zaa]));done
    refine tq ?_
    (try simp only[Ak] at *);unfold CV;dsimp only;(repeat(first|rw[if_pos zaa]|rw[if_neg zaa]));done
   subst hc17;refine tq ?_
   rcases AX (↑policy.length) 0 with hc22|hc22
   ·refine tq ?_
    rcases AX (↑policy.length) 32 with hc23|hc23
    ·refine tq ?_
     (try simp only[Ak] at *);unfold CV;dsimp only;(repeat(first|rw[if_pos zaa]|rw[if_neg zaa]));done
    refine tq ?_;rw[IU _];refine tq ?_
    rcases AX (↑unique.length) (uniq 2) with hc24|hc24
    ·refine tq ?_
     (try simp only[Ak] at *);unfold CV;dsimp only;(repeat(first|rw[if_pos zaa]|rw[if_neg zaa]));done
    refine tq ?_
    (try simp only[Ak] at *);unfold CV;dsimp only;(repeat(first|rw[if_pos zaa]|rw[if_neg zaa]));done
   refine tq ?_;rw[IU _];refine tq ?_
   rcases AX (↑unique.length) (uniq 2) with hc25|hc25
   ·refine tq ?_
    (try simp only[Ak] at *);unfold CV;dsimp only;(repeat(first|rw[if_pos zaa]|rw[if_neg zaa]));done
   refine tq ?_
   (try simp only[Ak] at *);unfold CV;dsimp only;(repeat(first|rw[if_pos zaa]|rw[if_neg zaa]));done
  refine tq ?_
  (try simp only[Ak] at *);unfold CV;dsimp only;(repeat(first|rw[if_pos zaa]|rw[if_neg zaa]));done
 refine tq ?_
 rcases AL (BA BinOp.and attr 1) 0 with hc26|hc26
 ·refine tq ?_
  rcases AL (↑policy.length) 0 with hc27|hc27
  ·refine tq ?_
   (try simp only[Ak] at *);unfold CV;dsimp only;(repeat(first|rw[if_pos zaa]|rw[if_neg zaa]));done
  refine tq ?_
  rcases AZ height 0 with hc28|hc28
  ·refine tq ?_
   (try simp only[Ak] at *);unfold CV;dsimp only;(repeat(first|rw[if_pos zaa]|rw[if_neg zaa]));done
  rw[GL zaa]
  conv=>lhs;whnf
  rw[Ad]
  conv=>lhs;whnf
  rcases AZ 3 height with hc29|hc29
  ·refine tq ?_
   (try simp only[Ak] at *);unfold CV;dsimp only;(repeat(first|rw[if_pos zaa]|rw[if_neg zaa]));done
  refine tq ?_
  rcases AX height 0 with hc30|hc30
  ·refine tq ?_
   rcases AL kind 2 with hc31|hc31
   ·subst hc31;refine tq ?_
    rcases AX (↑policy.length) 32 with hc32|hc32
    ·refine tq ?_
     (try simp only[Ak] at *);unfold CV;dsimp only;(repeat(first|rw[if_pos zaa]|rw[if_neg zaa]));done
    refine tq ?_;rw[IU _];refine tq ?_
    rcases AX (↑unique.length) (uniq 2) with hc33|hc33
    ·refine tq ?_
     (try simp only[Ak] at *);unfold CV;dsimp only;(repeat(first|rw[if_pos zaa]|rw[if_neg zaa]));done
    refine tq ?_
    (try simp only[Ak] at *);unfold CV;dsimp only;(repeat(first|rw[if_pos zaa]|rw[if_neg zaa]));done
   refine tq ?_
   (try simp only[Ak] at *);unfold CV;dsimp only;(repeat(first|rw[if_pos zaa]|rw[if_neg zaa]));done
  subst hc30;refine tq ?_
  rcases AX (↑policy.length) 32 with hc34|hc34
  ·refine tq ?_
   (try simp only[Ak] at *);unfold CV;dsimp only;(repeat(first|rw[if_pos zaa]|rw[if_neg zaa]));done
  refine tq ?_;rw[IU _];refine tq ?_
  rcases AX (↑unique.length) (uniq kind) with hc35|hc35
  ·refine tq ?_
   (try simp only[Ak] at *);unfold CV;dsimp only;(repeat(first|rw[if_pos zaa]|rw[if_neg zaa]));done
  refine tq ?_
  (try simp only[Ak] at *);unfold CV;dsimp only;(repeat(first|rw[if_pos zaa]|rw[if_neg zaa]));done
 refine tq ?_
 rcases AZ height 0 with hc36|hc36
 ·rw[EZ zaa]
  conv=>lhs;whnf
  rw[Ad]
  conv=>lhs;whnf
  (try simp only[Ak] at *);unfold CV;dsimp only;(repeat(first|rw[if_pos zaa]|rw[if_neg zaa]));done
 refine tq ?_
 rcases AZ 3 height with hc37|hc37
 ·refine tq ?_
  (try simp only[Ak] at *);unfold CV;dsimp only;(repeat(first|rw[if_pos zaa]|rw[if_neg zaa]));done
 refine tq ?_
 rcases AX height 0 with hc38|hc38
 ·refine tq ?_
  rcases AL kind 2 with hc39|hc39
  ·subst hc39;refine tq ?_
   rcases AX (↑policy.length) 0 with hc40|hc40
   ·refine tq ?_
    rcases AX (↑policy.length) 32 with hc41|hc41
    ·refine tq ?_
     (try simp only[Ak] at *);unfold CV;dsimp only;(repeat(first|rw[if_pos zaa]|rw[if_neg zaa]));done
    refine tq ?_;rw[IU _];refine tq ?_
    rcases AX (↑unique.length) (uniq 2) with hc42|hc42
    ·refine tq ?_
     (try simp only[Ak] at *);unfold CV;dsimp only;(repeat(first|rw[if_pos zaa]|rw[if_neg zaa]));done
    refine tq ?_
    (try simp only[Ak] at *);unfold CV;dsimp only;(repeat(first|rw[if_pos zaa]|rw[if_neg zaa]));done
   refine tq ?_;rw[IU _];refine tq ?_
   rcases AX (↑unique.length) (uniq 2) with hc43|hc43
   ·refine tq ?_
    (try simp only[Ak] at *);unfold CV;dsimp only;(repeat(first|rw[if_pos zaa]|rw[if_neg zaa]));done
   refine tq ?_
   (try simp only[Ak] at *);unfold CV;dsimp only;(repeat(first|rw[if_pos zaa]|rw[if_neg zaa]));done
  refine tq ?_
  (try simp only[Ak] at *);unfold CV;dsimp only;(repeat(first|rw[if_pos zaa]|rw[if_neg zaa]));done
 subst hc38;refine tq ?_
 rcases AX (↑policy.length) 0 with hc44|hc44
 ·refine tq ?_
  rcases AX (↑policy.length) 32 with hc45|hc45
  ·refine tq ?_
   (try simp only[Ak] at *);unfold CV;dsimp only;(repeat(first|rw[if_pos zaa]|rw[if_neg zaa]));done
  refine tq ?_;rw[IU _];refine tq ?_
  rcases AX (↑unique.length) (uniq kind) with hc46|hc46
  ·refine tq ?_
   (try simp only[Ak] at *);unfold CV;dsimp only;(repeat(first|rw[if_pos zaa]|rw[if_neg zaa]));done
  refine tq ?_
  (try simp only[Ak] at *);unfold CV;dsimp only;(repeat(first|rw[if_pos zaa]|rw[if_neg zaa]));done
 refine tq ?_;rw[IU _];refine tq ?_
 rcases AX (↑unique.length) (uniq kind) with hc47|hc47
 ·refine tq ?_
  (try simp only[Ak] at *);unfold CV;dsimp only;(repeat(first|rw[if_pos zaa]|rw[if_neg zaa]));done
 refine tq ?_
 (try simp only[Ak] at *);unfold CV;dsimp only;(repeat(first|rw[if_pos zaa]|rw[if_neg zaa]));done
theorem Ju:Y E0 (.call 43 [.agg [.i kind,.i attr,.i height,.sl .u8 policy,.sl .u8 unique]] [])=some (.ret (.i (CV ⟨kind,attr,height,policy,unique⟩)) []):=by
 refine tq ?_
 rcases AZ kind 1 with hc0|hc0
 ·refine tq ?_
  (try simp only[Ak] at *);unfold CV;dsimp only;(repeat(first|rw[if_pos zaa]|rw[if_neg zaa]));done
 refine tq ?_
 rcases AZ 3 kind with hc1|hc1
 ·refine tq ?_
  (try simp only[Ak] at *);unfold CV;dsimp only;(repeat(first|rw[if_pos zaa]|rw[if_neg zaa]));done
 refine tq ?_
 rcases AZ attr 0 with hc2|hc2
 ·refine tq ?_
  (try simp only[Ak] at *);unfold CV;dsimp only;(repeat(first|rw[if_pos zaa]|rw[if_neg zaa]));done
 refine tq ?_
 rcases AZ 7 attr with hc3|hc3
 ·refine tq ?_
  (try simp only[Ak] at *);unfold CV;dsimp only;(repeat(first|rw[if_pos zaa]|rw[if_neg zaa]));done
 refine tq ?_
 rcases AX (BA BinOp.and attr 4) 0 with hc4|hc4
 ·refine tq ?_
  rcases AX kind 2 with hc5|hc5
  ·refine tq ?_
   (try simp only[Ak] at *);unfold CV;dsimp only;(repeat(first|rw[if_pos zaa]|rw[if_neg zaa]));done
  subst hc5;refine tq ?_
  rcases AL (BA BinOp.and attr 1) 0 with hc6|hc6
  ·refine tq ?_
   rcases AL (↑policy.length) 0 with hc7|hc7
   ·refine tq ?_
    (try simp only[Ak] at *);unfold CV;dsimp only;(repeat(first|rw[if_pos zaa]|rw[if_neg zaa]));done
   refine tq ?_
   rcases AZ height 0 with hc8|hc8
   ·refine tq ?_
    (try simp only[Ak] at *);unfold CV;dsimp only;(repeat(first|rw[if_pos zaa]|rw[if_neg zaa]));done
   refine tq ?_
   rcases AZ 3 height with hc9|hc9
   ·refine tq ?_
    (try simp only[Ak] at *);unfold CV;dsimp only;(repeat(first|rw[if_pos zaa]|rw[if_neg zaa]));done
   refine tq ?_
   rcases AX height 0 with hc10|hc10
   ·refine tq ?_
    rcases AX (↑policy.length) 32 with hc11|hc11
    ·refine tq ?_
     (try simp only[Ak] at *);unfold CV;dsimp only;(repeat(first|rw[if_pos zaa]|rw[if_neg zaa]));done
    refine tq ?_;rw[Ei _];refine tq ?_
    rcases AX (↑unique.length) (uniq 2) with hc12|hc12
    ·refine tq ?_
     (try simp only[Ak] at *);unfold CV;dsimp only;(repeat(first|rw[if_pos zaa]|rw[if_neg zaa]));done
    refine tq ?_
    (try simp only[Ak] at *);unfold CV;dsimp only;(repeat(first|rw[if_pos zaa]|rw[if_neg zaa]));done
   subst hc10;refine tq ?_
   rcases AX (↑policy.length) 32 with hc13|hc13
   ·refine tq ?_
    (try simp only[Ak] at *);unfold CV;dsimp only;(repeat(first|rw[if_pos zaa]|rw[if_neg zaa]));done
   refine tq ?_;rw[Ei _]
   conv=>lhs;whnf
   try dsimp -iota -beta -eta -zeta only
   rw[drw zas];conv=>lhs;whnf
   rw[Ad]
   conv=>lhs;whnf
   rcases AX (↑unique.length) (uniq 2) with hc14|hc14
   ·refine tq ?_
    (try simp only[Ak] at *);unfold CV;dsimp only;(repeat(first|rw[if_pos zaa]|rw[if_neg zaa]));done
   refine tq ?_
   (try simp only[Ak] at *);unfold CV;dsimp only;(repeat(first|rw[if_pos zaa]|rw[if_neg zaa]));done
  refine tq ?_
  rcases AZ height 0 with hc15|hc15
  ·refine tq ?_
   (try simp only[Ak] at *);unfold CV;dsimp only;(repeat(first|rw[if_pos zaa]|rw[if_neg zaa]));done
  refine tq ?_
  rcases AZ 3 height with hc16|hc16
  ·refine tq ?_
   (try simp only[Ak] at *);unfold CV;dsimp only;(repeat(first|rw[if_pos zaa]|rw[if_neg zaa]));done
  refine tq ?_
  rcases AX height 0 with hc17|hc17
  ·refine tq ?_
   rcases AX (↑policy.length) 0 with hc18|hc18
   ·refine tq ?_
    rcases AX (↑policy.length) 32 with hc19|hc19
    ·refine tq ?_
     (try simp only[Ak] at *);unfold CV;dsimp only;(repeat(first|rw[if_pos zaa]|rw[if_neg zaa]));done
    refine tq ?_;rw[Ei _]
    conv=>lhs;whnf
    try dsimp -iota -beta -eta -zeta only
    rw[drw zas];conv=>lhs;whnf
    rw[Ad]
    conv=>lhs;whnf
    rcases AX (↑unique.length) (uniq 2) with hc20|hc20
    ·refine tq ?_
     (try simp only[Ak] at *);unfold CV;dsimp only;(repeat(first|rw[if_pos zaa]|rw[if_neg zaa]));done
    refine tq ?_
    (try simp only[Ak] at *);unfold CV;dsimp only;(repeat(first|rw[if_pos zaa]|rw[if_neg zaa]));done
   refine tq ?_;rw[Ei _];refine tq ?_
   rcases AX (↑unique.length) (uniq 2) with hc21|hc21
   ·refine tq ?_
    (try simp only[Ak] at *);unfold CV;dsimp only;(repeat(first|rw[if_pos zaa]|rw[if_neg zaa]));done
   refine tq ?_
   (try simp only[Ak] at *);unfold CV;dsimp only;(repeat(first|rw[if_pos zaa]|rw[if_neg zaa]));done
  subst hc17;refine tq ?_
  rcases AX (↑policy.length) 0 with hc22|hc22
  ·refine tq ?_
   rcases AX (↑policy.length) 32 with hc23|hc23
   ·refine tq ?_
    (try simp only[Ak] at *);unfold CV;dsimp only;(repeat(first|rw[if_pos zaa]|rw[if_neg zaa]));done
   refine tq ?_;rw[Ei _];refine tq ?_
   rcases AX (↑unique.length) (uniq 2) with hc24|hc24
   ·refine tq ?_
    (try simp only[Ak] at *);unfold CV;dsimp only;(repeat(first|rw[if_pos zaa]|rw[if_neg zaa]));done
   rw[Cf zaG]
   conv=>lhs;whnf
   rw[Ad]
   conv=>lhs;whnf
   (try simp only[Ak] at *);unfold CV;dsimp only;(repeat(first|rw[if_pos zaa]|rw[if_neg zaa]));done
  refine tq ?_;rw[Ei _];refine tq ?_
  rcases AX (↑unique.length) (uniq 2) with hc25|hc25
  ·refine tq ?_
   (try simp only[Ak] at *);unfold CV;dsimp only;(repeat(first|rw[if_pos zaa]|rw[if_neg zaa]));done
  refine tq ?_
  (try simp only[Ak] at *);unfold CV;dsimp only;(repeat(first|rw[if_pos zaa]|rw[if_neg zaa]));done
 rw[Cf zaa]
 conv=>lhs;whnf
 rw[Ad]
 conv=>lhs;whnf
 rcases AL (BA BinOp.and attr 1) 0 with hc26|hc26
 ·refine tq ?_
  rcases AL (↑policy.length) 0 with hc27|hc27
  ·refine tq ?_
   (try simp only[Ak] at *);unfold CV;dsimp only;(repeat(first|rw[if_pos zaa]|rw[if_neg zaa]));done
  refine tq ?_
  rcases AZ height 0 with hc28|hc28
  ·refine tq ?_
   (try simp only[Ak] at *);unfold CV;dsimp only;(repeat(first|rw[if_pos zaa]|rw[if_neg zaa]));done
  refine tq ?_
  rcases AZ 3 height with hc29|hc29
  ·refine tq ?_
   (try simp only[Ak] at *);unfold CV;dsimp only;(repeat(first|rw[if_pos zaa]|rw[if_neg zaa]));done
  refine tq ?_
  rcases AX height 0 with hc30|hc30
  ·refine tq ?_
   rcases AX kind 2 with hc31|hc31
   ·refine tq ?_
    (try simp only[Ak] at *);unfold CV;dsimp only;(repeat(first|rw[if_pos zaa]|rw[if_neg zaa]));done
   subst hc31;refine tq ?_
   rcases AX (↑policy.length) 32 with hc32|hc32
   ·refine tq ?_
    (try simp only[Ak] at *);unfold CV;dsimp only;(repeat(first|rw[if_pos zaa]|rw[if_neg zaa]));done
   refine tq ?_;rw[Ei _]
   conv=>lhs;whnf
   try dsimp -iota -beta -eta -zeta only
   rw[drw zas];conv=>lhs;whnf
   rw[Ad]
   conv=>lhs;whnf
   rcases AX (↑unique.length) (uniq 2) with hc33|hc33
   ·refine tq ?_
    (try simp only[Ak] at *);unfold CV;dsimp only;(repeat(first|rw[if_pos zaa]|rw[if_neg zaa]));done
   refine tq ?_
   (try simp only[Ak] at *);unfold CV;dsimp only;(repeat(first|rw[if_pos zaa]|rw[if_neg zaa]));done
  subst hc30;refine tq ?_
  rcases AX (↑policy.length) 32 with hc34|hc34
  ·refine tq ?_
   (try simp only[Ak] at *);unfold CV;dsimp only;(repeat(first|rw[if_pos zaa]|rw[if_neg zaa]));done
  refine tq ?_;rw[Ei _];refine tq ?_
  rcases AX (↑unique.length) (uniq kind) with hc35|hc35
  ·rw[G8 zaG]
   conv=>lhs;whnf
   rw[Ad]
   conv=>lhs;whnf
   (try simp only[Ak] at *);unfold CV;dsimp only;(repeat(first|rw[if_pos zaa]|rw[if_neg zaa]));done
  rw[Cf zaG]
  conv=>lhs;whnf
  rw[Ad]
  conv=>lhs;whnf
  (try simp only[Ak] at *);unfold CV;dsimp only;(repeat(first|rw[if_pos zaa]|rw[if_neg zaa]));done
 refine tq ?_
 rcases AZ height 0 with hc36|hc36
 ·refine tq ?_
  (try simp only[Ak] at *);unfold CV;dsimp only;(repeat(first|rw[if_pos zaa]|rw[if_neg zaa]));done
 refine tq ?_
 rcases AZ 3 height with hc37|hc37
 ·refine tq ?_
  (try simp only[Ak] at *);unfold CV;dsimp only;(repeat(first|rw[if_pos zaa]|rw[if_neg zaa]));done
 refine tq ?_
 rcases AX height 0 with hc38|hc38
 ·rw[G8 zaa]
  conv=>lhs;whnf
  rcases AX kind 2 with hc39|hc39
  ·refine tq ?_
   (try simp only[Ak] at *);unfold CV;dsimp only;(repeat(first|rw[if_pos zaa]|rw[if_neg zaa]));done
  subst hc39;refine tq ?_
  rcases AX (↑policy.length) 0 with hc40|hc40
  ·refine tq ?_
   rcases AX (↑policy.length) 32 with hc41|hc41
   ·refine tq ?_
    (try simp only[Ak] at *);unfold CV;dsimp only;(repeat(first|rw[if_pos zaa]|rw[if_neg zaa]));done
   refine tq ?_;rw[Ei _];refine tq ?_
   rcases AX (↑unique.length) (uniq 2) with hc42|hc42
   ·refine tq ?_
    (try simp only[Ak] at *);unfold CV;dsimp only;(repeat(first|rw[if_pos zaa]|rw[if_neg zaa]));done
   rw[Cf zaG]
   conv=>lhs;whnf
   rw[Ad]
   conv=>lhs;whnf
   (try simp only[Ak] at *);unfold CV;dsimp only;(repeat(first|rw[if_pos zaa]|rw[if_neg zaa]));done
  refine tq ?_;rw[Ei _];refine tq ?_
  rcases AX (↑unique.length) (uniq 2) with hc43|hc43
  ·refine tq ?_
   (try simp only[Ak] at *);unfold CV;dsimp only;(repeat(first|rw[if_pos zaa]|rw[if_neg zaa]));done
  refine tq ?_
  (try simp only[Ak] at *);unfold CV;dsimp only;(repeat(first|rw[if_pos zaa]|rw[if_neg zaa]));done
 subst hc38;refine tq ?_
 rcases AX (↑policy.length) 0 with hc44|hc44
 ·refine tq ?_
  rcases AX (↑policy.length) 32 with hc45|hc45
  ·refine tq ?_
   (try simp only[Ak] at *);unfold CV;dsimp only;(repeat(first|rw[if_pos zaa]|rw[if_neg zaa]));done
  refine tq ?_;rw[Ei _];refine tq ?_
  rcases AX (↑unique.length) (uniq kind) with hc46|hc46
  ·refine tq ?_
   (try simp only[Ak] at *);unfold CV;dsimp only;(repeat(first|rw[if_pos zaa]|rw[if_neg zaa]));done
  refine tq ?_
  (try simp only[Ak] at *);unfold CV;dsimp only;(repeat(first|rw[if_pos zaa]|rw[if_neg zaa]));done
 refine tq ?_;rw[Ei _];refine tq ?_
 rcases AX (↑unique.length) (uniq kind) with hc47|hc47
 ·refine tq ?_
  (try simp only[Ak] at *);unfold CV;dsimp only;(repeat(first|rw[if_pos zaa]|rw[if_neg zaa]));done
 refine tq ?_
 (try simp only[Ak] at *);unfold CV;dsimp only;(repeat(first|rw[if_pos zaa]|rw[if_neg zaa]));done
theorem SB(hp:policy.length<=1000000)(hu:unique.length<=1000000):Y E0 (.call 37 [.agg [.i kind,.i attr,.i height,.sl .u8 policy,.sl .u8 unique]] [])=some (.ret (.sl .u8 (EL ⟨kind,attr,height,policy,unique⟩)) []):=by
 refine tq ?_;rw[KL _ _ A7];refine tq ?_;rw[KL _ _ A7];refine tq ?_
 (simp only[FP];rfl)
theorem IY(hp:policy.length<=1000000)(hu:unique.length<=1000000):Y E0 (.call 111 [.agg [.i kind,.i attr,.i height,.sl .u8 policy,.sl .u8 unique]] [])=some (.ret (.nm 0) [some (.row 5 .u8 (EL ⟨kind,attr,height,policy,unique⟩))]):=by
 refine tq ?_;rw[GM _ _ A7];refine tq ?_;rw[GM _ _ A7];refine tq ?_
 (simp only[FP];rfl)
theorem X4(hb:b.length<=4294967296):Y E0 (.call 11 [.sl .u8 b] [])=some (.ret (.tup [.agg (PI (F8 b).1),.i (F8 b).2]) []):=by
 refine tq ?_;rw[Qe _];refine tq ?_;rw[show Y E0 (.call 40 [.pa 0 0,.i 1] [.var [.sl .u8 b,.i 0,.i 0]])=_ from Gs b 0 0 1 hb (Nat.zero_le _)];generalize g0:Hr b 0 0 1=x0;obtain⟨v0,p0,er0⟩:=x0;have k0:p0<=b.length:=zaL
 refine tq ?_;rw[Gs b p0 er0 1 hb k0];generalize g1:Hr b p0 er0 1=x1;obtain⟨v1,p1,er1⟩:=x1;have k1:p1<=b.length:=zaQ
 refine tq ?_;rw[Gs b p1 er1 1 hb k1];generalize g2:Hr b p1 er1 1=x2;obtain⟨v2,p2,er2⟩:=x2;have k2:p2<=b.length:=zaR
 refine tq ?_;rw[IL b p2 er2 32 hb k2];generalize g3:Ie b p2 er2 32=x3;obtain⟨v3,p3,er3⟩:=x3;have k3:p3<=b.length:=zaO;have l3:v3.length<=b.length:=(by have:=Gg (b:=b) (at':=p2) (e:=er2) (most:=32);rw[g3] at this;exact this);have m3:v3.length<=32:=(by have:=Gn (b:=b) (at':=p2) (e:=er2) (most:=32) zal;rw[g3] at this;simp only at this;omega)
 refine tq ?_;rw[IL b p3 er3 32 hb k3];generalize g4:Ie b p3 er3 32=x4;obtain⟨v4,p4,er4⟩:=x4;have k4:p4<=b.length:=zbm;have l4:v4.length<=b.length:=(by have:=Gg (b:=b) (at':=p3) (e:=er3) (most:=32);rw[g4] at this;exact this);have m4:v4.length<=32:=(by have:=Gn (b:=b) (at':=p3) (e:=er3) (most:=32) zal;rw[g4] at this;simp only at this;omega)
 refine tq ?_;rw[VI _ _ _ A7 A7];refine tq ?_
 rcases AL (U2 b p4 er4) 0 with hc0|hc0
 ·refine tq ?_;rw[Ju ..];refine tq ?_
  rcases AX (CV {kind:=v0,attr:=v1,height:=v2,policy:=v3,unique:=v4}) 0 with hc1|hc1
  ·refine tq ?_
   rw[Ry g0 g1 g2 g3 g4];(repeat(first|rw[if_pos zac]|rw[if_neg zac]));rfl
  refine tq ?_
  rw[Ry g0 g1 g2 g3 g4];(repeat(first|rw[if_pos zac]|rw[if_neg zac]));done
 refine tq ?_
 rw[Ry g0 g1 g2 g3 g4];(repeat(first|rw[if_pos zac]|rw[if_neg zac]));rfl
theorem tJ{v0 v1 v2 er0 er1 er2:Int}{p0 p1 p2:Nat}(hb:b.length<=4294967296)(g0:Hr b 0 0 1=(v0,p0,er0))(g1:Hr b p0 er0 1=(v1,p1,er1))(g2:Hr b p1 er1 1=(v2,p2,er2)):
  Y E0 (.loop 131 0 0 4 [(2,.pa 0 0),(4,.pa 1 0),(5,.pa 2 0),(17,.nm 3),(18,.i 3),(19,.i 0)] [(0,some (.var [.i 0,.i 0,.i 0,.nil,.nil])),(1,some (.var [.sl .u8 b,.i 0,.i 0])),(2,some (.var [.i 0,.i 0,.i 0,.nil,.nil])),(3,some (.rowA 209 1 3 [.pa 2 0,.pa 2 1,.pa 2 2]))])=some (.fin (.exit 0) 3 [(2,.pa 0 0),(4,.pa 1 0),(5,.pa 2 0)] [(0,some (.var [.i 0,.i 0,.i 0,.nil,.nil])),(1,some (.var [.sl .u8 b,.i p2,.i er2])),(2,some (.var [.i v0,.i v1,.i v2,.nil,.nil]))]):=by
 have k0:p0<=b.length:=zaL
 have k1:p1<=b.length:=zaQ
 have k2:p2<=b.length:=zaR
 refine tq ?_;rw[show Y E0 (.call 189 [.pa 0 0,.i 1] [.var [.sl .u8 b,.i 0,.i 0]])=_ from Zq b 0 0 1 hb (Nat.zero_le _),g0];refine tq ?_;refine tq ?_;rw[Zq b p0 er0 1 hb k0,g1];refine tq ?_;refine tq ?_;rw[Zq b p1 er1 1 hb k1,g2];refine tq ?_;exact tq rfl
theorem tK(v0 v1 v2:Int){v3 v4:List UInt8}{er2 er3 er4:Int}{p2 p3 p4:Nat}(hb:b.length<=4294967296)(k2:p2<=b.length)(g3:Ie b p2 er2 32=(v3,p3,er3))(g4:Ie b p3 er3 32=(v4,p4,er4)):
  Y E0 (.loop 131 1 0 4 [(2,.pa 0 0),(4,.pa 1 0),(5,.pa 2 0),(30,.nm 3),(31,.i 2),(32,.i 0)] [(0,some (.var [.i 0,.i 0,.i 0,.nil,.nil])),(1,some (.var [.sl .u8 b,.i p2,.i er2])),(2,some (.var [.i v0,.i v1,.i v2,.nil,.nil])),(3,some (.rowA 211 1 2 [.pa 2 3,.pa 2 4]))])=some (.fin (.exit 2) 3 [(2,.pa 0 0),(4,.pa 1 0),(5,.pa 2 0)] [(0,some (.var [.i 0,.i 0,.i 0,.nil,.nil])),(1,some (.var [.sl .u8 b,.i p4,.i er4])),(2,some (.var [.i v0,.i v1,.i v2,.sl .u8 v3,.sl .u8 v4]))]):=by
 have k3:p3<=b.length:=zaO
 refine tq ?_;rw[NL b p2 er2 32 hb k2,g3];refine tq ?_;refine tq ?_;rw[NL b p3 er3 32 hb k3,g4];refine tq ?_;exact tq rfl
theorem A5U(hb:b.length<=4294967296):Y E0 (.call 131 [.sl .u8 b] [])=some (.ret (.tup [.agg (PI (F8 b).1),.i (F8 b).2]) []):=by
 refine tq ?_;rw[tH _ A7];refine tq ?_;rw[show((3:Nat):Int)=3 from rfl];generalize g0:Hr b 0 0 1=x0;obtain⟨v0,p0,er0⟩:=x0;generalize g1:Hr b p0 er0 1=x1;obtain⟨v1,p1,er1⟩:=x1;generalize g2:Hr b p1 er1 1=x2;obtain⟨v2,p2,er2⟩:=x2;rw[tJ b hb g0 g1 g2];refine tq ?_;rw[show((2:Nat):Int)=2 from rfl];have k0:p0<=b.length:=zaL;have k1:p1<=b.length:=zaQ;have k2:p2<=b.length:=zaR;generalize g3:Ie b p2 er2 32=x3;obtain⟨v3,p3,er3⟩:=x3;generalize g4:Ie b p3 er3 32=x4;obtain⟨v4,p4,er4⟩:=x4;have k3:p3<=b.length:=zaO;have k4:p4<=b.length:=zbm;have l3:=Gg (b:=b) (at':=p2) (e:=er2) (most:=32);rw[g3] at l3;have l4:=Gg (b:=b) (at':=p3) (e:=er3) (most:=32);rw[g4] at l4;rw[tK b v0 v1 v2 hb k2 g3 g4];refine tq ?_;rw[iw _ _ _ A7 A7];refine tq ?_
 rcases AX (U2 b p4 er4) 0 with hc0|hc0
 ·refine tq ?_
  rw[Ry g0 g1 g2 g3 g4];(repeat(first|rw[if_pos zac]|rw[if_neg zac]));rfl
 refine tq ?_;rw[X3 ..];refine tq ?_
 rcases AX (CV {kind:=v0,attr:=v1,height:=v2,policy:=v3,unique:=v4}) 0 with hc1|hc1
 ·refine tq ?_
  rw[Ry g0 g1 g2 g3 g4];(repeat(first|rw[if_pos zac]|rw[if_neg zac]));rfl
 refine tq ?_
 rw[Ry g0 g1 g2 g3 g4];(repeat(first|rw[if_pos zac]|rw[if_neg zac]));done
theorem tN(kind' attr' height':Int)(policy' unique':List UInt8)(hp:policy.length<=1000000)(hu:unique.length<=1000000):Y E0 (.call 142 [.agg [.i kind,.i attr,.i height,.sl .u8 policy,.sl .u8 unique],.agg [.i kind',.i attr',.i height',.sl .u8 policy',.sl .u8 unique']] [])=some (.ret (.b (Su ⟨kind,attr,height,policy,unique⟩ ⟨kind',attr',height',policy',unique'⟩)) []):=by
 refine tq ?_
 rcases AL kind kind' with hc0|hc0
 ·subst hc0;refine tq ?_
  rcases AL attr attr' with hc1|hc1
  ·subst hc1;refine tq ?_
   rcases AL height height' with hc2|hc2
   ·subst hc2;refine tq ?_;rw[Bq _ _ A7];refine tq ?_
    rcases Decidable.em (policy=policy') with hc3|hc3
    ·rw[decide_eq_true zan]
     conv=>lhs;whnf
     rw[Ad]
     conv=>lhs;whnf
     try dsimp -iota -beta -eta -zeta only
     rw[AQ];rw[Bq _ _ A7];refine tq ?_
     simp_all[Su,Dz]
    refine tq ?_
    simp_all[Su,Dz]
   refine tq ?_
   simp_all[Su,Dz]
  refine tq ?_
  simp_all[Su,Dz]
 refine tq ?_
 simp_all[Su,Dz]
theorem A5V:Y E0 (.call 18 [.agg [.i kind,.i attr,.i height,.sl .u8 policy,.sl .u8 unique]] [])=some (.ret (.b (NI ⟨kind,attr,height,policy,unique⟩)) []):=by
 refine tq ?_
 rcases DJ (↑policy.length) 60 with hc0|hc0
 ·refine tq ?_
  simp_all[NI,EU,BB];done
 refine tq ?_;rw[A3R zay]
theorem iy(m:Int)(hm:1<=m/\m<=1000000000):Y E0 (.call 20 [.i n,.i m] [])=some (.ret (.i (n%m)) []):=by
 have hb:=YL n hm.1
 refine tq ?_
 rcases AZ (DD n m) 0 with hc0|hc0
 ·refine tp ?_;rw[Au zaa,mW hm.1 zaa]
 refine tq ?_;rw[mV hm.1 zaa]
theorem A5W:Y E0 (.call 19 [.agg [.i kind,.i attr,.i height,.sl .u8 policy,.sl .u8 unique]] [])=some (.ret (.agg (PI (Ig ⟨kind,attr,height,policy,unique⟩))) []):=by
 have hu:=YM (1+kind%3)
 refine tq ?_;rw[iy _ _ A7];refine tp ?_;rw[iy _ _ A7];refine tq ?_
 rcases AL (1+kind%3) 2 with hc0|hc0
 ·refine tq ?_;rw[iy _ _ A7];refine tq ?_
  rcases AZ 0 (↑policy.length) with hc1|hc1
  ·refine tq ?_;rw[IK _];refine tq ?_;rw[Ei _];refine tq ?_
   (have hp:0<policy.length:=zaa;simp only[Ig,QT,PI,Ak,hc0,hp,ne_eq,not_true_eq_false,not_false_eq_true,if_true,if_false,decide_true,decide_false,Bool.false_eq_true,Zj,Na,FH,List.length_replicate])
  refine tq ?_;rw[Ei _];refine tq ?_
  (have hp:¬0<policy.length:=zaa;simp only[Ig,QT,PI,Ak,hc0,hp,ne_eq,not_true_eq_false,not_false_eq_true,if_true,if_false,decide_true,decide_false,Bool.false_eq_true,Zj,Na,FH,List.length_replicate])
 refine tq ?_
 rcases AZ 0 (↑policy.length) with hc2|hc2
 ·refine tq ?_;rw[IK _];refine tq ?_;rw[Ei _];refine tq ?_
  (have hp:0<policy.length:=zaa;simp only[Ig,QT,PI,Ak,hc0,hp,ne_eq,not_true_eq_false,not_false_eq_true,if_true,if_false,decide_true,decide_false,Bool.false_eq_true,Zj,Na,FH,List.length_replicate])
 refine tq ?_;rw[Ei _];refine tq ?_
 (have hp:¬0<policy.length:=zaa;simp only[Ig,QT,PI,Ak,hc0,hp,ne_eq,not_true_eq_false,not_false_eq_true,if_true,if_false,decide_true,decide_false,Bool.false_eq_true,Zj,Na,FH,List.length_replicate])
theorem Qg(hp:policy.length<=60000)(hu:unique.length<=60000):Y E0 (.call 38 [.agg [.i kind,.i attr,.i height,.sl .u8 policy,.sl .u8 unique]] [])=some (.ret (.sl .u8 (nameB ⟨kind,attr,height,policy,unique⟩)) []):=by
 have hl:=Hf (p:=⟨kind,attr,height,policy,unique⟩) (Nat.le_trans hp zal) (Nat.le_trans hu zal)
 refine tq ?_;rw[SB _ _ _ _ _ A7 A7];refine tq ?_;rw[I8 _ _ A7 A7];refine tq ?_
 rfl
theorem GR(hp:policy.length<=60000)(hu:unique.length<=60000):Y E0 (.call 51 [.agg [.i kind,.i attr,.i height,.sl .u8 policy,.sl .u8 unique]] [])=some (.ret (.sl .u8 (nameB ⟨kind,attr,height,policy,unique⟩)) []):=by
 have hl:=Hf (p:=⟨kind,attr,height,policy,unique⟩) (Nat.le_trans hp zal) (Nat.le_trans hu zal)
 refine tq ?_;rw[IY _ _ _ _ _ A7 A7];refine tq ?_;rw[F5 _ _ A7 A7];refine tq ?_
 rfl
theorem Zr(size:Int)(policy auth:List UInt8)(written:Bool)(data:List UInt8):Y E0 (.call 306 [.agg [.i n,.i kind,.i attr,.i size,.sl .u8 policy,.sl .u8 auth,.b written,.sl .u8 data]] [])=some (.ret (.sl .u8 (A5P ⟨n,kind,attr,size,policy,auth,written,data⟩)) []):=by
 cases written
 ·refine tq ?_;rw[CP _ _ _ A7];refine tq ?_
  (simp only[Ag,FP];rfl)
 ·refine tq ?_;rw[CP _ _ _ A7];refine tq ?_
  (simp only[Ag,FP];rfl)
theorem dZ(size:Int)(policy auth:List UInt8)(written:Bool)(data:List UInt8)(hp:policy.length<=1000000):Y E0 (.call 275 [.agg [.i n,.i kind,.i attr,.i size,.sl .u8 policy,.sl .u8 auth,.b written,.sl .u8 data]] [])=some (.ret (.sl .u8 (VE ⟨n,kind,attr,size,policy,auth,written,data⟩)) []):=by
 cases written
 ·refine tq ?_;rw[Zr ..];refine tq ?_;rw[F5 _ _ A7 A7];refine tq ?_
  rfl
 ·refine tq ?_;rw[Zr ..];refine tq ?_;rw[F5 _ _ A7 A7];refine tq ?_
  rfl
theorem tV(h:Int):Y E0 (.call 276 [.i h] [])=some (.ret (.sl .u8 (Zl h)) []):=by
 refine tq ?_
 rcases AZ h 0 with hc0|hc0
 ·refine tq ?_
  unfold Zl;(repeat(first|rw[if_pos zac]|rw[if_neg zac]));try simp only[NO]
 refine tq ?_
 rcases AZ 3 h with hc1|hc1
 ·refine tq ?_
  unfold Zl;(repeat(first|rw[if_pos zac]|rw[if_neg zac]));try simp only[NO]
 refine tq ?_;rw[F5 _ _ A7 A7];refine tq ?_
 (rw[Zl,if_neg zaa,<-FP])
end
end Go.Proofs.YtnhgnfdbdflhcaaGreatDoor
