/-
  Own texts, laid together for this claim: contracts of functions of the program and its references, used by the statements of this seat.
-/
import Derived.Test.YtanagnimhaemgaaGreatDoorMtac
import Derived.Test.YtanagnimhaemgaaGreatDoorMtad
import Derived.Test.YtanagnimhaemgaaGreatDoorMtaf
import Derived.Test.YtanagnimhaemgaaGreatDoorMtah
import Derived.Test.YtanagnimhaemgaaGreatDoorMtaj
set_option linter.all false
set_option maxHeartbeats 40000000
set_option maxRecDepth 100000
namespace Go.Ax
abbrev pubX(p:Pub):List AV:=[.i p.kind,.i p.attr,.i p.height,.sl .u8 p.policy,.sl .u8 p.unique]
end Go.Ax
namespace Go.Proofs.YtanagnimhaemgaaGreatDoor
open Go Go.Ax Go.Eng
variable (kind attr height:Int)(policy unique:List UInt8)
section
attribute [local irreducible] BL BM BN BO BP BJ BQ CX Cm CY CW Ba Bc BF BC and' BG Bd Aa Ac Ad Ae Af AL AO AP AQ BR D8 BU D5 Be Bf Ag Ah Ai Aj AB AZ AU Ar BA BV BH BB Au Aw BI Bg BX fits BZ BK A7 A8 AC
theorem ev_asize(k:Int):Y E0 (.call 287 [.i k] [])=some (.ret (.i (uniq k)) []):=by
 refine tq ?_
 rcases ieq_c k 2 with hc0|hc0
 ·subst hc0;refine tq ?_
  unfold uniq;(repeat(first|rw[if_pos (by first|omega|decide|assumption|(simp only[OO,XX,ZO,VZ,Va,YM,Gu,Zf,Zg,Zh,LL] at *<;>omega)|(simp;omega))]|rw[if_neg (by first|omega|decide|assumption|(simp only[OO,XX,ZO,VZ,Va,YM,Gu,Zf,Zg,Zh,LL] at *<;>omega)|(simp;omega))]));try simp only[NO]
 refine tq ?_
 unfold uniq;(repeat(first|rw[if_pos (by first|omega|decide|assumption|(simp only[OO,XX,ZO,VZ,Va,YM,Gu,Zf,Zg,Zh,LL] at *<;>omega)|(simp;omega))]|rw[if_neg (by first|omega|decide|assumption|(simp only[OO,XX,ZO,VZ,Va,YM,Gu,Zf,Zg,Zh,LL] at *<;>omega)|(simp;omega))]));try simp only[NO]
theorem ev_acheck:Y E0 (.call 228 [.agg [.i kind,.i attr,.i height,.sl .u8 policy,.sl .u8 unique]] [])=some (.ret (.i (Tj ⟨kind,attr,height,policy,unique⟩)) []):=by
 refine tq ?_
 rcases ilt_c kind 1 with hc0|hc0
 ·refine tq ?_
  (try simp only[ibit_eq] at *);unfold Tj;dsimp only;(repeat(first|rw[if_pos zf]|rw[if_neg zf]));done
 refine tq ?_
 rcases ilt_c 3 kind with hc1|hc1
 ·refine tq ?_
  (try simp only[ibit_eq] at *);unfold Tj;dsimp only;(repeat(first|rw[if_pos zf]|rw[if_neg zf]));done
 refine tq ?_
 rcases ilt_c attr 0 with hc2|hc2
 ·refine tq ?_
  (try simp only[ibit_eq] at *);unfold Tj;dsimp only;(repeat(first|rw[if_pos zf]|rw[if_neg zf]));done
 refine tq ?_
 rcases ilt_c 7 attr with hc3|hc3
 ·refine tq ?_
  (try simp only[ibit_eq] at *);unfold Tj;dsimp only;(repeat(first|rw[if_pos zf]|rw[if_neg zf]));done
 refine tq ?_
 rcases ine_c (BJ BinOp.and attr 4) 0 with hc4|hc4
 ·refine tq ?_
  rcases ieq_c kind 2 with hc5|hc5
  ·subst hc5;refine tq ?_
   rcases ieq_c (BJ BinOp.and attr 1) 0 with hc6|hc6
   ·refine tq ?_
    rcases ieq_c (↑policy.length) 0 with hc7|hc7
    ·rw[fD (by(simp only[OO,XX,ZO,VZ,Va,YM,Gu,Zf,Zg,Zh,LL] at *<;>omega))]
     conv=>lhs;whnf
     rw[JB]
     conv=>lhs;whnf
     (try simp only[ibit_eq] at *);unfold Tj;dsimp only;(repeat(first|rw[if_pos zf]|rw[if_neg zf]));done
    refine tq ?_
    rcases ilt_c height 0 with hc8|hc8
    ·refine tq ?_
     (try simp only[ibit_eq] at *);unfold Tj;dsimp only;(repeat(first|rw[if_pos zf]|rw[if_neg zf]));done
    rw[fJ zf]
    conv=>lhs;whnf
    rw[JB]
    conv=>lhs;whnf
    rcases ilt_c 3 height with hc9|hc9
    ·refine tq ?_
     (try simp only[ibit_eq] at *);unfold Tj;dsimp only;(repeat(first|rw[if_pos zf]|rw[if_neg zf]));done
    refine tq ?_
    rcases ine_c height 0 with hc10|hc10
    ·refine tq ?_
     rcases ine_c (↑policy.length) 32 with hc11|hc11
     ·refine tq ?_
      (try simp only[ibit_eq] at *);unfold Tj;dsimp only;(repeat(first|rw[if_pos zf]|rw[if_neg zf]));done
     refine tq ?_;rw[ev_asize _];refine tq ?_
     rcases ine_c (↑unique.length) (uniq 2) with hc12|hc12
     ·refine tq ?_
      (try simp only[ibit_eq] at *);unfold Tj;dsimp only;(repeat(first|rw[if_pos zf]|rw[if_neg zf]));done
     refine tq ?_
     (try simp only[ibit_eq] at *);unfold Tj;dsimp only;(repeat(first|rw[if_pos zf]|rw[if_neg zf]));done
    subst hc10;refine tq ?_
    rcases ine_c (↑policy.length) 32 with hc13|hc13
    ·refine tq ?_
     (try simp only[ibit_eq] at *);unfold Tj;dsimp only;(repeat(first|rw[if_pos zf]|rw[if_neg zf]));done
    refine tq ?_;rw[ev_asize _];refine tq ?_
    rcases ine_c (↑unique.length) (uniq 2) with hc14|hc14
    ·refine tq ?_
     (try simp only[ibit_eq] at *);unfold Tj;dsimp only;(repeat(first|rw[if_pos zf]|rw[if_neg zf]));done
    refine tq ?_
    (try simp only[ibit_eq] at *);unfold Tj;dsimp only;(repeat(first|rw[if_pos zf]|rw[if_neg zf]));done
   refine tq ?_
   rcases ilt_c height 0 with hc15|hc15
   ·rw[fH zf]
    conv=>lhs;whnf
    rw[JB]
    conv=>lhs;whnf
    (try simp only[ibit_eq] at *);unfold Tj;dsimp only;(repeat(first|rw[if_pos zf]|rw[if_neg zf]));done
   rw[fJ zf]
   conv=>lhs;whnf
   rw[JB]
   conv=>lhs;whnf
   rcases ilt_c 3 height with hc16|hc16
   ·refine tq ?_
    (try simp only[ibit_eq] at *);unfold Tj;dsimp only;(repeat(first|rw[if_pos zf]|rw[if_neg zf]));done
   refine tq ?_
   rcases ine_c height 0 with hc17|hc17
   ·refine tq ?_
    rcases ine_c (↑policy.length) 0 with hc18|hc18
    ·refine tq ?_
     rcases ine_c (↑policy.length) 32 with hc19|hc19
     ·refine tq ?_
      (try simp only[ibit_eq] at *);unfold Tj;dsimp only;(repeat(first|rw[if_pos zf]|rw[if_neg zf]));done
     refine tq ?_;rw[ev_asize _];refine tq ?_
     rcases ine_c (↑unique.length) (uniq 2) with hc20|hc20
     ·refine tq ?_
      (try simp only[ibit_eq] at *);unfold Tj;dsimp only;(repeat(first|rw[if_pos zf]|rw[if_neg zf]));done
     refine tq ?_
     (try simp only[ibit_eq] at *);unfold Tj;dsimp only;(repeat(first|rw[if_pos zf]|rw[if_neg zf]));done
    refine tq ?_;rw[ev_asize _];refine tq ?_
    rcases ine_c (↑unique.length) (uniq 2) with hc21|hc21
    ·refine tq ?_
     (try simp only[ibit_eq] at *);unfold Tj;dsimp only;(repeat(first|rw[if_pos zf]|rw[if_neg zf]));done
    refine tq ?_
    (try simp only[ibit_eq] at *);unfold Tj;dsimp only;(repeat(first|rw[if_pos zf]|rw[if_neg zf]));done
   subst hc17;refine tq ?_
   rcases ine_c (↑policy.length) 0 with hc22|hc22
   ·refine tq ?_
    rcases ine_c (↑policy.length) 32 with hc23|hc23
    ·refine tq ?_
     (try simp only[ibit_eq] at *);unfold Tj;dsimp only;(repeat(first|rw[if_pos zf]|rw[if_neg zf]));done
    refine tq ?_;rw[ev_asize _];refine tq ?_
    rcases ine_c (↑unique.length) (uniq 2) with hc24|hc24
    ·refine tq ?_
     (try simp only[ibit_eq] at *);unfold Tj;dsimp only;(repeat(first|rw[if_pos zf]|rw[if_neg zf]));done
    refine tq ?_
    (try simp only[ibit_eq] at *);unfold Tj;dsimp only;(repeat(first|rw[if_pos zf]|rw[if_neg zf]));done
   refine tq ?_;rw[ev_asize _];refine tq ?_
   rcases ine_c (↑unique.length) (uniq 2) with hc25|hc25
   ·refine tq ?_
    (try simp only[ibit_eq] at *);unfold Tj;dsimp only;(repeat(first|rw[if_pos zf]|rw[if_neg zf]));done
   refine tq ?_
   (try simp only[ibit_eq] at *);unfold Tj;dsimp only;(repeat(first|rw[if_pos zf]|rw[if_neg zf]));done
  refine tq ?_
  (try simp only[ibit_eq] at *);unfold Tj;dsimp only;(repeat(first|rw[if_pos zf]|rw[if_neg zf]));done
 refine tq ?_
 rcases ieq_c (BJ BinOp.and attr 1) 0 with hc26|hc26
 ·refine tq ?_
  rcases ieq_c (↑policy.length) 0 with hc27|hc27
  ·refine tq ?_
   (try simp only[ibit_eq] at *);unfold Tj;dsimp only;(repeat(first|rw[if_pos zf]|rw[if_neg zf]));done
  refine tq ?_
  rcases ilt_c height 0 with hc28|hc28
  ·refine tq ?_
   (try simp only[ibit_eq] at *);unfold Tj;dsimp only;(repeat(first|rw[if_pos zf]|rw[if_neg zf]));done
  rw[fJ zf]
  conv=>lhs;whnf
  rw[JB]
  conv=>lhs;whnf
  rcases ilt_c 3 height with hc29|hc29
  ·refine tq ?_
   (try simp only[ibit_eq] at *);unfold Tj;dsimp only;(repeat(first|rw[if_pos zf]|rw[if_neg zf]));done
  refine tq ?_
  rcases ine_c height 0 with hc30|hc30
  ·refine tq ?_
   rcases ieq_c kind 2 with hc31|hc31
   ·subst hc31;refine tq ?_
    rcases ine_c (↑policy.length) 32 with hc32|hc32
    ·refine tq ?_
     (try simp only[ibit_eq] at *);unfold Tj;dsimp only;(repeat(first|rw[if_pos zf]|rw[if_neg zf]));done
    refine tq ?_;rw[ev_asize _];refine tq ?_
    rcases ine_c (↑unique.length) (uniq 2) with hc33|hc33
    ·refine tq ?_
     (try simp only[ibit_eq] at *);unfold Tj;dsimp only;(repeat(first|rw[if_pos zf]|rw[if_neg zf]));done
    refine tq ?_
    (try simp only[ibit_eq] at *);unfold Tj;dsimp only;(repeat(first|rw[if_pos zf]|rw[if_neg zf]));done
   refine tq ?_
   (try simp only[ibit_eq] at *);unfold Tj;dsimp only;(repeat(first|rw[if_pos zf]|rw[if_neg zf]));done
  subst hc30;refine tq ?_
  rcases ine_c (↑policy.length) 32 with hc34|hc34
  ·refine tq ?_
   (try simp only[ibit_eq] at *);unfold Tj;dsimp only;(repeat(first|rw[if_pos zf]|rw[if_neg zf]));done
  refine tq ?_;rw[ev_asize _];refine tq ?_
  rcases ine_c (↑unique.length) (uniq kind) with hc35|hc35
  ·refine tq ?_
   (try simp only[ibit_eq] at *);unfold Tj;dsimp only;(repeat(first|rw[if_pos zf]|rw[if_neg zf]));done
  refine tq ?_
  (try simp only[ibit_eq] at *);unfold Tj;dsimp only;(repeat(first|rw[if_pos zf]|rw[if_neg zf]));done
 refine tq ?_
 rcases ilt_c height 0 with hc36|hc36
 ·rw[fH zf]
  conv=>lhs;whnf
  rw[JB]
  conv=>lhs;whnf
  (try simp only[ibit_eq] at *);unfold Tj;dsimp only;(repeat(first|rw[if_pos zf]|rw[if_neg zf]));done
 refine tq ?_
 rcases ilt_c 3 height with hc37|hc37
 ·refine tq ?_
  (try simp only[ibit_eq] at *);unfold Tj;dsimp only;(repeat(first|rw[if_pos zf]|rw[if_neg zf]));done
 refine tq ?_
 rcases ine_c height 0 with hc38|hc38
 ·refine tq ?_
  rcases ieq_c kind 2 with hc39|hc39
  ·subst hc39;refine tq ?_
   rcases ine_c (↑policy.length) 0 with hc40|hc40
   ·refine tq ?_
    rcases ine_c (↑policy.length) 32 with hc41|hc41
    ·refine tq ?_
     (try simp only[ibit_eq] at *);unfold Tj;dsimp only;(repeat(first|rw[if_pos zf]|rw[if_neg zf]));done
    refine tq ?_;rw[ev_asize _];refine tq ?_
    rcases ine_c (↑unique.length) (uniq 2) with hc42|hc42
    ·refine tq ?_
     (try simp only[ibit_eq] at *);unfold Tj;dsimp only;(repeat(first|rw[if_pos zf]|rw[if_neg zf]));done
    refine tq ?_
    (try simp only[ibit_eq] at *);unfold Tj;dsimp only;(repeat(first|rw[if_pos zf]|rw[if_neg zf]));done
   refine tq ?_;rw[ev_asize _];refine tq ?_
   rcases ine_c (↑unique.length) (uniq 2) with hc43|hc43
   ·refine tq ?_
    (try simp only[ibit_eq] at *);unfold Tj;dsimp only;(repeat(first|rw[if_pos zf]|rw[if_neg zf]));done
   refine tq ?_
   (try simp only[ibit_eq] at *);unfold Tj;dsimp only;(repeat(first|rw[if_pos zf]|rw[if_neg zf]));done
  refine tq ?_
  (try simp only[ibit_eq] at *);unfold Tj;dsimp only;(repeat(first|rw[if_pos zf]|rw[if_neg zf]));done
 subst hc38;refine tq ?_
 rcases ine_c (↑policy.length) 0 with hc44|hc44
 ·refine tq ?_
  rcases ine_c (↑policy.length) 32 with hc45|hc45
  ·refine tq ?_
   (try simp only[ibit_eq] at *);unfold Tj;dsimp only;(repeat(first|rw[if_pos zf]|rw[if_neg zf]));done
  refine tq ?_;rw[ev_asize _];refine tq ?_
  rcases ine_c (↑unique.length) (uniq kind) with hc46|hc46
  ·refine tq ?_
   (try simp only[ibit_eq] at *);unfold Tj;dsimp only;(repeat(first|rw[if_pos zf]|rw[if_neg zf]));done
  refine tq ?_
  (try simp only[ibit_eq] at *);unfold Tj;dsimp only;(repeat(first|rw[if_pos zf]|rw[if_neg zf]));done
 refine tq ?_;rw[ev_asize _];refine tq ?_
 rcases ine_c (↑unique.length) (uniq kind) with hc47|hc47
 ·refine tq ?_
  (try simp only[ibit_eq] at *);unfold Tj;dsimp only;(repeat(first|rw[if_pos zf]|rw[if_neg zf]));done
 refine tq ?_
 (try simp only[ibit_eq] at *);unfold Tj;dsimp only;(repeat(first|rw[if_pos zf]|rw[if_neg zf]));done
theorem ev_aenc(hp:policy.length<=1000000)(hu:unique.length<=1000000):Y E0 (.call 250 [.agg [.i kind,.i attr,.i height,.sl .u8 policy,.sl .u8 unique]] [])=some (.ret (.sl .u8 (Dh ⟨kind,attr,height,policy,unique⟩)) []):=by
 refine tq ?_;rw[ev_blob _ _ NE];refine tq ?_;rw[ev_blob _ _ NE];refine tq ?_
 (simp only[iu8_eq];rfl)
theorem ev_aname(hp:policy.length<=60000)(hu:unique.length<=60000):Y E0 (.call 233 [.agg [.i kind,.i attr,.i height,.sl .u8 policy,.sl .u8 unique]] [])=some (.ret (.sl .u8 (nameB ⟨kind,attr,height,policy,unique⟩)) []):=by
 have hl:=encP_len (p:=⟨kind,attr,height,policy,unique⟩) (Nat.le_trans hp zh) (Nat.le_trans hu zh)
 refine tq ?_;rw[ev_aenc _ _ _ _ _ NE NE];refine tq ?_;rw[ev_dig_hash _ _ NE NE];refine tq ?_
 rfl
theorem ev_ahier(h:Int):Y E0 (.call 280 [.i h] [])=some (.ret (.sl .u8 (hierB h)) []):=by
 rw[JB];conv=>lhs;whnf
 rcases Bool.eq_false_or_eq_true (CY h 0) with hc0|hc0
 ·rw[hc0];replace hc0:=of_ilt_t hc0;try simp only[QP] at hc0
  conv=>lhs;whnf
  unfold hierB;(repeat(first|rw[if_pos (by first|omega|decide|assumption|(simp only[OO,XX,ZO,VZ,Va,YM,Gu,Zf,Zg,Zh,LL] at *<;>omega)|(simp;omega))]|rw[if_neg (by first|omega|decide|assumption|(simp only[OO,XX,ZO,VZ,Va,YM,Gu,Zf,Zg,Zh,LL] at *<;>omega)|(simp;omega))]));try simp only[NO]
 ·rw[hc0];replace hc0:=of_ilt_f hc0;try simp only[QP] at hc0
  conv=>lhs;whnf
  rcases Bool.eq_false_or_eq_true (CY 3 h) with hc1|hc1
  ·rw[hc1];replace hc1:=of_ilt_t hc1;try simp only[QP] at hc1
   conv=>lhs;whnf
   unfold hierB;(repeat(first|rw[if_pos (by first|omega|decide|assumption|(simp only[OO,XX,ZO,VZ,Va,YM,Gu,Zf,Zg,Zh,LL] at *<;>omega)|(simp;omega))]|rw[if_neg (by first|omega|decide|assumption|(simp only[OO,XX,ZO,VZ,Va,YM,Gu,Zf,Zg,Zh,LL] at *<;>omega)|(simp;omega))]));try simp only[NO]
  ·rw[hc1];replace hc1:=of_ilt_f hc1;try simp only[QP] at hc1
   conv=>lhs;whnf
   rw[OQ];rw[ev_dig_hash _ _ (by(simp only[OO,XX,ZO,VZ,Va,YM,Gu,Zf,Zg,Zh,LL] at *<;>omega)) (by(simp only[OO,XX,ZO,VZ,Va,YM,Gu,Zf,Zg,Zh,LL] at *<;>omega))]
   conv=>lhs;whnf
   (rw[hierB,if_neg zf,<-iu8_eq])
theorem ev_r10hier(h:Int):Y E0 (.call 19 [.i h] [])=some (.ret (.sl .u8 (hierB h)) []):=by
 refine tq ?_
 rcases ilt_c h 0 with hc0|hc0
 ·refine tq ?_
  unfold hierB;(repeat(first|rw[if_pos (by first|omega|decide|assumption|(simp only[OO,XX,ZO,VZ,Va,YM,Gu,Zf,Zg,Zh,LL] at *<;>omega)|(simp;omega))]|rw[if_neg (by first|omega|decide|assumption|(simp only[OO,XX,ZO,VZ,Va,YM,Gu,Zf,Zg,Zh,LL] at *<;>omega)|(simp;omega))]));try simp only[NO]
 refine tq ?_
 rcases ilt_c 3 h with hc1|hc1
 ·refine tq ?_
  unfold hierB;(repeat(first|rw[if_pos (by first|omega|decide|assumption|(simp only[OO,XX,ZO,VZ,Va,YM,Gu,Zf,Zg,Zh,LL] at *<;>omega)|(simp;omega))]|rw[if_neg (by first|omega|decide|assumption|(simp only[OO,XX,ZO,VZ,Va,YM,Gu,Zf,Zg,Zh,LL] at *<;>omega)|(simp;omega))]));try simp only[NO]
 refine tq ?_;rw[ev_ref_hash _ _ NE NE];refine tq ?_
 (rw[hierB,if_neg zf,<-iu8_eq])
end
end Go.Proofs.YtanagnimhaemgaaGreatDoor
