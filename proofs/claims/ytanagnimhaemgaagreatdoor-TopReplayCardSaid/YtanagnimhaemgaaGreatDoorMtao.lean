/-
  Own texts, laid together for this claim: contracts of functions of the program and its references, used by the statements of this seat.
-/
import Derived.Test.YtanagnimhaemgaaGreatDoorMtac
import Derived.Test.YtanagnimhaemgaaGreatDoorMtad
import Derived.Test.YtanagnimhaemgaaGreatDoorMtan
set_option linter.all false
set_option maxHeartbeats 40000000
set_option maxRecDepth 100000
namespace Go.Proofs.YtanagnimhaemgaaGreatDoor
open Go Go.Ax
section
attribute [local irreducible] BL BM BN BO BP BJ BQ CX Cm CY CW Ba Bc BF BC and' BG Bd Aa Ac Ad Ae Af AL AO AP AQ BR D8 BU D5 Be Bf Ag Ah Ai Aj AB AZ AU Ar BA BV BH BB Au Aw BI Bg BX fits BZ BK A7 A8 AC
theorem ev_r3ruint_loop(b:List UInt8)(n p e:Int)(hb:b.length<=4294967296)(hp:0<=p)(h:p+n<=b.length)(hn:n<=8):∀(k:Nat) (acc:UInt64) (j:Int),j=n-k->0<=j ->
  Y E0 (.loop 61 0 1 1 [(0,.pa 0 0),(1,.i n),(5,.u64 acc),(6,.i j)] [(0,some (.var [.sl .u8 b,.i p,.i e]))])=some (.fin (.exit 0) 1 [(0,.pa 0 0),(1,.i n),(5,.u64 ((((b.drop p.toNat).take n.toNat).drop j.toNat).foldl (fun n x=>n<<<8|||x.toUInt64) acc))] [(0,some (.var [.sl .u8 b,.i p,.i e]))])
 | 0,acc,j,hj,hk=>by
  rw[JB];conv=>lhs;whnf
  rw[fJ zf]
  conv=>lhs;whnf
  rw[List.drop_eq_nil_of_le zx];rfl
 | k+1,acc,j,hj,hk=>by
  have hlt:j.toNat<((b.drop p.toNat).take n.toNat).length:=zx
  rw[JB];conv=>lhs;whnf
  rw[fH zf]
  conv=>lhs;whnf
  rw[ZF zf]
  rw[lget_i zf]
  conv=>lhs;whnf
  rw[drw zi];conv=>lhs;whnf
  rw[ZF zf]
  rw[ev_r3ruint_loop b n p e hb hp h hn k _ _ zf zf]
  conv=>lhs;whnf
  rw[show((b.drop p.toNat).take n.toNat).drop j.toNat=((b.drop p.toNat).take n.toNat)[j.toNat]::((b.drop p.toNat).take n.toNat).drop (j+1).toNat from by rw[List.drop_eq_getElem_cons hlt,show(j+1).toNat=j.toNat+1 from by omega],List.foldl_cons,u64or_eq,u8u64_eq,u64shl_eq zh];simp only[List.getElem_take,List.getElem_drop,show(p+j).toNat=p.toNat+j.toNat from by omega];rfl
theorem ev_r3ruint(b:List UInt8)(p:Nat)(e n:Int)(hb:b.length<=4294967296)(hp:p<=b.length):Y E0 (.call 61 [.pa 0 0,.i n] [.var [.sl .u8 b,.i p,.i e]])=some (.ret (.i (jQ b p e n).1) [some (.var [.sl .u8 b,.i (jQ b p e n).2.1,.i (jQ b p e n).2.2])]):=by
 have hv:∀ l:List UInt8,(l.drop (0:Int).toNat).foldl (fun(n:UInt64) (x:UInt8)=>n<<<8|||x.toUInt64) (UInt64.ofNat 0)=lV l:=fun _=>rfl
 by_cases h4:(b.length:Int)<(p:Int)+n
 ·rw[JB];conv=>lhs;whnf
  rcases Bool.eq_false_or_eq_true (CX e 0) with hc0|hc0
  ·rw[hc0];replace hc0:=of_ieq_t hc0;try simp only[QP] at hc0
   subst hc0
   conv=>lhs;whnf
   rw[fJ zf]
   conv=>lhs;whnf
   rcases Bool.eq_false_or_eq_true (CY 8 n) with hc1|hc1
   ·rw[hc1];replace hc1:=of_ilt_t hc1;try simp only[QP] at hc1
    conv=>lhs;whnf
    rw[JB];conv=>lhs;whnf
    rw[fF zf]
    conv=>lhs;whnf
    unfold jQ;(repeat(first|rw[if_pos (by first|omega|decide|assumption|(simp only[LL] at *<;>omega)|(simp;omega))]|rw[if_neg (by first|omega|decide|assumption|(simp only[LL] at *<;>omega)|(simp;omega))]));try simp only[NO]
   ·rw[hc1];replace hc1:=of_ilt_f hc1;try simp only[QP] at hc1
    conv=>lhs;whnf
    rw[JB];conv=>lhs;whnf
    rw[fG zf]
    conv=>lhs;whnf
    rw[OQ]
    rw[ev_r3need_f _ _ _ _ zf zf zf zf]
    conv=>lhs;whnf
    rw[UK];conv=>lhs;whnf
    unfold jQ;(repeat(first|rw[if_pos (by first|omega|decide|assumption|(simp only[LL] at *<;>omega)|(simp;omega))]|rw[if_neg (by first|omega|decide|assumption|(simp only[LL] at *<;>omega)|(simp;omega))]));try simp only[NO]
  ·rw[hc0];replace hc0:=of_ieq_f hc0;try simp only[QP] at hc0
   conv=>lhs;whnf
   rw[JB];conv=>lhs;whnf
   rw[fF zf]
   conv=>lhs;whnf
   unfold jQ;(repeat(first|rw[if_pos (by first|omega|decide|assumption|(simp only[LL] at *<;>omega)|(simp;omega))]|rw[if_neg (by first|omega|decide|assumption|(simp only[LL] at *<;>omega)|(simp;omega))]));try simp only[NO]
 ·by_cases h5:9223372036854775807<(lV ((b.drop p).take n.toNat)).toNat
  ·have hg:AB .geq (lV ((b.drop p).take n.toNat)) (UInt64.ofNat 9223372036854775808)=true:=by rw[TQ,fK (by rw[show(UInt64.ofNat 9223372036854775808).toNat=9223372036854775808 from by decide];omega)]
   rw[JB];conv=>lhs;whnf
   rcases Bool.eq_false_or_eq_true (CX e 0) with hc0|hc0
   ·rw[hc0];replace hc0:=of_ieq_t hc0;try simp only[QP] at hc0
    subst hc0
    conv=>lhs;whnf
    rcases Bool.eq_false_or_eq_true (CY n 1) with hc1|hc1
    ·rw[hc1];replace hc1:=of_ilt_t hc1;try simp only[QP] at hc1
     conv=>lhs;whnf
     rw[JB];conv=>lhs;whnf
     rw[fF zf]
     conv=>lhs;whnf
     unfold jQ;(repeat(first|rw[if_pos (by first|omega|decide|assumption|(simp only[LL] at *<;>omega)|(simp;omega))]|rw[if_neg (by first|omega|decide|assumption|(simp only[LL] at *<;>omega)|(simp;omega))]));try simp only[NO]
    ·rw[hc1];replace hc1:=of_ilt_f hc1;try simp only[QP] at hc1
     conv=>lhs;whnf
     rcases Bool.eq_false_or_eq_true (CY 8 n) with hc2|hc2
     ·rw[hc2];replace hc2:=of_ilt_t hc2;try simp only[QP] at hc2
      conv=>lhs;whnf
      rw[JB];conv=>lhs;whnf
      rw[fF zf]
      conv=>lhs;whnf
      unfold jQ;(repeat(first|rw[if_pos (by first|omega|decide|assumption|(simp only[LL] at *<;>omega)|(simp;omega))]|rw[if_neg (by first|omega|decide|assumption|(simp only[LL] at *<;>omega)|(simp;omega))]));try simp only[NO]
     ·rw[hc2];replace hc2:=of_ilt_f hc2;try simp only[QP] at hc2
      conv=>lhs;whnf
      rw[JB];conv=>lhs;whnf
      rw[fG zf]
      conv=>lhs;whnf
      rw[OQ]
      rw[ev_r3need_t _ _ _ _ zf zf zf zf]
      conv=>lhs;whnf
      rw[UK];conv=>lhs;whnf
      rw[TR]
      rw[ev_r3ruint_loop b n p 0 hb zf zf zf n.toNat _ 0 zf zf,hv,Int.toNat_natCast]
      conv=>lhs;whnf
      rw[hg];conv=>lhs;whnf
      unfold jQ;(repeat(first|rw[if_pos (by first|omega|decide|assumption|(simp only[LL] at *<;>omega)|(simp;omega))]|rw[if_neg (by first|omega|decide|assumption|(simp only[LL] at *<;>omega)|(simp;omega))]));try simp only[NO]
   ·rw[hc0];replace hc0:=of_ieq_f hc0;try simp only[QP] at hc0
    conv=>lhs;whnf
    rw[JB];conv=>lhs;whnf
    rw[fF zf]
    conv=>lhs;whnf
    unfold jQ;(repeat(first|rw[if_pos (by first|omega|decide|assumption|(simp only[LL] at *<;>omega)|(simp;omega))]|rw[if_neg (by first|omega|decide|assumption|(simp only[LL] at *<;>omega)|(simp;omega))]));try simp only[NO]
  ·have hg:AB .geq (lV ((b.drop p).take n.toNat)) (UInt64.ofNat 9223372036854775808)=false:=by rw[TQ,fM (by rw[show(UInt64.ofNat 9223372036854775808).toNat=9223372036854775808 from by decide];omega)]
   rw[JB];conv=>lhs;whnf
   rcases Bool.eq_false_or_eq_true (CX e 0) with hc0|hc0
   ·rw[hc0];replace hc0:=of_ieq_t hc0;try simp only[QP] at hc0
    subst hc0
    conv=>lhs;whnf
    rcases Bool.eq_false_or_eq_true (CY n 1) with hc1|hc1
    ·rw[hc1];replace hc1:=of_ilt_t hc1;try simp only[QP] at hc1
     conv=>lhs;whnf
     rw[JB];conv=>lhs;whnf
     rw[fF zf]
     conv=>lhs;whnf
     unfold jQ;(repeat(first|rw[if_pos (by first|omega|decide|assumption|(simp only[LL] at *<;>omega)|(simp;omega))]|rw[if_neg (by first|omega|decide|assumption|(simp only[LL] at *<;>omega)|(simp;omega))]));try simp only[NO]
    ·rw[hc1];replace hc1:=of_ilt_f hc1;try simp only[QP] at hc1
     conv=>lhs;whnf
     rcases Bool.eq_false_or_eq_true (CY 8 n) with hc2|hc2
     ·rw[hc2];replace hc2:=of_ilt_t hc2;try simp only[QP] at hc2
      conv=>lhs;whnf
      rw[JB];conv=>lhs;whnf
      rw[fF zf]
      conv=>lhs;whnf
      unfold jQ;(repeat(first|rw[if_pos (by first|omega|decide|assumption|(simp only[LL] at *<;>omega)|(simp;omega))]|rw[if_neg (by first|omega|decide|assumption|(simp only[LL] at *<;>omega)|(simp;omega))]));try simp only[NO]
     ·rw[hc2];replace hc2:=of_ilt_f hc2;try simp only[QP] at hc2
      conv=>lhs;whnf
      rw[JB];conv=>lhs;whnf
      rw[fG zf]
      conv=>lhs;whnf
      rw[OQ]
      rw[ev_r3need_t _ _ _ _ zf zf zf zf]
      conv=>lhs;whnf
      rw[UK];conv=>lhs;whnf
      rw[TR]
      rw[ev_r3ruint_loop b n p 0 hb zf zf zf n.toNat _ 0 zf zf,hv,Int.toNat_natCast]
      conv=>lhs;whnf
      rw[hg];conv=>lhs;whnf
      rw[ZM zf]
      rw[ZF zf]
      rw[show(p:Int)+n=((p+n.toNat:Nat):Int) from by omega];unfold jQ;(repeat(first|rw[if_pos (by first|omega|decide|assumption|(simp only[LL] at *<;>omega)|(simp;omega))]|rw[if_neg (by first|omega|decide|assumption|(simp only[LL] at *<;>omega)|(simp;omega))]))
   ·rw[hc0];replace hc0:=of_ieq_f hc0;try simp only[QP] at hc0
    conv=>lhs;whnf
    rw[JB];conv=>lhs;whnf
    rw[fF zf]
    conv=>lhs;whnf
    unfold jQ;(repeat(first|rw[if_pos (by first|omega|decide|assumption|(simp only[LL] at *<;>omega)|(simp;omega))]|rw[if_neg (by first|omega|decide|assumption|(simp only[LL] at *<;>omega)|(simp;omega))]));try simp only[NO]
theorem ev_r3rblob(b:List UInt8)(p:Nat)(e n:Int)(hb:b.length<=4294967296)(hp:p<=b.length):Y E0 (.call 62 [.pa 0 0,.i n] [.var [.sl .u8 b,.i p,.i e]])=some (.ret (.sl .u8 (bn b p e n).1) [some (.var [.sl .u8 b,.i (bn b p e n).2.1,.i (bn b p e n).2.2])]):=by
 by_cases h2:(b.length:Int)<(p:Int)+2
 ·rw[JB];conv=>lhs;whnf
  rcases Bool.eq_false_or_eq_true (Cm e 0) with hc0|hc0
  ·rw[hc0];replace hc0:=of_ine_t hc0;try simp only[QP] at hc0
   conv=>lhs;whnf
   unfold bn;(repeat(first|rw[if_pos (by first|omega|decide|assumption|(simp only[LL] at *<;>omega)|(simp;omega))]|rw[if_neg (by first|omega|decide|assumption|(simp only[LL] at *<;>omega)|(simp;omega))]));try simp only[NO]
  ·rw[hc0];replace hc0:=of_ine_f hc0;try simp only[QP] at hc0
   subst hc0
   conv=>lhs;whnf
   rw[OQ]
   rw[ev_r3need_f _ _ _ _ zf zf zf zf]
   conv=>lhs;whnf
   rw[UK];conv=>lhs;whnf
   unfold bn;(repeat(first|rw[if_pos (by first|omega|decide|assumption|(simp only[LL] at *<;>omega)|(simp;omega))]|rw[if_neg (by first|omega|decide|assumption|(simp only[LL] at *<;>omega)|(simp;omega))]));try simp only[NO]
 ·have hv:BJ .or (Ba (D8 (b[p]'zf)) (UInt64.ofNat 8).toNat) (D8 (b[((p:Int)+1).toNat]'zf))=(UL b p:Int):=by
   rw[show(UInt64.ofNat 8).toNat=8 from rfl,u8i_eq,u8i_eq,ishl8,ior_eq,or_bytes,UL]
   simp only[List.getD,List.getElem?_eq_getElem (show p<b.length by omega),List.getElem?_eq_getElem (show p+1<b.length by omega),show((p:Int)+1).toNat=p+1 from by omega,Option.getD_some]
  have hx:=(b.getD p 0).toNat_lt
  have hy:=(b.getD (p+1) 0).toNat_lt
  have hl:UL b p<=65535:=by rw[UL];omega
  by_cases h4:(b.length:Int)<(p:Int)+2+UL b p
  ·rw[JB];conv=>lhs;whnf
   rcases Bool.eq_false_or_eq_true (Cm e 0) with hc0|hc0
   ·rw[hc0];replace hc0:=of_ine_t hc0;try simp only[QP] at hc0
    conv=>lhs;whnf
    unfold bn;(repeat(first|rw[if_pos (by first|omega|decide|assumption|(simp only[LL] at *<;>omega)|(simp;omega))]|rw[if_neg (by first|omega|decide|assumption|(simp only[LL] at *<;>omega)|(simp;omega))]));try simp only[NO]
   ·rw[hc0];replace hc0:=of_ine_f hc0;try simp only[QP] at hc0
    subst hc0
    conv=>lhs;whnf
    rw[OQ]
    rw[ev_r3need_t _ _ _ _ zf zf zf zf]
    conv=>lhs;whnf
    rw[UK];conv=>lhs;whnf
    rw[lget_n zf]
    conv=>lhs;whnf
    rw[ZF zf]
    rw[lget_i zf]
    conv=>lhs;whnf
    rw[hv];conv=>lhs;whnf
    rw[drw zi];conv=>lhs;whnf
    rcases Bool.eq_false_or_eq_true (CY n ↑(UL b p)) with hc1|hc1
    ·rw[hc1];replace hc1:=of_ilt_t hc1;try simp only[QP] at hc1
     conv=>lhs;whnf
     unfold bn;(repeat(first|rw[if_pos (by first|omega|decide|assumption|(simp only[LL] at *<;>omega)|(simp;omega))]|rw[if_neg (by first|omega|decide|assumption|(simp only[LL] at *<;>omega)|(simp;omega))]));try simp only[NO]
    ·rw[hc1];replace hc1:=of_ilt_f hc1;try simp only[QP] at hc1
     conv=>lhs;whnf
     rw[ZF zf]
     rw[OQ]
     rw[ev_r3need_f _ _ _ _ zf zf zf zf]
     conv=>lhs;whnf
     rw[UK];conv=>lhs;whnf
     unfold bn;(repeat(first|rw[if_pos (by first|omega|decide|assumption|(simp only[LL] at *<;>omega)|(simp;omega))]|rw[if_neg (by first|omega|decide|assumption|(simp only[LL] at *<;>omega)|(simp;omega))]));try simp only[NO]
  ·rw[JB];conv=>lhs;whnf
   rcases Bool.eq_false_or_eq_true (Cm e 0) with hc0|hc0
   ·rw[hc0];replace hc0:=of_ine_t hc0;try simp only[QP] at hc0
    conv=>lhs;whnf
    unfold bn;(repeat(first|rw[if_pos (by first|omega|decide|assumption|(simp only[LL] at *<;>omega)|(simp;omega))]|rw[if_neg (by first|omega|decide|assumption|(simp only[LL] at *<;>omega)|(simp;omega))]));try simp only[NO]
   ·rw[hc0];replace hc0:=of_ine_f hc0;try simp only[QP] at hc0
    subst hc0
    conv=>lhs;whnf
    rw[OQ]
    rw[ev_r3need_t _ _ _ _ zf zf zf zf]
    conv=>lhs;whnf
    rw[UK];conv=>lhs;whnf
    rw[lget_n zf]
    conv=>lhs;whnf
    rw[ZF zf]
    rw[lget_i zf]
    conv=>lhs;whnf
    rw[hv];conv=>lhs;whnf
    rw[drw zi];conv=>lhs;whnf
    rcases Bool.eq_false_or_eq_true (CY n ↑(UL b p)) with hc1|hc1
    ·rw[hc1];replace hc1:=of_ilt_t hc1;try simp only[QP] at hc1
     conv=>lhs;whnf
     unfold bn;(repeat(first|rw[if_pos (by first|omega|decide|assumption|(simp only[LL] at *<;>omega)|(simp;omega))]|rw[if_neg (by first|omega|decide|assumption|(simp only[LL] at *<;>omega)|(simp;omega))]));try simp only[NO]
    ·rw[hc1];replace hc1:=of_ilt_f hc1;try simp only[QP] at hc1
     conv=>lhs;whnf
     rw[ZF zf]
     rw[OQ]
     rw[ev_r3need_t _ _ _ _ zf zf zf zf]
     conv=>lhs;whnf
     rw[UK];conv=>lhs;whnf
     rw[ZF (a:=2) (b:=↑(UL b p)) zf]
     rw[ZF zf]
     rw[ZG zf]
     rw[bZ zf]
     conv=>lhs;whnf
     rw[Ls zF]
     conv=>lhs;whnf
     rw[drw zi];conv=>lhs;whnf
     unfold bn;(repeat(first|rw[if_pos (by first|omega|decide|assumption|(simp only[LL] at *<;>omega)|(simp;omega))]|rw[if_neg (by first|omega|decide|assumption|(simp only[LL] at *<;>omega)|(simp;omega))]));simp only[UH,List.nil_append,show(p:Int)+(2+(UL b p:Int))-(UL b p:Int)=((p+2:Nat):Int) from by omega,show(p:Int)+(2+(UL b p:Int))-((p+2:Nat):Int)=UL b p from by omega,Int.toNat_natCast];rw[show(p:Int)+(2+(UL b p:Int))=((p+2+UL b p:Nat):Int) from by omega]
end
end Go.Proofs.YtanagnimhaemgaaGreatDoor
