/-
  Own texts, laid together for this claim: contracts of functions of the program and its references, used by the statements of this seat.
-/
import Derived.Test.YtanagnimhaemgaaGreatDoorMtac
import Derived.Test.YtanagnimhaemgaaGreatDoorMtad
import Derived.Test.YtanagnimhaemgaaGreatDoorMtah
set_option linter.all false
set_option maxHeartbeats 40000000
set_option maxRecDepth 100000
namespace Go.Proofs.YtanagnimhaemgaaGreatDoor
open Go Go.Ax
section
attribute [local irreducible] BL BM BN BO BP BJ BQ CX Cm CY CW Ba Bc BF BC and' BG Bd Aa Ac Ad Ae Af AL AO AP AQ BR D8 BU D5 Be Bf Ag Ah Ai Aj AB AZ AU Ar BA BV BH BB Au Aw BI Bg BX fits BZ BK A7 A8 AC
theorem ev_ruint_loop(l b:List UInt8)(n p e:Int)(hl:l.length<=8):∀(k:Nat) (acc:UInt64) (j:Int),j=(l.length:Int)-k->k<=l.length ->
  Y E0 (.loop 135 0 1 1 [(0,.pa 0 0),(1,.i n),(7,.u64 acc),(38,.sl .u8 l),(39,.i (Ar l)),(40,.i j)] [(0,some (.var [.sl .u8 b,.i p,.i e]))])=some (.fin (.exit 0) 1 [(0,.pa 0 0),(1,.i n),(7,.u64 ((l.drop j.toNat).foldl (fun n x=>n<<<8|||x.toUInt64) acc))] [(0,some (.var [.sl .u8 b,.i p,.i e]))])
 | 0,acc,j,hj,hk=>by
  rw[JB];conv=>lhs;whnf
  rw[fJ zF]
  conv=>lhs;whnf
  rw[List.drop_eq_nil_of_le zf];rfl
 | k+1,acc,j,hj,hk=>by
  have hlt:j.toNat<l.length:=zf
  rw[JB];conv=>lhs;whnf
  rw[fH zF]
  conv=>lhs;whnf
  rw[lget_i zf]
  conv=>lhs;whnf
  try dsimp -iota -beta -eta -zeta only
  rw[ZF zf]
  rw[ev_ruint_loop l b n p e hl k _ _ zf zf]
  refine tqA ?_
  rw[show l.drop j.toNat=l[j.toNat]::l.drop (j+1).toNat from by rw[List.drop_eq_getElem_cons hlt,show(j+1).toNat=j.toNat+1 from by omega],List.foldl_cons,u64or_eq,u8u64_eq,u64shl_eq zh];rfl
theorem ev_ruint(b:List UInt8)(p:Nat)(e n:Int)(hb:b.length<=4294967296)(hp:p<=b.length):Y E0 (.call 135 [.pa 0 0,.i n] [.var [.sl .u8 b,.i p,.i e]])=some (.ret (.i (jQ b p e n).1) [some (.var [.sl .u8 b,.i (jQ b p e n).2.1,.i (jQ b p e n).2.2])]):=by
 have hv:∀ l:List UInt8,(l.drop (0:Int).toNat).foldl (fun(n:UInt64) (x:UInt8)=>n<<<8|||x.toUInt64) (UInt64.ofNat 0)=lV l:=fun _=>rfl
 by_cases h4:(b.length:Int)<(p:Int)+n
 ·refine tqA ?_
  rcases ine_c e 0 with hc0|hc0
  ·
   refine tqA ?_
   unfold jQ;(repeat(first|rw[if_pos (by first|omega|decide|assumption|(simp only[LL] at *<;>omega)|(simp;omega))]|rw[if_neg (by first|omega|decide|assumption|(simp only[LL] at *<;>omega)|(simp;omega))]));try simp only[NO]
  subst hc0
  refine tqA ?_
  rcases ilt_c 8 n with hc1|hc1
  ·
   refine tqA ?_
   rw[ev_fail ..]
   refine tqA ?_
   unfold jQ;(repeat(first|rw[if_pos (by first|omega|decide|assumption|(simp only[LL] at *<;>omega)|(simp;omega))]|rw[if_neg (by first|omega|decide|assumption|(simp only[LL] at *<;>omega)|(simp;omega))]));try simp only[NO]
  refine tqA ?_
  rw[ev_take_f _ _ _ _ _ sdcA sdcA sdcA sdcA]
  refine tqA ?_
  rw[ev_fail ..]
  refine tqA ?_
  unfold jQ;(repeat(first|rw[if_pos (by first|omega|decide|assumption|(simp only[LL] at *<;>omega)|(simp;omega))]|rw[if_neg (by first|omega|decide|assumption|(simp only[LL] at *<;>omega)|(simp;omega))]));try simp only[NO]
 ·by_cases h5:9223372036854775807<(lV ((b.drop p).take n.toNat)).toNat
  ·refine tqA ?_
   rcases ine_c e 0 with hc0|hc0
   ·
    refine tqA ?_
    unfold jQ;(repeat(first|rw[if_pos (by first|omega|decide|assumption|(simp only[LL] at *<;>omega)|(simp;omega))]|rw[if_neg (by first|omega|decide|assumption|(simp only[LL] at *<;>omega)|(simp;omega))]));try simp only[NO]
   subst hc0
   refine tqA ?_
   rcases ilt_c n 1 with hc1|hc1
   ·
    refine tqA ?_
    rw[ev_fail ..]
    refine tqA ?_
    unfold jQ;(repeat(first|rw[if_pos (by first|omega|decide|assumption|(simp only[LL] at *<;>omega)|(simp;omega))]|rw[if_neg (by first|omega|decide|assumption|(simp only[LL] at *<;>omega)|(simp;omega))]));try simp only[NO]
   refine tqA ?_
   rcases ilt_c 8 n with hc2|hc2
   ·
    refine tqA ?_
    rw[ev_fail ..]
    refine tqA ?_
    unfold jQ;(repeat(first|rw[if_pos (by first|omega|decide|assumption|(simp only[LL] at *<;>omega)|(simp;omega))]|rw[if_neg (by first|omega|decide|assumption|(simp only[LL] at *<;>omega)|(simp;omega))]));try simp only[NO]
   refine tqA ?_
   rw[ev_take _ _ _ _ _ sdcA sdcA sdcA sdcA]
   refine tqA ?_
   rw[ev_ruint_loop _ b n p 0 zx ((b.drop (p:Int).toNat).take n.toNat).length _ 0 zf zf,hv,Int.toNat_natCast]
   conv=>lhs;whnf
   rw[u64gt_t (by simpa using h5)]
   refine tqA ?_
   rw[ev_fail ..]
   refine tqA ?_
   unfold jQ;(repeat(first|rw[if_pos (by first|omega|decide|assumption|(simp only[LL] at *<;>omega)|(simp;omega))]|rw[if_neg (by first|omega|decide|assumption|(simp only[LL] at *<;>omega)|(simp;omega))]));try simp only[NO]
  ·refine tqA ?_
   rcases ine_c e 0 with hc0|hc0
   ·
    refine tqA ?_
    unfold jQ;(repeat(first|rw[if_pos (by first|omega|decide|assumption|(simp only[LL] at *<;>omega)|(simp;omega))]|rw[if_neg (by first|omega|decide|assumption|(simp only[LL] at *<;>omega)|(simp;omega))]));try simp only[NO]
   subst hc0
   refine tqA ?_
   rcases ilt_c n 1 with hc1|hc1
   ·
    refine tqA ?_
    rw[ev_fail ..]
    refine tqA ?_
    unfold jQ;(repeat(first|rw[if_pos (by first|omega|decide|assumption|(simp only[LL] at *<;>omega)|(simp;omega))]|rw[if_neg (by first|omega|decide|assumption|(simp only[LL] at *<;>omega)|(simp;omega))]));try simp only[NO]
   refine tqA ?_
   rcases ilt_c 8 n with hc2|hc2
   ·
    refine tqA ?_
    rw[ev_fail ..]
    refine tqA ?_
    unfold jQ;(repeat(first|rw[if_pos (by first|omega|decide|assumption|(simp only[LL] at *<;>omega)|(simp;omega))]|rw[if_neg (by first|omega|decide|assumption|(simp only[LL] at *<;>omega)|(simp;omega))]));try simp only[NO]
   refine tqA ?_
   rw[ev_take _ _ _ _ _ sdcA sdcA sdcA sdcA]
   refine tqA ?_
   rw[ev_ruint_loop _ b n p 0 zx ((b.drop (p:Int).toNat).take n.toNat).length _ 0 zf zf,hv,Int.toNat_natCast]
   conv=>lhs;whnf
   rw[u64gt_f (by simpa using h5)]
   refine tqA ?_
   rw[show(p:Int)+n=((p+n.toNat:Nat):Int) from by omega];unfold jQ;(repeat(first|rw[if_pos (by first|omega|decide|assumption|(simp only[LL] at *<;>omega)|(simp;omega))]|rw[if_neg (by first|omega|decide|assumption|(simp only[LL] at *<;>omega)|(simp;omega))]))
theorem ev_rblob(b:List UInt8)(p:Nat)(e n:Int)(hb:b.length<=4294967296)(hp:p<=b.length):Y E0 (.call 137 [.pa 0 0,.i n] [.var [.sl .u8 b,.i p,.i e]])=some (.ret (.sl .u8 (bn b p e n).1) [some (.var [.sl .u8 b,.i (bn b p e n).2.1,.i (bn b p e n).2.2])]):=by
 by_cases h2:(b.length:Int)<(p:Int)+2
 ·refine tqA ?_
  rcases ine_c e 0 with hc0|hc0
  ·
   refine tqA ?_
   unfold bn;(repeat(first|rw[if_pos (by first|omega|decide|assumption|(simp only[LL] at *<;>omega)|(simp;omega))]|rw[if_neg (by first|omega|decide|assumption|(simp only[LL] at *<;>omega)|(simp;omega))]));try simp only[NO]
  subst hc0
  refine tqA ?_
  rw[ev_take_f _ _ _ _ _ sdcA sdcA sdcA sdcA]
  refine tqA ?_
  rw[ev_fail ..]
  refine tqA ?_
  unfold bn;(repeat(first|rw[if_pos (by first|omega|decide|assumption|(simp only[LL] at *<;>omega)|(simp;omega))]|rw[if_neg (by first|omega|decide|assumption|(simp only[LL] at *<;>omega)|(simp;omega))]));try simp only[NO]
 ·have g0:BA ((b.drop (p:Int).toNat).take (2:Int).toNat) 0=some (b.getD p 0):=lget_s zf (by simp[List.getElem?_take,List.getElem?_drop,List.getD];rw[List.getElem?_eq_getElem zf];rfl)
  have g1:BA ((b.drop (p:Int).toNat).take (2:Int).toNat) 1=some (b.getD (p+1) 0):=lget_s zf (by simp[List.getElem?_take,List.getElem?_drop,List.getD];rw[List.getElem?_eq_getElem zf];rfl)
  have hv:BJ .or (Ba (D8 (b.getD p 0)) (UInt64.ofNat 8).toNat) (D8 (b.getD (p+1) 0))=(UL b p:Int):=by
   rw[show(UInt64.ofNat 8).toNat=8 from rfl,u8i_eq,u8i_eq,ishl8,ior_eq,or_bytes,UL]
  have hx:=(b.getD p 0).toNat_lt
  have hy:=(b.getD (p+1) 0).toNat_lt
  have hl:UL b p<=65535:=by rw[UL];omega
  by_cases h4:(b.length:Int)<(p:Int)+2+UL b p
  ·refine tqA ?_
   rcases ine_c e 0 with hc0|hc0
   ·
    refine tqA ?_
    unfold bn;(repeat(first|rw[if_pos (by first|omega|decide|assumption|(simp only[LL] at *<;>omega)|(simp;omega))]|rw[if_neg (by first|omega|decide|assumption|(simp only[LL] at *<;>omega)|(simp;omega))]));try simp only[NO]
   subst hc0
   refine tqA ?_
   rw[ev_take _ _ _ _ _ sdcA sdcA sdcA sdcA]
   refine tqA ?_
   rw[g0]
   refine tqA ?_
   rw[g1]
   conv=>lhs;whnf
   try dsimp -iota -beta -eta -zeta only
   rw[hv]
   refine tqA ?_
   rcases ilt_c n (↑(UL b p)) with hc1|hc1
   ·
    refine tqA ?_
    rw[ev_fail ..]
    refine tqA ?_
    unfold bn;(repeat(first|rw[if_pos (by first|omega|decide|assumption|(simp only[LL] at *<;>omega)|(simp;omega))]|rw[if_neg (by first|omega|decide|assumption|(simp only[LL] at *<;>omega)|(simp;omega))]));try simp only[NO]
   refine tqA ?_
   rw[ev_take_f _ _ _ _ _ sdcA sdcA sdcA sdcA]
   refine tqA ?_
   rw[ev_fail ..]
   refine tqA ?_
   unfold bn;(repeat(first|rw[if_pos (by first|omega|decide|assumption|(simp only[LL] at *<;>omega)|(simp;omega))]|rw[if_neg (by first|omega|decide|assumption|(simp only[LL] at *<;>omega)|(simp;omega))]));try simp only[NO]
  ·refine tqA ?_
   rcases ine_c e 0 with hc0|hc0
   ·
    refine tqA ?_
    unfold bn;(repeat(first|rw[if_pos (by first|omega|decide|assumption|(simp only[LL] at *<;>omega)|(simp;omega))]|rw[if_neg (by first|omega|decide|assumption|(simp only[LL] at *<;>omega)|(simp;omega))]));try simp only[NO]
   subst hc0
   refine tqA ?_
   rw[ev_take _ _ _ _ _ sdcA sdcA sdcA sdcA]
   refine tqA ?_
   rw[g0]
   refine tqA ?_
   rw[g1]
   conv=>lhs;whnf
   try dsimp -iota -beta -eta -zeta only
   rw[hv]
   refine tqA ?_
   rcases ilt_c n (↑(UL b p)) with hc1|hc1
   ·
    refine tqA ?_
    rw[ev_fail ..]
    refine tqA ?_
    unfold bn;(repeat(first|rw[if_pos (by first|omega|decide|assumption|(simp only[LL] at *<;>omega)|(simp;omega))]|rw[if_neg (by first|omega|decide|assumption|(simp only[LL] at *<;>omega)|(simp;omega))]));try simp only[NO]
   refine tqA ?_
   rw[ev_take _ _ _ _ _ sdcA sdcA sdcA sdcA]
   conv=>lhs;whnf
   rw[fG zf]
   conv=>lhs;whnf
   rw[Ls zF]
   conv=>lhs;whnf
   rw[ZF (a:=2) (b:=↑(UL b p)) zf]
   rw[ZF zf]
   unfold bn;(repeat(first|rw[if_pos (by first|omega|decide|assumption|(simp only[LL] at *<;>omega)|(simp;omega))]|rw[if_neg (by first|omega|decide|assumption|(simp only[LL] at *<;>omega)|(simp;omega))]));simp only[show((p:Int)+2).toNat=p+2 from by omega,show((UL b p:Nat):Int).toNat=UL b p from by omega];rw[show(p:Int)+(2+(UL b p:Int))=((p+2+UL b p:Nat):Int) from by omega]
end
end Go.Proofs.YtanagnimhaemgaaGreatDoor
