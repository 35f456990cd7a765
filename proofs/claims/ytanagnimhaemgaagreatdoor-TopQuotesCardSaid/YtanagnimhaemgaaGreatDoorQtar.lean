/-
  Own texts, laid together for this claim: contracts of functions of the program and its references, used by the statements of this seat.
-/
import Derived.Test.YtanagnimhaemgaaGreatDoorQtac
import Derived.Test.YtanagnimhaemgaaGreatDoorQtaq
set_option linter.all false
set_option maxHeartbeats 40000000
set_option maxRecDepth 100000
namespace Go.Proofs.YtanagnimhaemgaaGreatDoor
open Go Go.Ax
section
attribute [local irreducible] Bl CQ CS Bo Bg Ar CU Dw EN Dy EC Bf BU Bv Bz and' C9 CB BK Au BA BL BN Aa Ad AP AZ CV Dq CW DI CE BP BM BF BG BB AU BC Ae Ap Ai CX BH Bh Ba BO CG CY CJ fits CZ CO A8 AA Ac
theorem NR(l b:List UInt8)(n p e:Int)(hl:l.length<=8):∀(k:Nat) (acc:UInt64) (j:Int),j=(l.length:Int)-k->k<=l.length ->
  Y E0 (.loop 135 0 1 1 [(0,.pa 0 0),(1,.i n),(7,.u64 acc),(38,.sl .u8 l),(39,.i (Ap l)),(40,.i j)] [(0,some (.var [.sl .u8 b,.i p,.i e]))])=some (.fin (.exit 0) 1 [(0,.pa 0 0),(1,.i n),(7,.u64 ((l.drop j.toNat).foldl (fun n x=>n<<<8|||x.toUInt64) acc))] [(0,some (.var [.sl .u8 b,.i p,.i e]))])
 | 0,acc,j,hj,hk=>by
  rw[AO];conv=>lhs;whnf
  rw[Gz zai]
  conv=>lhs;whnf
  rw[List.drop_eq_nil_of_le zaa];rfl
 | k+1,acc,j,hj,hk=>by
  have hlt:j.toNat<l.length:=zaa
  rw[AO];conv=>lhs;whnf
  rw[Dp zai]
  conv=>lhs;whnf
  rw[D8 zaa]
  conv=>lhs;whnf
  try dsimp -iota -beta -eta -zeta only
  rw[Bc zaa]
  rw[NR l b n p e hl k _ _ zaa zaa]
  refine BX ?_
  rw[show l.drop j.toNat=l[j.toNat]::l.drop (j+1).toNat from by rw[List.drop_eq_getElem_cons hlt,show(j+1).toNat=j.toNat+1 from by omega],List.foldl_cons,jf,jc,ZP zad];rfl
theorem G8(b:List UInt8)(p:Nat)(e n:Int)(hb:b.length<=4294967296)(hp:p<=b.length):Y E0 (.call 135 [.pa 0 0,.i n] [.var [.sl .u8 b,.i p,.i e]])=some (.ret (.i (Ey b p e n).1) [some (.var [.sl .u8 b,.i (Ey b p e n).2.1,.i (Ey b p e n).2.2])]):=by
 have hv:∀ l:List UInt8,(l.drop (0:Int).toNat).foldl (fun(n:UInt64) (x:UInt8)=>n<<<8|||x.toUInt64) (UInt64.ofNat 0)=beN l:=fun _=>rfl
 by_cases h4:(b.length:Int)<(p:Int)+n
 ·refine BX ?_
  rcases Bj e 0 with hc0|hc0
  ·
   refine BX ?_
   unfold Ey;(repeat(first|rw[if_pos zab]|rw[if_neg zab]));try simp only[NO]
  subst hc0
  refine BX ?_
  rcases D7 8 n with hc1|hc1
  ·
   refine BX ?_
   rw[Iw ..]
   refine BX ?_
   unfold Ey;(repeat(first|rw[if_pos zab]|rw[if_neg zab]));try simp only[NO]
  refine BX ?_
  rw[QS _ _ _ _ _ Cc Cc Cc Cc]
  refine BX ?_
  rw[Iw ..]
  refine BX ?_
  unfold Ey;(repeat(first|rw[if_pos zab]|rw[if_neg zab]));try simp only[NO]
 ·by_cases h5:9223372036854775807<(beN ((b.drop p).take n.toNat)).toNat
  ·refine BX ?_
   rcases Bj e 0 with hc0|hc0
   ·
    refine BX ?_
    unfold Ey;(repeat(first|rw[if_pos zab]|rw[if_neg zab]));try simp only[NO]
   subst hc0
   refine BX ?_
   rcases D7 n 1 with hc1|hc1
   ·
    refine BX ?_
    rw[Iw ..]
    refine BX ?_
    unfold Ey;(repeat(first|rw[if_pos zab]|rw[if_neg zab]));try simp only[NO]
   refine BX ?_
   rcases D7 8 n with hc2|hc2
   ·
    refine BX ?_
    rw[Iw ..]
    refine BX ?_
    unfold Ey;(repeat(first|rw[if_pos zab]|rw[if_neg zab]));try simp only[NO]
   refine BX ?_
   rw[QT _ _ _ _ _ Cc Cc Cc Cc]
   refine BX ?_
   rw[NR _ b n p 0 zat ((b.drop (p:Int).toNat).take n.toNat).length _ 0 zaa zaa,hv,Int.toNat_natCast]
   conv=>lhs;whnf
   rw[A5N (by simpa using h5)]
   refine BX ?_
   rw[Iw ..]
   refine BX ?_
   unfold Ey;(repeat(first|rw[if_pos zab]|rw[if_neg zab]));try simp only[NO]
  ·refine BX ?_
   rcases Bj e 0 with hc0|hc0
   ·
    refine BX ?_
    unfold Ey;(repeat(first|rw[if_pos zab]|rw[if_neg zab]));try simp only[NO]
   subst hc0
   refine BX ?_
   rcases D7 n 1 with hc1|hc1
   ·
    refine BX ?_
    rw[Iw ..]
    refine BX ?_
    unfold Ey;(repeat(first|rw[if_pos zab]|rw[if_neg zab]));try simp only[NO]
   refine BX ?_
   rcases D7 8 n with hc2|hc2
   ·
    refine BX ?_
    rw[Iw ..]
    refine BX ?_
    unfold Ey;(repeat(first|rw[if_pos zab]|rw[if_neg zab]));try simp only[NO]
   refine BX ?_
   rw[QT _ _ _ _ _ Cc Cc Cc Cc]
   refine BX ?_
   rw[NR _ b n p 0 zat ((b.drop (p:Int).toNat).take n.toNat).length _ 0 zaa zaa,hv,Int.toNat_natCast]
   conv=>lhs;whnf
   rw[A5O (by simpa using h5)]
   refine BX ?_
   rw[show(p:Int)+n=((p+n.toNat:Nat):Int) from by omega];unfold Ey;(repeat(first|rw[if_pos zab]|rw[if_neg zab]))
theorem Tu(b:List UInt8)(p:Nat)(e n:Int)(hb:b.length<=4294967296)(hp:p<=b.length):Y E0 (.call 137 [.pa 0 0,.i n] [.var [.sl .u8 b,.i p,.i e]])=some (.ret (.sl .u8 (JK b p e n).1) [some (.var [.sl .u8 b,.i (JK b p e n).2.1,.i (JK b p e n).2.2])]):=by
 by_cases h2:(b.length:Int)<(p:Int)+2
 ·refine BX ?_
  rcases Bj e 0 with hc0|hc0
  ·
   refine BX ?_
   unfold JK;(repeat(first|rw[if_pos zab]|rw[if_neg zab]));try simp only[NO]
  subst hc0
  refine BX ?_
  rw[QS _ _ _ _ _ Cc Cc Cc Cc]
  refine BX ?_
  rw[Iw ..]
  refine BX ?_
  unfold JK;(repeat(first|rw[if_pos zab]|rw[if_neg zab]));try simp only[NO]
 ·have g0:Ai ((b.drop (p:Int).toNat).take (2:Int).toNat) 0=some (b.getD p 0):=Ku zaa (by simp[List.getElem?_take,List.getElem?_drop,List.getD];rw[List.getElem?_eq_getElem zaa];rfl)
  have g1:Ai ((b.drop (p:Int).toNat).take (2:Int).toNat) 1=some (b.getD (p+1) 0):=Ku zaa (by simp[List.getElem?_take,List.getElem?_drop,List.getD];rw[List.getElem?_eq_getElem zaa];rfl)
  have hv:Ar .or (Bf (Dq (b.getD p 0)) (UInt64.ofNat 8).toNat) (Dq (b.getD (p+1) 0))=(FQ b p:Int):=by
   rw[show(UInt64.ofNat 8).toNat=8 from rfl,Jn,Jn,A26,qc,Xe,FQ]
  have hx:=(b.getD p 0).toNat_lt
  have hy:=(b.getD (p+1) 0).toNat_lt
  have hl:FQ b p<=65535:=by rw[FQ];omega
  by_cases h4:(b.length:Int)<(p:Int)+2+FQ b p
  ·refine BX ?_
   rcases Bj e 0 with hc0|hc0
   ·
    refine BX ?_
    unfold JK;(repeat(first|rw[if_pos zab]|rw[if_neg zab]));try simp only[NO]
   subst hc0
   refine BX ?_
   rw[QT _ _ _ _ _ Cc Cc Cc Cc]
   refine BX ?_
   rw[g0]
   refine BX ?_
   rw[g1]
   conv=>lhs;whnf
   try dsimp -iota -beta -eta -zeta only
   rw[hv]
   refine BX ?_
   rcases D7 n (↑(FQ b p)) with hc1|hc1
   ·
    refine BX ?_
    rw[Iw ..]
    refine BX ?_
    unfold JK;(repeat(first|rw[if_pos zab]|rw[if_neg zab]));try simp only[NO]
   refine BX ?_
   rw[QS _ _ _ _ _ Cc Cc Cc Cc]
   refine BX ?_
   rw[Iw ..]
   refine BX ?_
   unfold JK;(repeat(first|rw[if_pos zab]|rw[if_neg zab]));try simp only[NO]
  ·refine BX ?_
   rcases Bj e 0 with hc0|hc0
   ·
    refine BX ?_
    unfold JK;(repeat(first|rw[if_pos zab]|rw[if_neg zab]));try simp only[NO]
   subst hc0
   refine BX ?_
   rw[QT _ _ _ _ _ Cc Cc Cc Cc]
   refine BX ?_
   rw[g0]
   refine BX ?_
   rw[g1]
   conv=>lhs;whnf
   try dsimp -iota -beta -eta -zeta only
   rw[hv]
   refine BX ?_
   rcases D7 n (↑(FQ b p)) with hc1|hc1
   ·
    refine BX ?_
    rw[Iw ..]
    refine BX ?_
    unfold JK;(repeat(first|rw[if_pos zab]|rw[if_neg zab]));try simp only[NO]
   refine BX ?_
   rw[QT _ _ _ _ _ Cc Cc Cc Cc]
   conv=>lhs;whnf
   rw[DY zaa]
   conv=>lhs;whnf
   rw[Dx zai]
   conv=>lhs;whnf
   rw[Bc (a:=2) (b:=↑(FQ b p)) zaa]
   rw[Bc zaa]
   unfold JK;(repeat(first|rw[if_pos zab]|rw[if_neg zab]));simp only[show((p:Int)+2).toNat=p+2 from by omega,show((FQ b p:Nat):Int).toNat=FQ b p from by omega];rw[show(p:Int)+(2+(FQ b p:Int))=((p+2+FQ b p:Nat):Int) from by omega]
end
end Go.Proofs.YtanagnimhaemgaaGreatDoor
