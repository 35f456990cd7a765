/-
  Own texts, laid together for this claim: contracts of functions of the program and its references, used by the statements of this seat.
-/
import Derived.Test.YtanagnimhaemgaaGreatDoorKtac
import Derived.Test.YtanagnimhaemgaaGreatDoorKtad
import Derived.Test.YtanagnimhaemgaaGreatDoorKtah
set_option linter.all false
set_option maxHeartbeats 40000000
set_option maxRecDepth 100000
namespace Go.Proofs.YtanagnimhaemgaaGreatDoor
open Go Go.Ax
section
attribute [local irreducible] Bl CS CU CJ Bh Ak CV Du EN E5 EH Be BN CE Bz and' CG CO BC Ag Ar BF BG AY Aa AP AX CW Dv CX DT C9 BJ BD BA BB Au AQ Az Ac Aw Ah CY BL Bi BR BI CB CZ CP fits Cb CQ A8 AA AZ
theorem Md(l b:List UInt8)(n p e:Int)(hl:l.length<=8):∀(k:Nat) (acc:UInt64) (j:Int),j=(l.length:Int)-k->k<=l.length ->
  Y E0 (.loop 135 0 1 1 [(0,.pa 0 0),(1,.i n),(7,.u64 acc),(38,.sl .u8 l),(39,.i (Aw l)),(40,.i j)] [(0,some (.var [.sl .u8 b,.i p,.i e]))])=some (.fin (.exit 0) 1 [(0,.pa 0 0),(1,.i n),(7,.u64 ((l.drop j.toNat).foldl (fun n x=>n<<<8|||x.toUInt64) acc))] [(0,some (.var [.sl .u8 b,.i p,.i e]))])
 | 0,acc,j,hj,hk=>by
  rw[AU];conv=>lhs;whnf
  rw[Iw zak]
  conv=>lhs;whnf
  rw[List.drop_eq_nil_of_le zaa];rfl
 | k+1,acc,j,hj,hk=>by
  have hlt:j.toNat<l.length:=zaa
  rw[AU];conv=>lhs;whnf
  rw[Dn zak]
  conv=>lhs;whnf
  rw[DZ zaa]
  conv=>lhs;whnf
  try dsimp -iota -beta -eta -zeta only
  rw[D7 zaa]
  rw[Md l b n p e hl k _ _ zaa zaa]
  refine BM ?_
  rw[show l.drop j.toNat=l[j.toNat]::l.drop (j+1).toNat from by rw[List.drop_eq_getElem_cons hlt,show(j+1).toNat=j.toNat+1 from by omega],List.foldl_cons,dY,dW,Xr zac];rfl
theorem Fa(b:List UInt8)(p:Nat)(e n:Int)(hb:b.length<=4294967296)(hp:p<=b.length):Y E0 (.call 135 [.pa 0 0,.i n] [.var [.sl .u8 b,.i p,.i e]])=some (.ret (.i (IZ b p e n).1) [some (.var [.sl .u8 b,.i (IZ b p e n).2.1,.i (IZ b p e n).2.2])]):=by
 have hv:∀ l:List UInt8,(l.drop (0:Int).toNat).foldl (fun(n:UInt64) (x:UInt8)=>n<<<8|||x.toUInt64) (UInt64.ofNat 0)=yl l:=fun _=>rfl
 by_cases h4:(b.length:Int)<(p:Int)+n
 ·refine BM ?_
  rcases Dc e 0 with hc0|hc0
  ·
   refine BM ?_
   unfold IZ;(repeat(first|rw[if_pos zab]|rw[if_neg zab]));try simp only[NO]
  subst hc0
  refine BM ?_
  rcases DU 8 n with hc1|hc1
  ·
   refine BM ?_
   rw[Ij ..]
   refine BM ?_
   unfold IZ;(repeat(first|rw[if_pos zab]|rw[if_neg zab]));try simp only[NO]
  refine BM ?_
  rw[Pj _ _ _ _ _ Bq Bq Bq Bq]
  refine BM ?_
  rw[Ij ..]
  refine BM ?_
  unfold IZ;(repeat(first|rw[if_pos zab]|rw[if_neg zab]));try simp only[NO]
 ·by_cases h5:9223372036854775807<(yl ((b.drop p).take n.toNat)).toNat
  ·refine BM ?_
   rcases Dc e 0 with hc0|hc0
   ·
    refine BM ?_
    unfold IZ;(repeat(first|rw[if_pos zab]|rw[if_neg zab]));try simp only[NO]
   subst hc0
   refine BM ?_
   rcases DU n 1 with hc1|hc1
   ·
    refine BM ?_
    rw[Ij ..]
    refine BM ?_
    unfold IZ;(repeat(first|rw[if_pos zab]|rw[if_neg zab]));try simp only[NO]
   refine BM ?_
   rcases DU 8 n with hc2|hc2
   ·
    refine BM ?_
    rw[Ij ..]
    refine BM ?_
    unfold IZ;(repeat(first|rw[if_pos zab]|rw[if_neg zab]));try simp only[NO]
   refine BM ?_
   rw[Pm _ _ _ _ _ Bq Bq Bq Bq]
   refine BM ?_
   rw[Md _ b n p 0 zar ((b.drop (p:Int).toNat).take n.toNat).length _ 0 zaa zaa,hv,Int.toNat_natCast]
   conv=>lhs;whnf
   rw[A2G (by simpa using h5)]
   refine BM ?_
   rw[Ij ..]
   refine BM ?_
   unfold IZ;(repeat(first|rw[if_pos zab]|rw[if_neg zab]));try simp only[NO]
  ·refine BM ?_
   rcases Dc e 0 with hc0|hc0
   ·
    refine BM ?_
    unfold IZ;(repeat(first|rw[if_pos zab]|rw[if_neg zab]));try simp only[NO]
   subst hc0
   refine BM ?_
   rcases DU n 1 with hc1|hc1
   ·
    refine BM ?_
    rw[Ij ..]
    refine BM ?_
    unfold IZ;(repeat(first|rw[if_pos zab]|rw[if_neg zab]));try simp only[NO]
   refine BM ?_
   rcases DU 8 n with hc2|hc2
   ·
    refine BM ?_
    rw[Ij ..]
    refine BM ?_
    unfold IZ;(repeat(first|rw[if_pos zab]|rw[if_neg zab]));try simp only[NO]
   refine BM ?_
   rw[Pm _ _ _ _ _ Bq Bq Bq Bq]
   refine BM ?_
   rw[Md _ b n p 0 zar ((b.drop (p:Int).toNat).take n.toNat).length _ 0 zaa zaa,hv,Int.toNat_natCast]
   conv=>lhs;whnf
   rw[A2H (by simpa using h5)]
   refine BM ?_
   rw[show(p:Int)+n=((p+n.toNat:Nat):Int) from by omega];unfold IZ;(repeat(first|rw[if_pos zab]|rw[if_neg zab]))
theorem SE(b:List UInt8)(p:Nat)(e n:Int)(hb:b.length<=4294967296)(hp:p<=b.length):Y E0 (.call 137 [.pa 0 0,.i n] [.var [.sl .u8 b,.i p,.i e]])=some (.ret (.sl .u8 (MH b p e n).1) [some (.var [.sl .u8 b,.i (MH b p e n).2.1,.i (MH b p e n).2.2])]):=by
 by_cases h2:(b.length:Int)<(p:Int)+2
 ·refine BM ?_
  rcases Dc e 0 with hc0|hc0
  ·
   refine BM ?_
   unfold MH;(repeat(first|rw[if_pos zab]|rw[if_neg zab]));try simp only[NO]
  subst hc0
  refine BM ?_
  rw[Pj _ _ _ _ _ Bq Bq Bq Bq]
  refine BM ?_
  rw[Ij ..]
  refine BM ?_
  unfold MH;(repeat(first|rw[if_pos zab]|rw[if_neg zab]));try simp only[NO]
 ·have g0:Ah ((b.drop (p:Int).toNat).take (2:Int).toNat) 0=some (b.getD p 0):=MZ zaa (by simp[List.getElem?_take,List.getElem?_drop,List.getD];rw[List.getElem?_eq_getElem zaa];rfl)
  have g1:Ah ((b.drop (p:Int).toNat).take (2:Int).toNat) 1=some (b.getD (p+1) 0):=MZ zaa (by simp[List.getElem?_take,List.getElem?_drop,List.getD];rw[List.getElem?_eq_getElem zaa];rfl)
  have hv:Ak .or (Be (Dv (b.getD p 0)) (UInt64.ofNat 8).toNat) (Dv (b.getD (p+1) 0))=(FK b p:Int):=by
   rw[show(UInt64.ofNat 8).toNat=8 from rfl,Oj,Oj,yj,kU,WH,FK]
  have hx:=(b.getD p 0).toNat_lt
  have hy:=(b.getD (p+1) 0).toNat_lt
  have hl:FK b p<=65535:=by rw[FK];omega
  by_cases h4:(b.length:Int)<(p:Int)+2+FK b p
  ·refine BM ?_
   rcases Dc e 0 with hc0|hc0
   ·
    refine BM ?_
    unfold MH;(repeat(first|rw[if_pos zab]|rw[if_neg zab]));try simp only[NO]
   subst hc0
   refine BM ?_
   rw[Pm _ _ _ _ _ Bq Bq Bq Bq]
   refine BM ?_
   rw[g0]
   refine BM ?_
   rw[g1]
   conv=>lhs;whnf
   try dsimp -iota -beta -eta -zeta only
   rw[hv]
   refine BM ?_
   rcases DU n (↑(FK b p)) with hc1|hc1
   ·
    refine BM ?_
    rw[Ij ..]
    refine BM ?_
    unfold MH;(repeat(first|rw[if_pos zab]|rw[if_neg zab]));try simp only[NO]
   refine BM ?_
   rw[Pj _ _ _ _ _ Bq Bq Bq Bq]
   refine BM ?_
   rw[Ij ..]
   refine BM ?_
   unfold MH;(repeat(first|rw[if_pos zab]|rw[if_neg zab]));try simp only[NO]
  ·refine BM ?_
   rcases Dc e 0 with hc0|hc0
   ·
    refine BM ?_
    unfold MH;(repeat(first|rw[if_pos zab]|rw[if_neg zab]));try simp only[NO]
   subst hc0
   refine BM ?_
   rw[Pm _ _ _ _ _ Bq Bq Bq Bq]
   refine BM ?_
   rw[g0]
   refine BM ?_
   rw[g1]
   conv=>lhs;whnf
   try dsimp -iota -beta -eta -zeta only
   rw[hv]
   refine BM ?_
   rcases DU n (↑(FK b p)) with hc1|hc1
   ·
    refine BM ?_
    rw[Ij ..]
    refine BM ?_
    unfold MH;(repeat(first|rw[if_pos zab]|rw[if_neg zab]));try simp only[NO]
   refine BM ?_
   rw[Pm _ _ _ _ _ Bq Bq Bq Bq]
   conv=>lhs;whnf
   rw[Jh zaa]
   conv=>lhs;whnf
   rw[EF zak]
   conv=>lhs;whnf
   rw[D7 (a:=2) (b:=↑(FK b p)) zaa]
   rw[D7 zaa]
   unfold MH;(repeat(first|rw[if_pos zab]|rw[if_neg zab]));simp only[show((p:Int)+2).toNat=p+2 from by omega,show((FK b p:Nat):Int).toNat=FK b p from by omega];rw[show(p:Int)+(2+(FK b p:Int))=((p+2+FK b p:Nat):Int) from by omega]
end
end Go.Proofs.YtanagnimhaemgaaGreatDoor
