/-
  Own texts, laid together for this claim: contracts of functions of the program and its references, used by the statements of this seat.
-/
import Derived.Test.YtnhgnfdbdflhcaaGreatDoorMtab
import Derived.Test.YtnhgnfdbdflhcaaGreatDoorMtaq
set_option linter.all false
set_option maxHeartbeats 40000000
set_option maxRecDepth 100000
namespace Go.Proofs.YtnhgnfdbdflhcaaGreatDoor
open Go Go.Ax
section
attribute [local irreducible] Cc Dn D7 DU DD BA Dp F7 FY FD Ez Ci CS DK DV and' DW DL C9 BR Bh CB CG BG BI Aw BC Dq Fh Dt ER DX Bl CE Bv Bz Bi Az Bg BK Bj BO Du Bc DF BZ BM Cj Di fits Dv Dk Ac Am BH
theorem O8(l b:List UInt8)(n p e:Int)(hl:l.length<=8):∀(k:Nat) (acc:UInt64) (j:Int),j=(l.length:Int)-k->k<=l.length ->
  Y E0 (.loop 189 0 1 1 [(0,.pa 0 0),(1,.i n),(7,.u64 acc),(38,.sl .u8 l),(39,.i (Bj l)),(40,.i j)] [(0,some (.var [.sl .u8 b,.i p,.i e]))])=some (.fin (.exit 0) 1 [(0,.pa 0 0),(1,.i n),(7,.u64 ((l.drop j.toNat).foldl (fun n x=>n<<<8|||x.toUInt64) acc))] [(0,some (.var [.sl .u8 b,.i p,.i e]))])
 | 0,acc,j,hj,hk=>by
  rw[Ad];conv=>lhs;whnf
  rw[GL zar]
  conv=>lhs;whnf
  rw[List.drop_eq_nil_of_le zaa];rfl
 | k+1,acc,j,hj,hk=>by
  have hlt:j.toNat<l.length:=zaa
  rw[Ad];conv=>lhs;whnf
  rw[EZ zar]
  conv=>lhs;whnf
  rw[DZ zaa]
  conv=>lhs;whnf
  try dsimp -iota -beta -eta -zeta only
  rw[Au zaa]
  rw[O8 l b n p e hl k _ _ zaa zaa]
  refine BF ?_
  rw[show l.drop j.toNat=l[j.toNat]::l.drop (j+1).toNat from by rw[List.drop_eq_getElem_cons hlt,show(j+1).toNat=j.toNat+1 from by omega],List.foldl_cons,lZ,lY,dB zal];rfl
theorem Zq(b:List UInt8)(p:Nat)(e n:Int)(hb:b.length<=4294967296)(hp:p<=b.length):Y E0 (.call 189 [.pa 0 0,.i n] [.var [.sl .u8 b,.i p,.i e]])=some (.ret (.i (Hr b p e n).1) [some (.var [.sl .u8 b,.i (Hr b p e n).2.1,.i (Hr b p e n).2.2])]):=by
 have hv:∀ l:List UInt8,(l.drop (0:Int).toNat).foldl (fun(n:UInt64) (x:UInt8)=>n<<<8|||x.toUInt64) (UInt64.ofNat 0)=beN l:=fun _=>rfl
 by_cases h4:(b.length:Int)<(p:Int)+n
 ·refine BF ?_
  rcases AX e 0 with hc0|hc0
  ·
   refine BF ?_
   unfold Hr;(repeat(first|rw[if_pos zab]|rw[if_neg zab]));try simp only[NO]
  subst hc0
  refine BF ?_
  rcases AZ 8 n with hc1|hc1
  ·
   refine BF ?_
   rw[JC ..]
   refine BF ?_
   unfold Hr;(repeat(first|rw[if_pos zab]|rw[if_neg zab]));try simp only[NO]
  refine BF ?_
  rw[S9 _ _ _ _ _ CW CW CW CW]
  refine BF ?_
  rw[JC ..]
  refine BF ?_
  unfold Hr;(repeat(first|rw[if_pos zab]|rw[if_neg zab]));try simp only[NO]
 ·by_cases h5:9223372036854775807<(beN ((b.drop p).take n.toNat)).toNat
  ·refine BF ?_
   rcases AX e 0 with hc0|hc0
   ·
    refine BF ?_
    unfold Hr;(repeat(first|rw[if_pos zab]|rw[if_neg zab]));try simp only[NO]
   subst hc0
   refine BF ?_
   rcases AZ n 1 with hc1|hc1
   ·
    refine BF ?_
    rw[JC ..]
    refine BF ?_
    unfold Hr;(repeat(first|rw[if_pos zab]|rw[if_neg zab]));try simp only[NO]
   refine BF ?_
   rcases AZ 8 n with hc2|hc2
   ·
    refine BF ?_
    rw[JC ..]
    refine BF ?_
    unfold Hr;(repeat(first|rw[if_pos zab]|rw[if_neg zab]));try simp only[NO]
   refine BF ?_
   rw[SA _ _ _ _ _ CW CW CW CW]
   refine BF ?_
   rw[O8 _ b n p 0 zaC ((b.drop (p:Int).toNat).take n.toNat).length _ 0 zaa zaa,hv,Int.toNat_natCast]
   conv=>lhs;whnf
   rw[A4s (by simpa using h5)]
   refine BF ?_
   rw[JC ..]
   refine BF ?_
   unfold Hr;(repeat(first|rw[if_pos zab]|rw[if_neg zab]));try simp only[NO]
  ·refine BF ?_
   rcases AX e 0 with hc0|hc0
   ·
    refine BF ?_
    unfold Hr;(repeat(first|rw[if_pos zab]|rw[if_neg zab]));try simp only[NO]
   subst hc0
   refine BF ?_
   rcases AZ n 1 with hc1|hc1
   ·
    refine BF ?_
    rw[JC ..]
    refine BF ?_
    unfold Hr;(repeat(first|rw[if_pos zab]|rw[if_neg zab]));try simp only[NO]
   refine BF ?_
   rcases AZ 8 n with hc2|hc2
   ·
    refine BF ?_
    rw[JC ..]
    refine BF ?_
    unfold Hr;(repeat(first|rw[if_pos zab]|rw[if_neg zab]));try simp only[NO]
   refine BF ?_
   rw[SA _ _ _ _ _ CW CW CW CW]
   refine BF ?_
   rw[O8 _ b n p 0 zaC ((b.drop (p:Int).toNat).take n.toNat).length _ 0 zaa zaa,hv,Int.toNat_natCast]
   conv=>lhs;whnf
   rw[A4t (by simpa using h5)]
   refine BF ?_
   rw[show(p:Int)+n=((p+n.toNat:Nat):Int) from by omega];unfold Hr;(repeat(first|rw[if_pos zab]|rw[if_neg zab]))
theorem NL(b:List UInt8)(p:Nat)(e n:Int)(hb:b.length<=4294967296)(hp:p<=b.length):Y E0 (.call 190 [.pa 0 0,.i n] [.var [.sl .u8 b,.i p,.i e]])=some (.ret (.sl .u8 (Ie b p e n).1) [some (.var [.sl .u8 b,.i (Ie b p e n).2.1,.i (Ie b p e n).2.2])]):=by
 by_cases h2:(b.length:Int)<(p:Int)+2
 ·refine BF ?_
  rcases AX e 0 with hc0|hc0
  ·
   refine BF ?_
   unfold Ie;(repeat(first|rw[if_pos zab]|rw[if_neg zab]));try simp only[NO]
  subst hc0
  refine BF ?_
  rw[S9 _ _ _ _ _ CW CW CW CW]
  refine BF ?_
  rw[JC ..]
  refine BF ?_
  unfold Ie;(repeat(first|rw[if_pos zab]|rw[if_neg zab]));try simp only[NO]
 ·have g0:BO ((b.drop (p:Int).toNat).take (2:Int).toNat) 0=some (b.getD p 0):=Iu zaa (by simp[List.getElem?_take,List.getElem?_drop,List.getD];rw[List.getElem?_eq_getElem zaa];rfl)
  have g1:BO ((b.drop (p:Int).toNat).take (2:Int).toNat) 1=some (b.getD (p+1) 0):=Iu zaa (by simp[List.getElem?_take,List.getElem?_drop,List.getD];rw[List.getElem?_eq_getElem zaa];rfl)
  have hv:BA .or (Ci (Fh (b.getD p 0)) (UInt64.ofNat 8).toNat) (Fh (b.getD (p+1) 0))=(FQ b p:Int):=by
   rw[show(UInt64.ofNat 8).toNat=8 from rfl,QI,QI,A5v,A2Q,lg,FQ]
  have hx:=(b.getD p 0).toNat_lt
  have hy:=(b.getD (p+1) 0).toNat_lt
  have hl:FQ b p<=65535:=by rw[FQ];omega
  by_cases h4:(b.length:Int)<(p:Int)+2+FQ b p
  ·refine BF ?_
   rcases AX e 0 with hc0|hc0
   ·
    refine BF ?_
    unfold Ie;(repeat(first|rw[if_pos zab]|rw[if_neg zab]));try simp only[NO]
   subst hc0
   refine BF ?_
   rw[SA _ _ _ _ _ CW CW CW CW]
   refine BF ?_
   rw[g0]
   refine BF ?_
   rw[g1]
   conv=>lhs;whnf
   try dsimp -iota -beta -eta -zeta only
   rw[hv]
   refine BF ?_
   rcases AZ n (↑(FQ b p)) with hc1|hc1
   ·
    refine BF ?_
    rw[JC ..]
    refine BF ?_
    unfold Ie;(repeat(first|rw[if_pos zab]|rw[if_neg zab]));try simp only[NO]
   refine BF ?_
   rw[S9 _ _ _ _ _ CW CW CW CW]
   refine BF ?_
   rw[JC ..]
   refine BF ?_
   unfold Ie;(repeat(first|rw[if_pos zab]|rw[if_neg zab]));try simp only[NO]
  ·refine BF ?_
   rcases AX e 0 with hc0|hc0
   ·
    refine BF ?_
    unfold Ie;(repeat(first|rw[if_pos zab]|rw[if_neg zab]));try simp only[NO]
   subst hc0
   refine BF ?_
   rw[SA _ _ _ _ _ CW CW CW CW]
   refine BF ?_
   rw[g0]
   refine BF ?_
   rw[g1]
   conv=>lhs;whnf
   try dsimp -iota -beta -eta -zeta only
   rw[hv]
   refine BF ?_
   rcases AZ n (↑(FQ b p)) with hc1|hc1
   ·
    refine BF ?_
    rw[JC ..]
    refine BF ?_
    unfold Ie;(repeat(first|rw[if_pos zab]|rw[if_neg zab]));try simp only[NO]
   refine BF ?_
   rw[SA _ _ _ _ _ CW CW CW CW]
   conv=>lhs;whnf
   rw[Cf zaa]
   conv=>lhs;whnf
   rw[Dy zar]
   conv=>lhs;whnf
   rw[Au (a:=2) (b:=↑(FQ b p)) zaa]
   rw[Au zaa]
   unfold Ie;(repeat(first|rw[if_pos zab]|rw[if_neg zab]));simp only[show((p:Int)+2).toNat=p+2 from by omega,show((FQ b p:Nat):Int).toNat=FQ b p from by omega];rw[show(p:Int)+(2+(FQ b p:Int))=((p+2+FQ b p:Nat):Int) from by omega]
end
end Go.Proofs.YtnhgnfdbdflhcaaGreatDoor
