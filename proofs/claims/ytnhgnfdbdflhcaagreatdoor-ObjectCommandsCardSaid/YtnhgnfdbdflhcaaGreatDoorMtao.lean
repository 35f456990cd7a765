/-
  Own texts, laid together for this claim: contracts of functions of the program and its references, used by the statements of this seat.
-/
import Derived.Test.YtnhgnfdbdflhcaaGreatDoorMtab
set_option linter.all false
set_option maxHeartbeats 40000000
set_option maxRecDepth 100000
namespace Go.Proofs.YtnhgnfdbdflhcaaGreatDoor
open Go Go.Ax
variable (b:List UInt8)(p:Nat)(e:Int)
section
attribute [local irreducible] Cc Dn D7 DU DD BA Dp F7 FY FD Ez Ci CS DK DV and' DW DL C9 BR Bh CB CG BG BI Aw BC Dq Fh Dt ER DX Bl CE Bv Bz Bi Az Bg BK Bj BO Du Bc DF BZ BM Cj Di fits Dv Dk Ac Am BH
theorem Qd(n:Int):∀(k:Nat) (i:Int) (acc:List UInt8),i=(k:Int)-1->k<=8->acc.length+k<=5000000000 ->
  Y E0 (.loop 113 0 0 1 [(2,.i n),(7,.nm 0),(8,.i i)] [(0,some (.row 5 .u8 acc))])=some (.fin (.exit 0) 1 [(7,.nm 0)] [(0,some (.row 5 .u8 (acc++Rf k (UInt64.ofInt n))))])
 | 0,i,acc,hi,_,_=>by
  rw[Ad];conv=>lhs;whnf
  refine BF ?_
  simp[Rf]
 | k+1,i,acc,hi,hk,hl=>by
  rw[Ad];conv=>lhs;whnf
  rw[Gm zaa]
  conv=>lhs;whnf
  rw[Dy zar]
  conv=>lhs;whnf
  try dsimp -iota -beta -eta -zeta only
  rw[CY zaa]
  rw[Qd n k _ _ zab zab zab]
  refine BF ?_
  simp only[Ag,Us,Rf,List.append_assoc,List.cons_append,List.nil_append];rw[A4w zaa,MH,RZ zaa,show(8*i).toNat=8*k from by omega]
theorem CP(size n:Int)(hb:b.length<=4294967296):Y E0 (.call 113 [.sl .u8 b,.i size,.i n] [])=some (.ret (.nm 0) [some (.row 5 .u8 (BV b size n))]):=by
 rw[Ad]
 conv=>lhs;whnf
 rw[Dy zar]
 conv=>lhs;whnf
 rcases AZ size 1 with hc0|hc0
 ·
  refine BF ?_
  unfold BV;(repeat(first|rw[if_pos zab]|rw[if_neg zab]));try simp only[NO]
 refine BF ?_
 rcases AZ 8 size with hc1|hc1
 ·
  refine BF ?_
  unfold BV;(repeat(first|rw[if_pos zab]|rw[if_neg zab]));try simp only[NO]
 refine BF ?_
 rw[Qd n size.toNat _ _ zab zab zab]
 refine BF ?_
 unfold BV;(repeat(first|rw[if_pos zab]|rw[if_neg zab]));try simp only[NO]
theorem GM(x:List UInt8)(hb:b.length<=4294900000):Y E0 (.call 114 [.sl .u8 b,.sl .u8 x] [])=some (.ret (.nm 0) [some (.row 5 .u8 (KP b x))]):=by
 have h2:(x.take 65535).length<=65535:=za5
 have h1:=dC b 2 (Bj (x.take 65535))
 have hx:DF x 0 65535=some (x.take 65535)\/x.length<65535:=by
  rcases Nat.lt_or_ge x.length 65535 with h|h
  ·exact .inr h
  ·exact .inl (by rw[KG zaa];rfl)
 by_cases h:65535<x.length
 ·have hx:DF x 0 65535=some (x.take 65535):=by rw[KG zaa];rfl
  rw[Ad]
  conv=>lhs;whnf
  rw[EZ zar]
  conv=>lhs;whnf
  rw[hx]
  refine BF ?_
  rw[CP _ _ _ CW]
  conv=>lhs;whnf
  rw[Dy zar]
  conv=>lhs;whnf
  rw[Ag,KP,BB]
 ·rw[List.take_of_length_le zaa] at h1
  rw[Ad]
  conv=>lhs;whnf
  rw[GL zar]
  conv=>lhs;whnf
  rw[Ad]
  conv=>lhs;whnf
  try dsimp -iota -beta -eta -zeta only
  rw[AQ]
  rw[CP _ _ _ CW]
  conv=>lhs;whnf
  rw[Dy zar]
  conv=>lhs;whnf
  rw[Ag,KP,List.take_of_length_le zaa,BB]
theorem Qe:Y E0 (.call 39 [.sl .u8 b] [])=some (.ret (.pa 0 0) [some (.var [.sl .u8 b,.i 0,.i 0])]):=by
 exact BF rfl
theorem Jt(p e n:Int)(hb:b.length<=4294967296)(hp:0<=p/\p<=b.length)(he:e=0)(hn:p+n<=b.length):Y E0 (.call 100 [.pa 0 0,.i n] [.var [.sl .u8 b,.i p,.i e]])=some (.ret (.b true) [some (.var [.sl .u8 b,.i p,.i 0])]):=by
 subst he
 rw[Ad]
 conv=>lhs;whnf
 rw[EH zaa]
 conv=>lhs;whnf
 try dsimp -iota -beta -eta -zeta only
 rw[CY zar]
 rw[drw zas];conv=>lhs;whnf
 rw[GL zar]
 conv=>lhs;whnf
 rw[Ad]
 conv=>lhs;whnf
 rw[EH rfl]
theorem Np(p e n:Int)(hb:b.length<=4294967296)(hp:0<=p/\p<=b.length)(he:e=0)(hn:b.length<p+n):Y E0 (.call 100 [.pa 0 0,.i n] [.var [.sl .u8 b,.i p,.i e]])=some (.ret (.b false) [some (.var [.sl .u8 b,.i p,.i 2])]):=by
 subst he
 rw[Ad]
 conv=>lhs;whnf
 rw[EH zaa]
 conv=>lhs;whnf
 try dsimp -iota -beta -eta -zeta only
 rw[CY zar]
 rw[drw zas];conv=>lhs;whnf
 rw[EZ zar]
 conv=>lhs;whnf
 rw[Ad]
 conv=>lhs;whnf
 rw[AA zal]
theorem A0T(hb:b.length<=4294967296)(hp:p<=b.length):Y E0 (.call 101 [.pa 0 0] [.var [.sl .u8 b,.i p,.i e]])=some (.ret (.i ((b.length-p:Nat):Int)) [some (.var [.sl .u8 b,.i p,.i e])]):=by
 rw[Ad]
 conv=>lhs;whnf
 try dsimp -iota -beta -eta -zeta only
 rw[CY zar]
 rw[drw zas];conv=>lhs;whnf
 simp only[BB];congr 4;omega
theorem VI(hb:b.length<=4294967296)(hp:p<=b.length):Y E0 (.call 42 [.pa 0 0] [.var [.sl .u8 b,.i p,.i e]])=some (.ret (.i (U2 b p e)) [some (.var [.sl .u8 b,.i p,.i e])]):=by
 refine BF ?_
 rcases AL e 0 with hc0|hc0
 ·
  subst hc0
  refine BF ?_
  rw[A0T _ _ _ CW CW]
  refine BF ?_
  rcases AZ 0 (↑(b.length-p)) with hc1|hc1
  ·
   refine BF ?_
   unfold U2;(repeat(first|rw[if_pos zab]|rw[if_neg zab]));try simp only[NO]
  refine BF ?_
  unfold U2;(repeat(first|rw[if_pos zab]|rw[if_neg zab]));try simp only[NO]
 refine BF ?_
 unfold U2;(repeat(first|rw[if_pos zab]|rw[if_neg zab]));try simp only[NO]
theorem Zp(n:Int)(hb:b.length<=4294967296)(hp:p<=b.length)(hn:n<=4294967296):Y E0 (.call 108 [.pa 0 0,.i n] [.var [.sl .u8 b,.i p,.i e]])=some (.ret (.sl .u8 (Pz b p e n).1) [some (.var [.sl .u8 b,.i (Pz b p e n).2.1,.i (Pz b p e n).2.2])]):=by
 by_cases h:b.length<(p:Int)+n
 ·refine BF ?_
  rcases AL e 0 with hc0|hc0
  ·
   subst hc0
   refine BF ?_
   rw[Np _ _ _ _ CW CW CW CW]
   refine BF ?_
   unfold Pz;(repeat(first|rw[if_pos zab]|rw[if_neg zab]));try simp only[NO]
  refine BF ?_
  unfold Pz;(repeat(first|rw[if_pos zab]|rw[if_neg zab]));try simp only[NO]
 ·refine BF ?_
  rcases AL e 0 with hc0|hc0
  ·
   subst hc0
   refine BF ?_
   rcases AZ n 0 with hc1|hc1
   ·
    refine BF ?_
    unfold Pz;(repeat(first|rw[if_pos zab]|rw[if_neg zab]));try simp only[NO]
   refine BF ?_
   rw[Jt _ _ _ _ CW CW CW CW]
   conv=>lhs;whnf
   rw[DT];conv=>lhs;whnf
   rw[Au zaa]
   rw[CY zaa]
   rw[KG zaa]
   conv=>lhs;whnf
   rw[Dy zar]
   conv=>lhs;whnf
   try dsimp -iota -beta -eta -zeta only
   rw[drw zas];conv=>lhs;whnf
   rw[show(p:Int)+n-n=p from by omega,show(p:Int)+n-p=n from by omega,show(p:Int)+n=((p+n.toNat:Nat):Int) from by omega];unfold Pz;(repeat(first|rw[if_pos zab]|rw[if_neg zab]));simp only[Ag,List.nil_append,Int.toNat_natCast]
  refine BF ?_
  unfold Pz;(repeat(first|rw[if_pos zab]|rw[if_neg zab]));try simp only[NO]
end
end Go.Proofs.YtnhgnfdbdflhcaaGreatDoor
