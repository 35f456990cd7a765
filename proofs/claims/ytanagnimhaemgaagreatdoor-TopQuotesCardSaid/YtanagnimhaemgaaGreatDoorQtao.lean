/-
  Own texts, laid together for this claim: contracts of functions of the program and its references, used by the statements of this seat.
-/
import Derived.Test.YtanagnimhaemgaaGreatDoorQtac
set_option linter.all false
set_option maxHeartbeats 40000000
set_option maxRecDepth 100000
namespace Go.Proofs.YtanagnimhaemgaaGreatDoor
open Go Go.Ax
variable (b:List UInt8)(p:Nat)(e:Int)
section
attribute [local irreducible] Bl CQ CS Bo Bg Ar CU Dw EN Dy EC Bf BU Bv Bz and' C9 CB BK Au BA BL BN Aa Ad AP AZ CV Dq CW DI CE BP BM BF BG BB AU BC Ae Ap Ai CX BH Bh Ba BO CG CY CJ fits CZ CO A8 AA Ac
theorem PV(n:Int):∀(k:Nat) (i:Int) (acc:List UInt8),i=(k:Int)-1->k<=8->acc.length+k<=5000000000 ->
  Y E0 (.loop 41 0 0 1 [(2,.i n),(7,.nm 0),(8,.i i)] [(0,some (.row 5 .u8 acc))])=some (.fin (.exit 0) 1 [(7,.nm 0)] [(0,some (.row 5 .u8 (acc++Oi k (UInt64.ofInt n))))])
 | 0,i,acc,hi,_,_=>by
  rw[AO];conv=>lhs;whnf
  refine BX ?_
  simp[Oi]
 | k+1,i,acc,hi,hk,hl=>by
  rw[AO];conv=>lhs;whnf
  rw[Fg zaa]
  conv=>lhs;whnf
  rw[Dx zai]
  conv=>lhs;whnf
  try dsimp -iota -beta -eta -zeta only
  rw[DU zaa]
  rw[PV n k _ _ zab zab zab]
  refine BX ?_
  simp only[Am,TJ,Oi,List.append_assoc,List.cons_append,List.nil_append];rw[A5R zaa,Ip,QE zaa,show(8*i).toNat=8*k from by omega]
theorem Fj(size n:Int)(hb:b.length<=4294967296):Y E0 (.call 41 [.sl .u8 b,.i size,.i n] [])=some (.ret (.nm 0) [some (.row 5 .u8 (BQ b size n))]):=by
 rw[AO]
 conv=>lhs;whnf
 rw[Dx zai]
 conv=>lhs;whnf
 rcases D7 size 1 with hc0|hc0
 ·
  refine BX ?_
  unfold BQ;(repeat(first|rw[if_pos zab]|rw[if_neg zab]));try simp only[NO]
 refine BX ?_
 rcases D7 8 size with hc1|hc1
 ·
  refine BX ?_
  unfold BQ;(repeat(first|rw[if_pos zab]|rw[if_neg zab]));try simp only[NO]
 refine BX ?_
 rw[PV n size.toNat _ _ zab zab zab]
 refine BX ?_
 unfold BQ;(repeat(first|rw[if_pos zab]|rw[if_neg zab]));try simp only[NO]
theorem Nw(x:List UInt8)(hb:b.length<=4294900000):Y E0 (.call 111 [.sl .u8 b,.sl .u8 x] [])=some (.ret (.nm 0) [some (.row 5 .u8 (Ht b x))]):=by
 have h2:(x.take 65535).length<=65535:=zaY
 have h1:=ZQ b 2 (Ap (x.take 65535))
 have hx:Bh x 0 65535=some (x.take 65535)\/x.length<65535:=by
  rcases Nat.lt_or_ge x.length 65535 with h|h
  ·exact .inr h
  ·exact .inl (by rw[Jm zaa];rfl)
 by_cases h:65535<x.length
 ·have hx:Bh x 0 65535=some (x.take 65535):=by rw[Jm zaa];rfl
  rw[AO]
  conv=>lhs;whnf
  rw[Dp zai]
  conv=>lhs;whnf
  rw[hx]
  refine BX ?_
  rw[Fj _ _ _ Cc]
  conv=>lhs;whnf
  rw[Dx zai]
  conv=>lhs;whnf
  rw[Am,Ht,AC]
 ·rw[List.take_of_length_le zaa] at h1
  rw[AO]
  conv=>lhs;whnf
  rw[Gz zai]
  conv=>lhs;whnf
  rw[AO]
  conv=>lhs;whnf
  try dsimp -iota -beta -eta -zeta only
  rw[Ak]
  rw[Fj _ _ _ Cc]
  conv=>lhs;whnf
  rw[Dx zai]
  conv=>lhs;whnf
  rw[Am,Ht,List.take_of_length_le zaa,AC]
theorem Tm:Y E0 (.call 60 [.sl .u8 b] [])=some (.ret (.pa 0 0) [some (.var [.sl .u8 b,.i 0,.i 0])]):=by
 exact BX rfl
theorem JQ(p e n:Int)(hb:b.length<=4294967296)(hp:0<=p/\p<=b.length)(he:e=0)(hn:p+n<=b.length):Y E0 (.call 101 [.pa 0 0,.i n] [.var [.sl .u8 b,.i p,.i e]])=some (.ret (.b true) [some (.var [.sl .u8 b,.i p,.i 0])]):=by
 subst he
 rw[AO]
 conv=>lhs;whnf
 rw[Ff zaa]
 conv=>lhs;whnf
 try dsimp -iota -beta -eta -zeta only
 rw[DU zai]
 rw[drw zaj];conv=>lhs;whnf
 rw[Gz zai]
 conv=>lhs;whnf
 rw[AO]
 conv=>lhs;whnf
 rw[Ff rfl]
theorem N8(p e n:Int)(hb:b.length<=4294967296)(hp:0<=p/\p<=b.length)(he:e=0)(hn:b.length<p+n):Y E0 (.call 101 [.pa 0 0,.i n] [.var [.sl .u8 b,.i p,.i e]])=some (.ret (.b false) [some (.var [.sl .u8 b,.i p,.i 2])]):=by
 subst he
 rw[AO]
 conv=>lhs;whnf
 rw[Ff zaa]
 conv=>lhs;whnf
 try dsimp -iota -beta -eta -zeta only
 rw[DU zai]
 rw[drw zaj];conv=>lhs;whnf
 rw[Dp zai]
 conv=>lhs;whnf
 rw[AO]
 conv=>lhs;whnf
 rw[Jc zad]
theorem zS(hb:b.length<=4294967296)(hp:p<=b.length):Y E0 (.call 102 [.pa 0 0] [.var [.sl .u8 b,.i p,.i e]])=some (.ret (.i ((b.length-p:Nat):Int)) [some (.var [.sl .u8 b,.i p,.i e])]):=by
 rw[AO]
 conv=>lhs;whnf
 try dsimp -iota -beta -eta -zeta only
 rw[DU zai]
 rw[drw zaj];conv=>lhs;whnf
 simp only[AC];congr 4;omega
theorem Tn(hb:b.length<=4294967296)(hp:p<=b.length):Y E0 (.call 63 [.pa 0 0] [.var [.sl .u8 b,.i p,.i e]])=some (.ret (.i (VT b p e)) [some (.var [.sl .u8 b,.i p,.i e])]):=by
 refine BX ?_
 rcases FK e 0 with hc0|hc0
 ·
  subst hc0
  refine BX ?_
  rw[zS _ _ _ Cc Cc]
  refine BX ?_
  rcases D7 0 (↑(b.length-p)) with hc1|hc1
  ·
   refine BX ?_
   unfold VT;(repeat(first|rw[if_pos zab]|rw[if_neg zab]));try simp only[NO]
  refine BX ?_
  unfold VT;(repeat(first|rw[if_pos zab]|rw[if_neg zab]));try simp only[NO]
 refine BX ?_
 unfold VT;(repeat(first|rw[if_pos zab]|rw[if_neg zab]));try simp only[NO]
theorem kV(n:Int)(hb:b.length<=4294967296)(hp:p<=b.length)(hn:n<=4294967296):Y E0 (.call 106 [.pa 0 0,.i n] [.var [.sl .u8 b,.i p,.i e]])=some (.ret (.sl .u8 (OH b p e n).1) [some (.var [.sl .u8 b,.i (OH b p e n).2.1,.i (OH b p e n).2.2])]):=by
 by_cases h:b.length<(p:Int)+n
 ·refine BX ?_
  rcases FK e 0 with hc0|hc0
  ·
   subst hc0
   refine BX ?_
   rw[N8 _ _ _ _ Cc Cc Cc Cc]
   refine BX ?_
   unfold OH;(repeat(first|rw[if_pos zab]|rw[if_neg zab]));try simp only[NO]
  refine BX ?_
  unfold OH;(repeat(first|rw[if_pos zab]|rw[if_neg zab]));try simp only[NO]
 ·refine BX ?_
  rcases FK e 0 with hc0|hc0
  ·
   subst hc0
   refine BX ?_
   rcases D7 n 0 with hc1|hc1
   ·
    refine BX ?_
    unfold OH;(repeat(first|rw[if_pos zab]|rw[if_neg zab]));try simp only[NO]
   refine BX ?_
   rw[JQ _ _ _ _ Cc Cc Cc Cc]
   conv=>lhs;whnf
   rw[DF];conv=>lhs;whnf
   rw[Bc zaa]
   rw[DU zaa]
   rw[Jm zaa]
   conv=>lhs;whnf
   rw[Dx zai]
   conv=>lhs;whnf
   try dsimp -iota -beta -eta -zeta only
   rw[drw zaj];conv=>lhs;whnf
   rw[show(p:Int)+n-n=p from by omega,show(p:Int)+n-p=n from by omega,show(p:Int)+n=((p+n.toNat:Nat):Int) from by omega];unfold OH;(repeat(first|rw[if_pos zab]|rw[if_neg zab]));simp only[Am,List.nil_append,Int.toNat_natCast]
  refine BX ?_
  unfold OH;(repeat(first|rw[if_pos zab]|rw[if_neg zab]));try simp only[NO]
end
end Go.Proofs.YtanagnimhaemgaaGreatDoor
