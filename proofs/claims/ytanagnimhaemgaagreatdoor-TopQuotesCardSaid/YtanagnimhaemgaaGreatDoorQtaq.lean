/-
  Own texts, laid together for this claim: contracts of functions of the program and its references, used by the statements of this seat.
-/
import Derived.Test.YtanagnimhaemgaaGreatDoorQtac
set_option linter.all false
set_option maxHeartbeats 40000000
set_option maxRecDepth 100000
namespace Go.Ax
theorem A4e(b:List UInt8):(Nq b).1.key.length<=b.length/\(Nq b).1.nonce.length<=b.length/\(Nq b).1.digest.length<=b.length:=by
 unfold Nq
 dsimp only
 split
 ·simp[OJ]
 split
 ·simp[OJ]
 split
 ·simp[OJ]
 split
 ·simp[OJ]
 exact⟨QG,QG,dX⟩
end Go.Ax
namespace Go.Proofs.YtanagnimhaemgaaGreatDoor
open Go Go.Ax
variable (b:List UInt8)(p n e:Int)
section
attribute [local irreducible] Bl CQ CS Bo Bg Ar CU Dw EN Dy EC Bf BU Bv Bz and' C9 CB BK Au BA BL BN Aa Ad AP AZ CV Dq CW DI CE BP BM BF BG BB AU BC Ae Ap Ai CX BH Bh Ba BO CG CY CJ fits CZ CO A8 AA Ac
theorem Tq(n:Int):∀(k:Nat) (i:Int) (acc:List UInt8),i=(k:Int)-1->k<=8->acc.length+k<=5000000000 ->
  Y E0 (.loop 117 0 0 1 [(2,.i n),(7,.nm 0),(8,.i i)] [(0,some (.row 5 .u8 acc))])=some (.fin (.exit 0) 1 [(7,.nm 0)] [(0,some (.row 5 .u8 (acc++Oi k (UInt64.ofInt n))))])
 | 0,i,acc,hi,_,_=>by
  rw[AO];conv=>lhs;whnf
  refine BX ?_
  simp[Oi]
 | k+1,i,acc,hi,hk,hl=>by
  rw[AO];conv=>lhs;whnf
  rw[Fg zaa]
  conv=>lhs;whnf
  rw[JA zaa]
  rw[Dx zai]
  conv=>lhs;whnf
  try dsimp -iota -beta -eta -zeta only
  rw[DU zaa]
  rw[Tq n k _ _ zab zab zab]
  refine BX ?_
  simp only[Am,TJ,Ip,Oi,List.append_assoc,List.cons_append,List.nil_append];rw[LP zaa,QE zaa,show(8*i).toNat=8*k from by omega]
theorem D5(size n:Int)(hb:b.length<=4294967296):Y E0 (.call 117 [.sl .u8 b,.i size,.i n] [])=some (.ret (.nm 0) [some (.row 5 .u8 (BQ b size n))]):=by
 refine BX ?_
 rcases D7 size 1 with hc0|hc0
 ·
  refine BX ?_
  unfold BQ;(repeat(first|rw[if_pos zab]|rw[if_neg zab]));try simp only[NO]
 refine BX ?_
 rcases D7 8 size with hc1|hc1
 ·
  refine BX ?_
  unfold BQ;(repeat(first|rw[if_pos zab]|rw[if_neg zab]));try simp only[NO]
 refine BX ?_
 rw[Tq n size.toNat _ _ zab zab zab]
 refine BX ?_
 unfold BQ;(repeat(first|rw[if_pos zab]|rw[if_neg zab]));try simp only[NO]
theorem Ep(x:List UInt8)(hb:b.length<=4294900000):Y E0 (.call 120 [.sl .u8 b,.sl .u8 x] [])=some (.ret (.nm 0) [some (.row 5 .u8 (Ht b x))]):=by
 have hx:Bh x 0 (min (Ap x) 65535)=some (x.take 65535):=by
  rw[Jm (by rw[AC];omega)]
  congr 1
  simp only[AC,Int.toNat_zero,List.drop_zero]
  rw[List.take_eq_take_iff];omega
 have h2:(x.take 65535).length<=65535:=zaY
 have:=ZQ b 2 (Ap (x.take 65535))
 refine BX ?_
 rw[hx]
 refine BX ?_
 rw[D5 _ _ _ Cc]
 conv=>lhs;whnf
 rw[Dx zai]
 conv=>lhs;whnf
 rw[Am,Ht,AC]
theorem PW(hb:b.length<=4294967296):Y E0 (.call 91 [.sl .u8 b] [])=some (.ret (.pa 0 0) [some (.var [.sl .u8 b,.i 0,.i 0])]):=by
 exact BX rfl
theorem Iw(f:Int):Y E0 (.call 168 [.pa 0 0,.i f] [.var [.sl .u8 b,.i p,.i e]])=some (.ret (.tup []) [some (.var [.sl .u8 b,.i p,.i f])]):=by
 exact BX rfl
theorem QS(q e:Int)(hb:b.length<=4294967296)(hp:0<=p/\p<=b.length)(hn:0<=n)(h:b.length<p+n):Y E0 (.call 169 [.pa 0 0,.i p,.i n] [.var [.sl .u8 b,.i q,.i e]])=some (.ret (.tup [.sl .u8 [],.i 2]) [some (.var [.sl .u8 b,.i q,.i e])]):=by
 rw[AO]
 conv=>lhs;whnf
 rw[DU zai]
 rw[Dp zai]
 conv=>lhs;whnf
theorem QT(q e:Int)(hb:b.length<=4294967296)(hp:0<=p/\p<=b.length)(hn:0<=n)(h:¬b.length<p+n):Y E0 (.call 169 [.pa 0 0,.i p,.i n] [.var [.sl .u8 b,.i q,.i e]])=some (.ret (.tup [.sl .u8 ((b.drop p.toNat).take n.toNat),.i 0]) [some (.var [.sl .u8 b,.i q,.i e])]):=by
 rw[AO]
 conv=>lhs;whnf
 rw[DU zai]
 rw[Gz zai]
 conv=>lhs;whnf
 rw[Bc zaa]
 rw[Jm zaa]
 conv=>lhs;whnf
 rw[show p+n-p=n from by omega]
theorem A6A(p:Nat)(e:Int)(hb:b.length<=4294967296)(hp:p<=b.length):Y E0 (.call 139 [.pa 0 0] [.var [.sl .u8 b,.i p,.i e]])=some (.ret (.i ((b.length-p:Nat):Int)) [some (.var [.sl .u8 b,.i p,.i e])]):=by
 rw[AO]
 conv=>lhs;whnf
 try dsimp -iota -beta -eta -zeta only
 rw[DU zai]
 rw[drw zaj];conv=>lhs;whnf
 simp only[AC];congr 4;omega
theorem V3(p:Nat)(e n:Int)(hb:b.length<=4294967296)(hp:p<=b.length)(hn:n<=4294967296):Y E0 (.call 134 [.pa 0 0,.i n] [.var [.sl .u8 b,.i p,.i e]])=some (.ret (.sl .u8 (OH b p e n).1) [some (.var [.sl .u8 b,.i (OH b p e n).2.1,.i (OH b p e n).2.2])]):=by
 by_cases h:b.length<(p:Int)+n
 ·refine BX ?_
  rcases Bj e 0 with hc0|hc0
  ·
   refine BX ?_
   unfold OH;(repeat(first|rw[if_pos zab]|rw[if_neg zab]));try simp only[NO]
  subst hc0
  refine BX ?_
  rw[QS _ _ _ _ _ Cc Cc Cc Cc]
  refine BX ?_
  rw[Iw ..]
  refine BX ?_
  unfold OH;(repeat(first|rw[if_pos zab]|rw[if_neg zab]));try simp only[NO]
 ·refine BX ?_
  rcases Bj e 0 with hc0|hc0
  ·
   refine BX ?_
   unfold OH;(repeat(first|rw[if_pos zab]|rw[if_neg zab]));try simp only[NO]
  subst hc0
  refine BX ?_
  rcases D7 n 0 with hc1|hc1
  ·
   refine BX ?_
   rw[Iw ..]
   refine BX ?_
   unfold OH;(repeat(first|rw[if_pos zab]|rw[if_neg zab]));try simp only[NO]
  refine BX ?_
  rw[QT _ _ _ _ _ Cc Cc Cc Cc]
  refine BX ?_
  rw[show(p:Int)+n=((p+n.toNat:Nat):Int) from by omega];unfold OH;(repeat(first|rw[if_pos zab]|rw[if_neg zab]));rfl
theorem N9:Y E0 (.call 136 [.pa 0 0] [.var [.sl .u8 b,.i p,.i e]])=some (.ret (.i e) [some (.var [.sl .u8 b,.i p,.i e])]):=by
 rw[AO];conv=>lhs;whnf
theorem Tt(p:Nat)(e:Int)(hb:b.length<=4294967296)(hp:p<=b.length):Y E0 (.call 99 [.pa 0 0] [.var [.sl .u8 b,.i p,.i e]])=some (.ret (.i (VT b p e)) [some (.var [.sl .u8 b,.i p,.i e])]):=by
 refine BX ?_
 rcases FK e 0 with hc0|hc0
 ·
  subst hc0
  refine BX ?_
  rw[A6A _ _ _ Cc Cc]
  refine BX ?_
  rcases D7 0 (↑(b.length-p)) with hc1|hc1
  ·
   refine BX ?_
   unfold VT;(repeat(first|rw[if_pos zab]|rw[if_neg zab]));try simp only[NO]
  refine BX ?_
  unfold VT;(repeat(first|rw[if_pos zab]|rw[if_neg zab]));try simp only[NO]
 refine BX ?_
 unfold VT;(repeat(first|rw[if_pos zab]|rw[if_neg zab]));try simp only[NO]
end
end Go.Proofs.YtanagnimhaemgaaGreatDoor
