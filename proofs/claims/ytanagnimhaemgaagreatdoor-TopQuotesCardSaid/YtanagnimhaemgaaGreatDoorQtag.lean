/-
  Own texts, laid together for this claim: contracts of functions of the program and its references, used by the statements of this seat.
-/
import Derived.Test.YtanagnimhaemgaaGreatDoorQtac
import Derived.Test.YtanagnimhaemgaaGreatDoorQtae
set_option linter.all false
set_option maxHeartbeats 40000000
set_option maxRecDepth 100000
namespace Go.Ax
open Go.Eng
variable (key:List UInt8)(x:UInt8)(l:List UInt8)
def LD(key:List UInt8):List UInt8:=key.take 64++(List.replicate 64 0).drop key.length
def Ia(x:UInt8)(l:List UInt8):List UInt8:=l.map (· ^^^ x)
def Oj(key:List UInt8):List UInt8:=if 64<key.length then sha256 key else key
def Xq(key b:List UInt8):List UInt8:=sha256 (Ia (UInt8.ofNat 92) (LD (Oj key))++sha256 (Ia (UInt8.ofNat 54) (LD (Oj key))++b))
def Gn(n:Int):List UInt8:=[UInt8.ofInt (n/2^24),UInt8.ofInt (n/2^16),UInt8.ofInt (n/2^8),UInt8.ofInt n]
def KA(key label ctx:List UInt8)(n:Int)(j:Nat):List UInt8:=(List.range j).flatMap fun(i:Nat)=>Xq key (Gn ((i:Int)+1)++(label++(0::(ctx++Gn (8*n)))))
def Aw(key label ctx:List UInt8)(n:Int):List UInt8:=if n<1\/1024<n then [] else(KA key label ctx n ((n+31)/32).toNat).take n.toNat
theorem Dz:(LD key).length=64:=by simp[LD];omega
theorem DZ:(Ia x l).length=l.length:=by simp[Ia]
theorem E5(b:List UInt8):(Xq key b).length=32:=A7 _
theorem DV(n:Int):(Gn n).length=4:=rfl
theorem DL(label ctx:List UInt8)(n:Int)(j:Nat):(KA key label ctx n j).length=32*j:=by
 unfold KA
 induction j with
 | zero=>rfl
 | succ j ih=>rw[List.range_succ,List.flatMap_append,List.length_append,ih];simp[E5];omega
theorem PK(label ctx:List UInt8)(n:Int)(j:Nat):KA key label ctx n (j+1)=KA key label ctx n j++Xq key (Gn ((j:Int)+1)++(label++(0::(ctx++Gn (8*n))))):=by
 unfold KA
 rw[List.range_succ,List.flatMap_append];simp
theorem G5{key label ctx:List UInt8}{n:Int}(h:1<=n/\n<=1024):(Aw key label ctx n).length=n.toNat:=by
 unfold Aw
 rw[if_neg zaa,List.length_take,DL];omega
theorem A60(i:Nat)(hi:i<l.length):(Ia x (l.take i)++l.drop i).set i (l[i]^^^x)=Ia x (l.take (i+1))++l.drop (i+1):=by
 have h1:(Ia x (l.take i)).length=i:=by rw[DZ,List.length_take];omega
 rw[List.set_append,if_neg zaa,h1,Nat.sub_self,List.drop_eq_getElem_cons hi,List.set_cons_zero,List.take_succ_eq_append_getElem hi]
 simp only[Ia,List.map_append,List.map_cons,List.map_nil,List.append_assoc,List.cons_append,List.nil_append]
theorem A0v(i:Nat)(hi:i<l.length)(hl:l.length=64):(Ia x (l.take i)++List.replicate (64-i) 0).set i (l[i]^^^x)=Ia x (l.take (i+1))++List.replicate (64-(i+1)) 0:=by
 have h1:(Ia x (l.take i)).length=i:=by rw[DZ,List.length_take];omega
 rw[List.set_append,if_neg zaa,h1,Nat.sub_self,show 64-i=(64-(i+1))+1 from by omega,List.replicate_succ,List.set_cons_zero,List.take_succ_eq_append_getElem hi]
 simp only[Ia,List.map_append,List.map_cons,List.map_nil,List.append_assoc,List.cons_append,List.nil_append]
end Go.Ax
namespace Go.Ax
open Go Go.Eng Go.RowKit
def ACB(a b:List UInt8):List UInt8:=List.zipWith (· ^^^ ·) a b
def A33:List UInt8:=[101,110,99,114,121,112,116]
def A9y:List UInt8:=[97,117,116,104,101,110,116,105,99,97,116,101]
def A8c(key nonce b:List UInt8):List UInt8:=ACB b (Aw key A33 nonce (b.length:Int))
def A8d(key nonce ad c:List UInt8):List UInt8:=Xq (Aw key A9y nonce 32) (Ag 0 [ad,nonce,c])
def A9z(nonce c t:List UInt8):List UInt8:=Ht (Ht [] nonce) c++t
def wR(key nonce ad plain:List UInt8):List UInt8 :=
 if 64<nonce.length\/1024<plain.length then [] else A9z nonce (A8c key nonce plain) (A8d key nonce ad (A8c key nonce plain))
def Zq(key ad b:List UInt8):List UInt8×Int :=
 let n:=JK b 0 0 64
 let c:=JK b n.2.1 n.2.2 1024
 let t:=OH b c.2.1 c.2.2 32
 let e:=VT b t.2.1 t.2.2
 if e≠0 then([],e) else if t.1≠A8d key n.1 ad c.1 then([],18) else(A8c key n.1 c.1,0)
theorem A34(key nonce ad c:List UInt8):(A8d key nonce ad c).length=32:=E5 _ _
end Go.Ax
namespace Go.Proofs.YtanagnimhaemgaaGreatDoor
open Go Go.Ax Go.Eng
variable (key:List UInt8)
section
attribute [local irreducible] Bl CQ CS Bo Bg Ar CU Dw EN Dy EC Bf BU Bv Bz and' C9 CB BK Au BA BL BN Aa Ad AP AZ CV Dq CW DI CE BP BM BF BG BB AU BC Ae Ap Ai CX BH Bh Ba BO CG CY CJ fits CZ CO A8 AA Ac
theorem Tc(b:UInt8)(key l:List UInt8)(hl:l.length=64):∀(k i:Nat),i+k=64->Y E0 (.loop 177 0 1 2 [(0,.u8 b),(4,.nm 1),(10,.i i)] [(0,some (.var [.sl .u8 key])),(1,some (.row 5 .u8 (Ia b (l.take i)++l.drop i)))])=some (.fin (.exit 0) 2 [(4,.nm 1)] [(0,some (.var [.sl .u8 key])),(1,some (.row 5 .u8 (Ia b l)))])
 | 0,i,hi=>by
  rw[List.take_of_length_le zaa,List.drop_eq_nil_of_le zaa,List.append_nil]
  rw[AO];conv=>lhs;whnf
  exact BX rfl
 | k+1,i,hi=>by
  have ih:=Tc b key l hl k (i+1) zaa
  have hs:=A60 b l i zaa
  have hl2:(Ia b (l.take i)++l.drop i).length=64:=by simp[DZ];omega
  have hg:Ai (Ia b (l.take i)++l.drop i) (i:Int)=some (l[i]'zaa):=by
   rw[DD,List.getElem?_append_right (by simp[DZ];omega)];simp[DZ,show min i l.length=i from by omega]
  rw[AO];conv=>lhs;whnf
  refine toA ?_
  rw[hg]
  refine toA ?_
  rw[hg]
  refine BX ?_
  refine(congrArg (Y E0) ?_).trans ih;(try simp only[Rq.loop.injEq,Rq.call.injEq,Rq.ops.injEq,List.cons.injEq,Prod.mk.injEq,AV.i.injEq,AV.sl.injEq,AV.st.injEq,AV.b.injEq,AV.u8.injEq,AV.nm.injEq,Option.some.injEq,Rs.row.injEq,Rs.var.injEq,heq_eq_eq,true_and,and_true]);(try(repeat' apply And.intro));all_goals first|(with_reducible rfl)|omega|(rw[Bc zaa];omega)|(rw[DU zaa];omega)|(rw[Ea,jg];exact hs)
theorem WU(b:UInt8)(key:List UInt8):Y E0 (.call 177 [.u8 b,.pa 0 0] [.var [.sl .u8 key]])=some (.ret (.nm 1) [some (.var [.sl .u8 key]),some (.row 5 .u8 (Ia b (LD key)))]):=by
 have h0:=Tc b key (LD key) (Dz key) 64 0 zaa
 have hp:CG (Ba 64 0) key=LD key:=by rw[dW,FY];simp[LD]
 rw[List.take_zero,List.drop_zero,show Ia b []++LD key=LD key from rfl,show((0:Nat):Int)=0 from rfl] at h0
 refine BX ?_
 rw[hp,h0]
 exact BX rfl
theorem A8X(b:List UInt8)(hk:key.length<=4294967296)(hb:b.length<=4294900000):Y E0 (.call 151 [.sl .u8 key,.sl .u8 b] [])=some (.ret (.sl .u8 (Xq key b)) []):=by
 by_cases hc:64<key.length
 ·have hkb:Oj key=sha256 key:=if_pos hc
  unfold Xq
  rw[hkb]
  refine BX ?_
  rw[Gm _ Cc]
  refine BX ?_
  rw[WU ..]
  conv=>lhs;whnf
  rw[Dx zaq]
  conv=>lhs;whnf
  try dsimp -iota -beta -eta -zeta only
  rw[Ak]
  rw[Gm _ zaq]
  refine BX ?_
  rw[WU ..]
  conv=>lhs;whnf
  rw[Dx zaq]
  conv=>lhs;whnf
  try dsimp -iota -beta -eta -zeta only
  rw[Ak]
  rw[Gm _ zaq]
  refine BX ?_
  simp only[NO];try with_reducible rfl
 ·have hkb:Oj key=key:=if_neg hc
  unfold Xq
  rw[hkb]
  refine BX ?_
  rw[WU ..]
  conv=>lhs;whnf
  rw[Dx zaq]
  conv=>lhs;whnf
  try dsimp -iota -beta -eta -zeta only
  rw[Ak]
  rw[Gm _ zaq]
  refine BX ?_
  rw[WU ..]
  conv=>lhs;whnf
  rw[Dx zaq]
  conv=>lhs;whnf
  try dsimp -iota -beta -eta -zeta only
  rw[Ak]
  rw[Gm _ zaq]
  refine BX ?_
  simp only[NO];try with_reducible rfl
theorem wJ(n:Int):Y E0 (.call 150 [.i n] [])=some (.ret (.nm 0) [some (.row 5 .u8 (Gn n))]):=by
 refine BX ?_
 rw[Hf zad,Hf zad,Hf zad];simp only[Dh];rfl
theorem PL(key label ctx:List UInt8)(n:Int)(hk:key.length<=4294967296)(hl:label.length<=1000)(hc:ctx.length<=1000000)(hn:1<=n/\n<=1024):∀(k j:Nat),j+k=((n+31)/32).toNat ->
  Y E0 (.loop 116 0 0 1 [(0,.sl .u8 key),(3,.i n),(9,.sl .u8 (label++(0::(ctx++Gn (8*n))))),(10,.nm 0),(11,.i (j+1))] [(0,some (.row 5 .u8 (KA key label ctx n j)))])=some (.fin (.exit 0) 0 [(3,.i n),(10,.sl .u8 (KA key label ctx n ((n+31)/32).toNat))] [])
 | 0,j,hj=>by
  rw[show((n+31)/32).toNat=j from by omega]
  rw[AO];conv=>lhs;whnf
  rw[Gz zaq]
  conv=>lhs;whnf
 | k+1,j,hj=>by
  have ih:=PL key label ctx n hk hl hc hn k (j+1) zaa
  rw[PK,show((j+1:Nat):Int)+1=(j:Int)+1+1 from by omega] at ih
  rw[AO];conv=>lhs;whnf
  rw[Dp zaq]
  conv=>lhs;whnf
  try dsimp -iota -beta -eta -zeta only
  rw[Ak]
  rw[wJ _]
  conv=>lhs;whnf
  rw[Dx zaq]
  conv=>lhs;whnf
  try dsimp -iota -beta -eta -zeta only
  rw[Ak]
  rw[A8X _ _ zaa zaq]
  conv=>lhs;whnf
  rw[Dx zaq]
  conv=>lhs;whnf
  try dsimp -iota -beta -eta -zeta only
  rw[Bc zaa]
  refine(congrArg (Y E0) ?_).trans ih;(try simp only[Rq.loop.injEq,Rq.call.injEq,Rq.ops.injEq,List.cons.injEq,Prod.mk.injEq,AV.i.injEq,AV.sl.injEq,AV.st.injEq,AV.b.injEq,AV.u8.injEq,AV.nm.injEq,Option.some.injEq,Rs.row.injEq,Rs.var.injEq,heq_eq_eq,true_and,and_true]);(try(repeat' apply And.intro));all_goals first|(with_reducible rfl)|omega|(rw[Bc zaa];omega)|(rw[DU zaa];omega)|(simp only[Am])
theorem Fh(label ctx:List UInt8)(n:Int)(hk:key.length<=4294967296)(hl:label.length<=1000)(hc:ctx.length<=1000000):Y E0 (.call 116 [.sl .u8 key,.str label,.sl .u8 ctx,.i n] [])=some (.ret (.sl .u8 (Aw key label ctx n)) []):=by
 have he:BO (BO (BO label [UInt8.ofNat 0]) ctx) (Gn (8*n))=label++(0::(ctx++Gn (8*n))):=by simp only[Am,List.append_assoc,List.cons_append,List.nil_append];rfl
 refine BX ?_
 rcases D7 n 1 with hc0|hc0
 ·
  refine BX ?_
  unfold Aw;(repeat(first|rw[if_pos zas]|rw[if_neg zas]));try rfl
 refine BX ?_
 rcases D7 1024 n with hc1|hc1
 ·
  refine BX ?_
  unfold Aw;(repeat(first|rw[if_pos zas]|rw[if_neg zas]));try rfl
 refine BX ?_
 rw[wJ _]
 conv=>lhs;whnf
 rw[Dx zaq]
 conv=>lhs;whnf
 try dsimp -iota -beta -eta -zeta only
 rw[EQ]
 have h0:=PL key label ctx n hk hl hc zaa _ 0 (Nat.zero_add _);rw[show((0:Nat):Int)+1=1 from rfl,show KA key label ctx n 0=[] from rfl] at h0;rw[he,h0]
 conv=>lhs;whnf
 rw[Ff zaa]
 conv=>lhs;whnf
 rw[PE zaq]
 conv=>lhs;whnf
 unfold Aw;(repeat(first|rw[if_pos zas]|rw[if_neg zas]));try rfl
end
end Go.Proofs.YtanagnimhaemgaaGreatDoor
