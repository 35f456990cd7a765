/-
  Own texts, laid together for this claim: contracts of functions of the program and its references, used by the statements of this seat.
-/
import Derived.Test.YtanagnimhaemgaaGreatDoorMtac
import Derived.Test.YtanagnimhaemgaaGreatDoorMtad
import Derived.Test.YtanagnimhaemgaaGreatDoorMtaf
set_option linter.all false
set_option maxHeartbeats 40000000
set_option maxRecDepth 100000
namespace Go.Ax
open Go.Eng
variable (key:List UInt8)(leaf:Int)(x:UInt8)(l:List UInt8)(i:Nat)
def Zb(key:List UInt8):List UInt8:=key.take 64++(List.replicate 64 0).drop key.length
def Ru(x:UInt8)(l:List UInt8):List UInt8:=l.map (· ^^^ x)
def iC(key:List UInt8):List UInt8:=if 64<key.length then sha256 key else key
def dR(key b:List UInt8):List UInt8:=sha256 (Ru (UInt8.ofNat 92) (Zb (iC key))++sha256 (Ru (UInt8.ofNat 54) (Zb (iC key))++b))
def Xv(n:Int):List UInt8:=[UInt8.ofInt (n/2^24),UInt8.ofInt (n/2^16),UInt8.ofInt (n/2^8),UInt8.ofInt n]
def Td(key label ctx:List UInt8)(n:Int)(j:Nat):List UInt8:=(List.range j).flatMap fun(i:Nat)=>dR key (Xv ((i:Int)+1)++(label++(0::(ctx++Xv (8*n)))))
def D7(key label ctx:List UInt8)(n:Int):List UInt8:=if n<1\/1024<n then [] else(Td key label ctx n ((n+31)/32).toNat).take n.toNat
theorem Xw:(Zb key).length=64:=by simp[Zb];omega
theorem Rx:(Ru x l).length=l.length:=by simp[Ru]
theorem OW(b:List UInt8):(dR key b).length=32:=Gu _
theorem VV(n:Int):(Xv n).length=4:=rfl
theorem OX(label ctx:List UInt8)(n:Int)(j:Nat):(Td key label ctx n j).length=32*j:=by
 unfold Td
 induction j with
 | zero=>rfl
 | succ j ih=>rw[List.range_succ,List.flatMap_append,List.length_append,ih];simp[OW];omega
theorem derBlk_succ(label ctx:List UInt8)(n:Int)(j:Nat):Td key label ctx n (j+1)=Td key label ctx n j++dR key (Xv ((j:Int)+1)++(label++(0::(ctx++Xv (8*n))))):=by
 unfold Td
 rw[List.range_succ,List.flatMap_append];simp
theorem OY{key label ctx:List UInt8}{n:Int}(h:1<=n/\n<=1024):(D7 key label ctx n).length=n.toNat:=by
 unfold D7
 rw[if_neg zf,List.length_take,OX];omega
theorem xor_set(hi:i<l.length):(Ru x (l.take i)++l.drop i).set i (l[i]^^^x)=Ru x (l.take (i+1))++l.drop (i+1):=by
 have h1:(Ru x (l.take i)).length=i:=by rw[Rx,List.length_take];omega
 rw[List.set_append,if_neg zf,h1,Nat.sub_self,List.drop_eq_getElem_cons hi,List.set_cons_zero,List.take_succ_eq_append_getElem hi]
 simp only[Ru,List.map_append,List.map_cons,List.map_nil,List.append_assoc,List.cons_append,List.nil_append]
theorem padk_get(hi:i<64):(Zb key)[i]'(by rw[Xw];exact hi)=if h:i<key.length then key[i] else 0:=by
 unfold Zb
 by_cases h:i<key.length
 ·rw[List.getElem_append_left zx,dif_pos h];simp
 ·rw[List.getElem_append_right zx,dif_neg h,List.getElem_drop,List.getElem_replicate]
theorem Vr(hi:i<l.length)(hl:l.length=64):(Ru x (l.take i)++List.replicate (64-i) 0).set i (l[i]^^^x)=Ru x (l.take (i+1))++List.replicate (64-(i+1)) 0:=by
 have h1:(Ru x (l.take i)).length=i:=by rw[Rx,List.length_take];omega
 rw[List.set_append,if_neg zf,h1,Nat.sub_self,show 64-i=(64-(i+1))+1 from by omega,List.replicate_succ,List.set_cons_zero,List.take_succ_eq_append_getElem hi]
 simp only[Ru,List.map_append,List.map_cons,List.map_nil,List.append_assoc,List.cons_append,List.nil_append]
def hiN(b:UInt8):Int:=((b.toNat/16:Nat):Int)
def lW(b:UInt8):Int:=((b.toNat%16:Nat):Int)
def VW(l:List UInt8):List Int:=l.flatMap fun b=>[hiN b,lW b]
def Ry:List UInt8->Int
 | []=>0
 | b::l=>30-hiN b-lW b+Ry l
def dS(h:List UInt8):List Int:=VW h++[Ry h/256,Ry h/16%16,Ry h%16]
def VX(m:List UInt8):List UInt8:=(sha256 (Bh 4 [m])).take 16
def Hf(m:List UInt8):List Int:=dS (VX m)
def Xx(leaf c p:Int)(x:List UInt8):List UInt8:=(sha256 (Bh 1 [[UInt8.ofInt leaf,UInt8.ofInt c,UInt8.ofInt p],x])).take 16
def Xy:Nat->Int->Int->Int->List UInt8->List UInt8
 | 0,_,_,_,x=>x
 | n+1,leaf,c,p,x=>Xy n leaf c (p+1) (Xx leaf c p x)
def Tf(seed:List UInt8)(leaf c:Int):List UInt8:=D7 seed [99,104,97,105,110] [UInt8.ofInt leaf,UInt8.ofInt c] 16
def Xz(leaf:Int)(x:List UInt8):List UInt8:=(sha256 (Bh 2 [[UInt8.ofInt leaf],x])).take 16
theorem OZ:∀ l:List UInt8,(VW l).length=2*l.length
 | []=>rfl
 | b::l=>by have:=OZ l;simp only[VW] at *;simp[this];omega
theorem Rz(m:List UInt8):(VX m).length=16:=by simp[VX,Gu]
theorem VY(c p:Int)(x:List UInt8):(Xx leaf c p x).length=16:=by simp[Xx,Gu]
theorem stepsB_16:∀(n:Nat) (leaf c p:Int) (x:List UInt8),x.length=16->(Xy n leaf c p x).length=16
 | 0,_,_,_,x,h=>h
 | n+1,leaf,c,p,x,h=>stepsB_16 n leaf c (p+1) _ (VY _ _ _ _)
theorem Ti(seed:List UInt8)(leaf c:Int):(Tf seed leaf c).length=16:=OY zf
theorem valueB_len(x:List UInt8):(Xz leaf x).length=16:=by simp[Xz,Gu]
def Y0(leaf:Int)(st:Nat->List UInt8)(fr to:Nat->Int)(n:Nat):List UInt8:=(List.range n).flatMap fun(c:Nat)=>Xy (to c-fr c).toNat leaf c (fr c) (st c)
theorem walkB_succ(st:Nat->List UInt8)(fr to:Nat->Int)(n:Nat):Y0 leaf st fr to (n+1)=Y0 leaf st fr to n++Xy (to n-fr n).toNat leaf n (fr n) (st n):=by
 unfold Y0;rw[List.range_succ,List.flatMap_append];simp
theorem walkB_len(leaf:Int)(st:Nat->List UInt8)(fr to:Nat->Int)(m:Nat)(hs:∀ c,c<m->(st c).length=16):∀ n,n<=m->(Y0 leaf st fr to n).length=16*n
 | 0,_=>rfl
 | n+1,h=>by rw[walkB_succ,List.length_append,walkB_len leaf st fr to m hs n zf,stepsB_16 _ _ _ _ _ (hs n zf)];omega
def UW(seed:List UInt8)(leaf:Int):List UInt8:=if 0<=leaf/\leaf<=255 then Xz leaf (Y0 leaf (fun c=>Tf seed leaf c) (fun c=>0) (fun c=>15) 35) else []
def aA(seed:List UInt8)(leaf:Int)(m:List UInt8):List UInt8:=if 0<=leaf/\leaf<=255 then Y0 leaf (fun c=>Tf seed leaf c) (fun c=>0) (fun c=>(Hf m).getD c 0) 35 else []
def iD(leaf:Int)(m sig:List UInt8):List UInt8×Bool:=if(0<=leaf/\leaf<=255)/\sig.length=560 then(Xz leaf (Y0 leaf (fun c=>(sig.drop (16*c)).take 16) (fun c=>(Hf m).getD c 0) (fun c=>15) 35),true) else([],false)
def QS:List Int->Int
 | []=>0
 | x::l=>15-x+QS l
theorem MB:∀ l:List UInt8,QS (VW l)=Ry l
 | []=>rfl
 | b::l=>by
  have:=MB l
  simp only[VW] at *
  simp only[List.flatMap_cons,List.cons_append,List.nil_append,QS,Ry,this];omega
theorem Ic(m:List UInt8):(VW (VX m)).length=32:=by rw[OZ,Rz]
def Gh:List Int->List Int->Bool
 | a::x,b::y=>decide (b<a)||Gh x y
 | _,_=>false
theorem Ob:∀ x:List Int,Gh x x=false
 | []=>rfl
 | a::x=>by simp[Gh,Ob x]
theorem PU:∀(x1 y1 x2 y2:List Int),x1.length=y1.length->Gh (x1++x2) (y1++y2)=(Gh x1 y1||Gh x2 y2)
 | [],[],x2,y2,_=>by simp[Gh]
 | a::x1,b::y1,x2,y2,h=>by simp only[List.cons_append,Gh,PU x1 y1 x2 y2 zA,Bool.or_assoc]
 | [],b::y1,x2,y2,h|a::x1,[],x2,y2,h=>zI
theorem YA:∀(x y:List Int),x.length=y.length->Gh x y=false->QS y<=QS x/\(QS x=QS y->x=y)
 | [],[],_,_=>by simp[QS]
 | a::x,b::y,h,hg=>by
  simp only[Gh,Bool.or_eq_false_iff,decide_eq_false_iff_not] at hg
  obtain⟨h1,h2⟩:=YA x y zA hg.2
  simp only[QS]
  refine⟨by omega,fun e=>?_⟩
  obtain rfl:a=b:=zf
  rw[h2 zf]
 | [],b::y,h,_|a::x,[],h,_=>zI
theorem YB(a b:List UInt8)(h:Gh (Hf a) (Hf b)=false):Hf a=Hf b:=by
 unfold Hf dS at h
 rw[PU _ _ _ _ (by rw[Ic,Ic]),Bool.or_eq_false_iff] at h
 obtain⟨h1,h2⟩:=h
 obtain⟨h3,h4⟩:=YA _ _ (by rw[Ic,Ic]) h1
 rw[MB,MB] at h3 h4
 simp only[Gh,Bool.or_eq_false_iff,decide_eq_false_iff_not] at h2
 have e:Ry (VX a)=Ry (VX b):=zf
 unfold Hf dS
 rw[h4 e,e]
theorem cross(a b:List UInt8):(Gh (Hf a) (Hf b)==Gh (Hf b) (Hf a))=true/\(Gh (Hf a) (Hf b) != decide (Hf a=Hf b))=true:=by
 by_cases h:Hf a=Hf b
 ·rw[h,Ob];simp
 ·cases h1:Gh (Hf a) (Hf b)
  ·exact absurd (YB a b h1) h
  ·cases h2:Gh (Hf b) (Hf a)
   ·exact absurd (YB b a h2).symm h
   ·simp[h]
end Go.Ax
namespace Go.Proofs.YtanagnimhaemgaaGreatDoor
open Go Go.Ax Go.Eng
variable (key:List UInt8)
section
attribute [local irreducible] BL BM BN BO BP BJ BQ CX Cm CY CW Ba Bc BF BC and' BG Bd Aa Ac Ad Ae Af AL AO AP AQ BR D8 BU D5 Be Bf Ag Ah Ai Aj AB AZ AU Ar BA BV BH BB Au Aw BI Bg BX fits BZ BK A7 A8 AC
theorem ev_mask_loop(b:UInt8)(key l:List UInt8)(hl:l.length=64):∀(k i:Nat),i+k=64->Y E0 (.loop 177 0 1 2 [(0,.u8 b),(4,.nm 1),(10,.i i)] [(0,some (.var [.sl .u8 key])),(1,some (.row 5 .u8 (Ru b (l.take i)++l.drop i)))])=some (.fin (.exit 0) 2 [(4,.nm 1)] [(0,some (.var [.sl .u8 key])),(1,some (.row 5 .u8 (Ru b l)))])
 | 0,i,hi=>by
  rw[List.take_of_length_le zf,List.drop_eq_nil_of_le zf,List.append_nil]
  rw[JB];conv=>lhs;whnf
  exact tqA rfl
 | k+1,i,hi=>by
  have ih:=ev_mask_loop b key l hl k (i+1) zf
  have hs:=xor_set b l i zf
  have hl2:(Ru b (l.take i)++l.drop i).length=64:=by simp[Rx];omega
  have hg:BA (Ru b (l.take i)++l.drop i) (i:Int)=some (l[i]'zf):=by
   rw[lget_nat,List.getElem?_append_right (by simp[Rx];omega)];simp[Rx,show min i l.length=i from by omega]
  rw[JB];conv=>lhs;whnf
  refine toA ?_
  rw[hg]
  refine toA ?_
  rw[hg]
  refine tqA ?_
  refine(congrArg (Y E0) ?_).trans ih;(try simp only[Rq.loop.injEq,Rq.call.injEq,Rq.ops.injEq,List.cons.injEq,Prod.mk.injEq,AV.i.injEq,AV.sl.injEq,AV.st.injEq,AV.b.injEq,AV.u8.injEq,AV.nm.injEq,Option.some.injEq,Rs.row.injEq,Rs.var.injEq,heq_eq_eq,true_and,and_true]);(try(repeat' apply And.intro));all_goals first|(with_reducible rfl)|omega|(rw[ZF zf];omega)|(rw[ZG zf];omega)|(rw[UJ,u8xor_eq];exact hs)
theorem ev_mask(b:UInt8)(key:List UInt8):Y E0 (.call 177 [.u8 b,.pa 0 0] [.var [.sl .u8 key]])=some (.ret (.nm 1) [some (.var [.sl .u8 key]),some (.row 5 .u8 (Ru b (Zb key)))]):=by
 have h0:=ev_mask_loop b key (Zb key) (Xw key) 64 0 zf
 have hp:BI (Au 64 0) key=Zb key:=by rw[UI,QQ];simp[Zb]
 rw[List.take_zero,List.drop_zero,show Ru b []++Zb key=Zb key from rfl,show((0:Nat):Int)=0 from rfl] at h0
 refine tqA ?_
 rw[hp,h0]
 exact tqA rfl
theorem ev_mac(b:List UInt8)(hk:key.length<=4294967296)(hb:b.length<=4294900000):Y E0 (.call 151 [.sl .u8 key,.sl .u8 b] [])=some (.ret (.sl .u8 (dR key b)) []):=by
 by_cases hc:64<key.length
 ·have hkb:iC key=sha256 key:=if_pos hc
  unfold dR
  rw[hkb]
  refine tqA ?_
  rw[ev_dig_sum1 _ sdcA]
  refine tqA ?_
  rw[ev_mask ..]
  conv=>lhs;whnf
  rw[Ls (by(simp only[Gu,Xw,Rx,OW,VV,OX,LL] at *<;>omega))]
  conv=>lhs;whnf
  try dsimp -iota -beta -eta -zeta only
  rw[OQ]
  rw[ev_dig_sum1 _ (by(simp only[Gu,Xw,Rx,OW,VV,OX,LL] at *<;>omega))]
  refine tqA ?_
  rw[ev_mask ..]
  conv=>lhs;whnf
  rw[Ls (by(simp only[Gu,Xw,Rx,OW,VV,OX,LL] at *<;>omega))]
  conv=>lhs;whnf
  try dsimp -iota -beta -eta -zeta only
  rw[OQ]
  rw[ev_dig_sum1 _ (by(simp only[Gu,Xw,Rx,OW,VV,OX,LL] at *<;>omega))]
  refine tqA ?_
  simp only[NO];try with_reducible rfl
 ·have hkb:iC key=key:=if_neg hc
  unfold dR
  rw[hkb]
  refine tqA ?_
  rw[ev_mask ..]
  conv=>lhs;whnf
  rw[Ls (by(simp only[Gu,Xw,Rx,OW,VV,OX,LL] at *<;>omega))]
  conv=>lhs;whnf
  try dsimp -iota -beta -eta -zeta only
  rw[OQ]
  rw[ev_dig_sum1 _ (by(simp only[Gu,Xw,Rx,OW,VV,OX,LL] at *<;>omega))]
  refine tqA ?_
  rw[ev_mask ..]
  conv=>lhs;whnf
  rw[Ls (by(simp only[Gu,Xw,Rx,OW,VV,OX,LL] at *<;>omega))]
  conv=>lhs;whnf
  try dsimp -iota -beta -eta -zeta only
  rw[OQ]
  rw[ev_dig_sum1 _ (by(simp only[Gu,Xw,Rx,OW,VV,OX,LL] at *<;>omega))]
  refine tqA ?_
  simp only[NO];try with_reducible rfl
theorem ev_four(n:Int):Y E0 (.call 150 [.i n] [])=some (.ret (.nm 0) [some (.row 5 .u8 (Xv n))]):=by
 refine tqA ?_
 rw[ishr_eq zh,ishr_eq zh,ishr_eq zh];simp only[iu8_eq];rfl
theorem ev_rmac_loop(key b:List UInt8)(hk:key.length<=64):∀(k i:Nat),i+k=64->Y E0 (.loop 44 0 0 2 [(0,.sl .u8 key),(1,.sl .u8 b),(5,.nm 0),(6,.nm 1),(7,.i i)] [(0,some (.row 5 .u8 (Ru (UInt8.ofNat 54) ((Zb key).take i)++List.replicate (64-i) 0))),(1,some (.row 5 .u8 (Ru (UInt8.ofNat 92) ((Zb key).take i)++List.replicate (64-i) 0)))])=some (.fin (.exit 0) 2 [(1,.sl .u8 b),(5,.nm 0),(6,.nm 1)] [(0,some (.row 5 .u8 (Ru (UInt8.ofNat 54) (Zb key)))),(1,some (.row 5 .u8 (Ru (UInt8.ofNat 92) (Zb key))))])
 | 0,i,hi=>by
  rw[List.take_of_length_le (by rw[Xw];omega),show 64-i=0 from by omega,List.replicate_zero,List.append_nil,List.append_nil]
  rw[JB];conv=>lhs;whnf
  exact tqA rfl
 | k+1,i,hi=>by
  have ih:=ev_rmac_loop key b hk k (i+1) zf
  have hs1:=Vr (UInt8.ofNat 54) (Zb key) i (by rw[Xw];omega) (Xw key)
  have hs2:=Vr (UInt8.ofNat 92) (Zb key) i (by rw[Xw];omega) (Xw key)
  have hgt:=padk_get key i zf
  have hl1:(Ru (UInt8.ofNat 54) ((Zb key).take i)++List.replicate (64-i) (0:UInt8)).length=64:=by simp[Rx,Xw];omega
  have hl2:(Ru (UInt8.ofNat 92) ((Zb key).take i)++List.replicate (64-i) (0:UInt8)).length=64:=by simp[Rx,Xw];omega
  by_cases hc:i<key.length
  ·rw[dif_pos hc] at hgt
   rw[hgt] at hs1 hs2
   rw[JB];conv=>lhs;whnf
   refine tqA ?_
   refine(congrArg (Y E0) ?_).trans ih;(try simp only[Rq.loop.injEq,Rq.call.injEq,Rq.ops.injEq,List.cons.injEq,Prod.mk.injEq,AV.i.injEq,AV.sl.injEq,AV.st.injEq,AV.b.injEq,AV.u8.injEq,AV.nm.injEq,Option.some.injEq,Rs.row.injEq,Rs.var.injEq,heq_eq_eq,true_and,and_true]);(try(repeat' apply And.intro));all_goals first|(with_reducible rfl)|omega|(rw[ZF zf];omega)|(rw[ZG zf];omega)|(rw[UJ,u8xor_eq];exact hs1)|(rw[UJ,u8xor_eq];exact hs2)
  ·rw[dif_neg hc] at hgt
   rw[hgt] at hs1 hs2
   rw[JB];conv=>lhs;whnf
   refine tqA ?_
   refine(congrArg (Y E0) ?_).trans ih;(try simp only[Rq.loop.injEq,Rq.call.injEq,Rq.ops.injEq,List.cons.injEq,Prod.mk.injEq,AV.i.injEq,AV.sl.injEq,AV.st.injEq,AV.b.injEq,AV.u8.injEq,AV.nm.injEq,Option.some.injEq,Rs.row.injEq,Rs.var.injEq,heq_eq_eq,true_and,and_true]);(try(repeat' apply And.intro));all_goals first|(with_reducible rfl)|omega|(rw[ZF zf];omega)|(rw[ZG zf];omega)|(rw[UJ,u8xor_eq];exact hs1)|(rw[UJ,u8xor_eq];exact hs2)
theorem ev_rmac(b:List UInt8)(hk:key.length<=4294967296)(hb:b.length<=4294900000):Y E0 (.call 44 [.sl .u8 key,.sl .u8 b] [])=some (.ret (.sl .u8 (dR key b)) []):=by
 have hr:Au 64 (0:UInt8)=List.replicate 64 0:=by rw[QQ];rfl
 by_cases hc:64<key.length
 ·have hkb:iC key=sha256 key:=if_pos hc
  have h0:=ev_rmac_loop (sha256 key) b (by rw[Gu];omega) 64 0 zf
  rw[List.take_zero,show((0:Nat):Int)=0 from rfl,show Ru (UInt8.ofNat 54) []++List.replicate (64-0) (0:UInt8)=List.replicate 64 0 from rfl,show Ru (UInt8.ofNat 92) []++List.replicate (64-0) (0:UInt8)=List.replicate 64 0 from rfl] at h0
  unfold dR
  rw[hkb]
  refine tqA ?_
  rw[ev_sum256 _ sdcA]
  refine tqA ?_
  rw[hr,h0]
  conv=>lhs;whnf
  rw[Ls (by(simp only[Gu,Xw,Rx,OW,VV,OX,LL] at *<;>omega))]
  conv=>lhs;whnf
  try dsimp -iota -beta -eta -zeta only
  rw[OQ]
  rw[ev_sum256 _ (by(simp only[Gu,Xw,Rx,OW,VV,OX,LL] at *<;>omega))]
  conv=>lhs;whnf
  rw[Ls (by(simp only[Gu,Xw,Rx,OW,VV,OX,LL] at *<;>omega))]
  conv=>lhs;whnf
  try dsimp -iota -beta -eta -zeta only
  rw[OQ]
  rw[ev_sum256 _ (by(simp only[Gu,Xw,Rx,OW,VV,OX,LL] at *<;>omega))]
  refine tqA ?_
  simp only[NO];try with_reducible rfl
 ·have hkb:iC key=key:=if_neg hc
  have h0:=ev_rmac_loop key b zf 64 0 zf
  rw[List.take_zero,show((0:Nat):Int)=0 from rfl,show Ru (UInt8.ofNat 54) []++List.replicate (64-0) (0:UInt8)=List.replicate 64 0 from rfl,show Ru (UInt8.ofNat 92) []++List.replicate (64-0) (0:UInt8)=List.replicate 64 0 from rfl] at h0
  unfold dR
  rw[hkb]
  refine tqA ?_
  rw[hr,h0]
  conv=>lhs;whnf
  rw[Ls (by(simp only[Gu,Xw,Rx,OW,VV,OX,LL] at *<;>omega))]
  conv=>lhs;whnf
  try dsimp -iota -beta -eta -zeta only
  rw[OQ]
  rw[ev_sum256 _ (by(simp only[Gu,Xw,Rx,OW,VV,OX,LL] at *<;>omega))]
  conv=>lhs;whnf
  rw[Ls (by(simp only[Gu,Xw,Rx,OW,VV,OX,LL] at *<;>omega))]
  conv=>lhs;whnf
  try dsimp -iota -beta -eta -zeta only
  rw[OQ]
  rw[ev_sum256 _ (by(simp only[Gu,Xw,Rx,OW,VV,OX,LL] at *<;>omega))]
  refine tqA ?_
  simp only[NO];try with_reducible rfl
theorem ev_derive_loop(key label ctx:List UInt8)(n:Int)(hk:key.length<=4294967296)(hl:label.length<=1000)(hc:ctx.length<=1000000)(hn:1<=n/\n<=1024):∀(k j:Nat),j+k=((n+31)/32).toNat ->
  Y E0 (.loop 116 0 0 1 [(0,.sl .u8 key),(3,.i n),(9,.sl .u8 (label++(0::(ctx++Xv (8*n))))),(10,.nm 0),(11,.i (j+1))] [(0,some (.row 5 .u8 (Td key label ctx n j)))])=some (.fin (.exit 0) 0 [(3,.i n),(10,.sl .u8 (Td key label ctx n ((n+31)/32).toNat))] [])
 | 0,j,hj=>by
  rw[show((n+31)/32).toNat=j from by omega]
  rw[JB];conv=>lhs;whnf
  rw[fJ (by(simp only[Gu,Xw,Rx,OW,VV,OX,LL] at *<;>omega))]
  conv=>lhs;whnf
 | k+1,j,hj=>by
  have ih:=ev_derive_loop key label ctx n hk hl hc hn k (j+1) zf
  rw[derBlk_succ,show((j+1:Nat):Int)+1=(j:Int)+1+1 from by omega] at ih
  rw[JB];conv=>lhs;whnf
  rw[fH (by(simp only[Gu,Xw,Rx,OW,VV,OX,LL] at *<;>omega))]
  conv=>lhs;whnf
  try dsimp -iota -beta -eta -zeta only
  rw[OQ]
  rw[ev_four _]
  conv=>lhs;whnf
  rw[Ls (by(simp only[Gu,Xw,Rx,OW,VV,OX,LL] at *<;>omega))]
  conv=>lhs;whnf
  try dsimp -iota -beta -eta -zeta only
  rw[OQ]
  rw[ev_mac _ _ zf (by(simp only[Gu,Xw,Rx,OW,VV,OX,LL] at *<;>omega))]
  conv=>lhs;whnf
  rw[Ls (by(simp only[Gu,Xw,Rx,OW,VV,OX,LL] at *<;>omega))]
  conv=>lhs;whnf
  try dsimp -iota -beta -eta -zeta only
  rw[ZF zf]
  refine(congrArg (Y E0) ?_).trans ih;(try simp only[Rq.loop.injEq,Rq.call.injEq,Rq.ops.injEq,List.cons.injEq,Prod.mk.injEq,AV.i.injEq,AV.sl.injEq,AV.st.injEq,AV.b.injEq,AV.u8.injEq,AV.nm.injEq,Option.some.injEq,Rs.row.injEq,Rs.var.injEq,heq_eq_eq,true_and,and_true]);(try(repeat' apply And.intro));all_goals first|(with_reducible rfl)|omega|(rw[ZF zf];omega)|(rw[ZG zf];omega)|(simp only[UH])
theorem ev_derive(label ctx:List UInt8)(n:Int)(hk:key.length<=4294967296)(hl:label.length<=1000)(hc:ctx.length<=1000000):Y E0 (.call 116 [.sl .u8 key,.str label,.sl .u8 ctx,.i n] [])=some (.ret (.sl .u8 (D7 key label ctx n)) []):=by
 have he:Aw (Aw (Aw label [UInt8.ofNat 0]) ctx) (Xv (8*n))=label++(0::(ctx++Xv (8*n))):=by simp only[UH,List.append_assoc,List.cons_append,List.nil_append];rfl
 refine tqA ?_
 rcases ilt_c n 1 with hc0|hc0
 ·
  refine tqA ?_
  unfold D7;(repeat(first|rw[if_pos (by first|omega|decide|assumption|(simp only[Gu,Xw,Rx,OW,VV,OX,LL] at *<;>omega)|(simp;omega))]|rw[if_neg (by first|omega|decide|assumption|(simp only[Gu,Xw,Rx,OW,VV,OX,LL] at *<;>omega)|(simp;omega))]));try rfl
 refine tqA ?_
 rcases ilt_c 1024 n with hc1|hc1
 ·
  refine tqA ?_
  unfold D7;(repeat(first|rw[if_pos (by first|omega|decide|assumption|(simp only[Gu,Xw,Rx,OW,VV,OX,LL] at *<;>omega)|(simp;omega))]|rw[if_neg (by first|omega|decide|assumption|(simp only[Gu,Xw,Rx,OW,VV,OX,LL] at *<;>omega)|(simp;omega))]));try rfl
 refine tqA ?_
 rw[ev_four _]
 conv=>lhs;whnf
 rw[Ls (by(simp only[Gu,Xw,Rx,OW,VV,OX,LL] at *<;>omega))]
 conv=>lhs;whnf
 try dsimp -iota -beta -eta -zeta only
 rw[TR]
 have h0:=ev_derive_loop key label ctx n hk hl hc zf _ 0 (Nat.zero_add _);rw[show((0:Nat):Int)+1=1 from rfl,show Td key label ctx n 0=[] from rfl] at h0;rw[he,h0]
 conv=>lhs;whnf
 rw[fD zf]
 conv=>lhs;whnf
 rw[cZ (by(simp only[Gu,Xw,Rx,OW,VV,OX,LL] at *<;>omega))]
 conv=>lhs;whnf
 unfold D7;(repeat(first|rw[if_pos (by first|omega|decide|assumption|(simp only[Gu,Xw,Rx,OW,VV,OX,LL] at *<;>omega)|(simp;omega))]|rw[if_neg (by first|omega|decide|assumption|(simp only[Gu,Xw,Rx,OW,VV,OX,LL] at *<;>omega)|(simp;omega))]));try rfl
end
end Go.Proofs.YtanagnimhaemgaaGreatDoor
