/-
  Own texts, laid together for this claim: contracts of functions of the program and its references, used by the statements of this seat.
-/
import Derived.Test.YtanagnimhaemgaaGreatDoorQtac
import Derived.Test.YtanagnimhaemgaaGreatDoorQtae
set_option linter.all false
set_option maxHeartbeats 40000000
set_option maxRecDepth 100000
namespace Go.Ax
def Di(b:List UInt8):List UInt8:=b.take 32++(List.replicate 32 0).drop b.length
theorem Bd(b:List UInt8):(Di b).length=32:=by simp[Di];omega
end Go.Ax
namespace Go.Ax
open Go Go.Eng Go.RowKit
variable (tag:Int)(a b:List UInt8)
theorem Af(op:BinOp)(a b:Int):Ar op a b=bits op .i64 a b:=by rw[NF];rfl
theorem Be:(Ag tag [a]).length=5+a.length:=by
 simp[Ag,fieldsB,Gw];omega
theorem BV:(Ag tag [a,b]).length=9+a.length+b.length:=by
 simp[Ag,fieldsB,Gw];omega
theorem BZ(c:List UInt8):(Ag tag [a,b,c]).length=13+a.length+b.length+c.length:=by
 simp[Ag,fieldsB,Gw];omega
theorem WZ(x:Int):Oi 1 (UInt64.ofInt x)=[UInt8.ofInt x]:=by
 have h:(UInt64.ofInt x).toUInt8=UInt8.ofInt x:=by
  apply UInt8.toNat_inj.1
  rw[UInt64.toNat_toUInt8,UInt64.ofInt,UInt8.ofInt,UInt64.toNat_ofNat',UInt8.toNat_ofNat']
  omega
 have h2:(UInt64.ofInt x)>>>UInt64.ofNat (8*0)=UInt64.ofInt x:=by
  apply UInt64.toNat_inj.1
  rw[UInt64.toNat_shiftRight];simp
 rw[Oi,h2,h];rfl
structure Pub where
 kind:Int
 attr:Int
 height:Int
 policy:List UInt8
 unique:List UInt8
deriving DecidableEq
def YE:Pub:=⟨0,0,0,[],[]⟩
def uniq(k:Int):Int:=if k=2 then 17 else 32
theorem wS(k:Int):17<=uniq k/\uniq k<=32:=by unfold uniq;split<;>omega
def Cb(p:Pub):Int :=
 if p.kind<1\/3<p.kind then 19
 else if p.attr<0\/7<p.attr\/(bits .and .i64 p.attr 4≠0/\p.kind≠2)\/(bits .and .i64 p.attr 1=0/\p.policy.length=0) then 20
 else if p.height<0\/3<p.height\/(p.height≠0/\p.kind≠2)\/(p.policy.length≠0/\p.policy.length≠32)\/(p.unique.length:Int)≠uniq p.kind then 1 else 0
def EL(p:Pub):List UInt8:=Ht (Ht [UInt8.ofInt p.kind,UInt8.ofInt p.attr,UInt8.ofInt p.height] p.policy) p.unique
def Fb(b:List UInt8):Pub×Int :=
 let k:=Ey b 0 0 1
 let a:=Ey b k.2.1 k.2.2 1
 let h:=Ey b a.2.1 a.2.2 1
 let o:=JK b h.2.1 h.2.2 32
 let u:=JK b o.2.1 o.2.2 32
 let e:=VT b u.2.1 u.2.2
 if e≠0 then(YE,e) else if Cb ⟨k.1,a.1,h.1,o.1,u.1⟩≠0 then(YE,Cb ⟨k.1,a.1,h.1,o.1,u.1⟩) else(⟨k.1,a.1,h.1,o.1,u.1⟩,0)
structure OkP (p:Pub):Prop where
 kind:1<=p.kind/\p.kind<=3
 attr:0<=p.attr/\p.attr<=7
 height:0<=p.height/\p.height<=3
 policy:p.policy.length<=32
 unique:p.unique.length<=32
theorem A8e{p:Pub}(h:Cb p=0):OkP p:=by
 unfold Cb at h
 split at h
 ·simp at h
 rename_i h1
 split at h
 ·simp at h
 rename_i h2
 split at h
 ·simp at h
 rename_i h3
 have hu:uniq p.kind=17\/uniq p.kind=32:=by unfold uniq;split;exact .inl rfl;exact .inr rfl
 refine⟨by omega,by omega,by omega,by omega,by omega⟩
def wU(p:Pub):List UInt8 :=
 Oi 1 (UInt64.ofInt p.kind)++(Oi 1 (UInt64.ofInt p.attr)++(Oi 1 (UInt64.ofInt p.height)++(WE p.policy.length++p.policy++(WE p.unique.length++p.unique++[]))))
theorem Zr{p:Pub}(hp:p.policy.length<=65535)(hu:p.unique.length<=65535):EL p=wU p:=by
 unfold EL wU
 rw[PD hp,PD hu,WZ,WZ,WZ]
 simp only[List.append_assoc,List.append_nil,List.cons_append,List.nil_append]
theorem PM{p:Pub}(hp:p.policy.length<=65535)(hu:p.unique.length<=65535):(EL p).length=7+p.policy.length+p.unique.length:=by
 rw[Zr hp hu]
 simp only[wU,List.length_append,JB,TM,List.length_nil];omega
theorem A35{p:Pub}(h:Cb p=0):Fb (EL p)=(p,0):=by
 have hok:=A8e h
 obtain⟨hk,ha,hh,hp,hu⟩:=hok
 rw[Zr zaa zaa]
 generalize hb:wU p=b
 have e1:(256:Nat)^1=256:=zad
 obtain⟨q0,l0,d0⟩:=FZ (b:=b) (p:=0) (n:=1) (x:=p.kind) (Nat.zero_le _) zaa (by rw[<-hb];exact rfl) zaa zaa zaa
 obtain⟨q1,l1,d1⟩:=FZ l0 zaa d0 ha.1 zaa zaa
 obtain⟨q2,l2,d2⟩:=FZ l1 zaa d1 hh.1 zaa zaa
 obtain⟨q3,l3,d3⟩:=QF (most:=32) l2 d2 zaa zaa
 obtain⟨q4,l4,d4⟩:=QF (most:=32) l3 d3 zaa zaa
 have qe:=OI l4 d4
 replace q0:Ey b 0 0 1=_:=q0
 replace q1:Ey b _ 0 1=_:=q1
 replace q2:Ey b _ 0 1=_:=q2
 unfold Fb
 simp only[q0,q1,q2,q3,q4,qe,ne_eq,not_true_eq_false,if_false]
 cases p
 rw[if_neg zaN]
theorem eG{b v3 v4:List UInt8}{v0 v1 v2 er0 er1 er2 er3 er4:Int}{p0 p1 p2 p3 p4:Nat}
  (g0:Ey b 0 0 1=(v0,p0,er0)) (g1:Ey b p0 er0 1=(v1,p1,er1)) (g2:Ey b p1 er1 1=(v2,p2,er2)) (g3:JK b p2 er2 32=(v3,p3,er3)) (g4:JK b p3 er3 32=(v4,p4,er4)) :
  Fb b=if VT b p4 er4≠0 then(YE,VT b p4 er4) else if Cb ⟨v0,v1,v2,v3,v4⟩≠0 then(YE,Cb ⟨v0,v1,v2,v3,v4⟩) else(⟨v0,v1,v2,v3,v4⟩,0):=by
 simp only[Fb,g0,g1,g2,g3,g4]
structure Evi where
 machine:Int
 attest:List UInt8
 sig:List UInt8
 log:List UInt8
deriving DecidableEq
def AA0(x:Evi):Prop:=1<=x.machine/\x.machine<=4/\x.attest.length<=1024/\x.sig.length<=1024/\x.log.length<=8192
instance (x:Evi):Decidable (AA0 x):=by unfold AA0;infer_instance
def A36(n:Nat)(b:List UInt8):List UInt8:=b.take n++(List.replicate n 0).drop b.length
theorem DW(n:Nat)(b:List UInt8):(A36 n b).length=n:=by simp[A36];omega
def AA1(k a:Int)(pol:Bool):Int :=
 let x:=if k=2 then a else bits .andNot .i64 a 4
 if pol then x else bits .or .i64 x 1
def A37(p:Pub):Pub :=
  ⟨1+p.kind%3,AA1 (1+p.kind%3) (p.attr%8) (decide (0<p.policy.length)),if 1+p.kind%3=2 then p.height%2 else 0,
   if 0<p.policy.length then Di p.policy else [],A36 (uniq (1+p.kind%3)).toNat p.unique⟩
def A38(p:Pub):Bool:=decide ((p.policy.length:Int)<=60)&&decide ((p.unique.length:Int)<=60)
def A7U(p q:Pub):Bool:=decide (p.kind=q.kind)&&(decide (p.attr=q.attr)&&(decide (p.height=q.height)&&(decide (p.policy=q.policy)&&decide (p.unique=q.unique))))
structure Idx where
 n:Int
 kind:Int
 attr:Int
 size:Int
 policy:List UInt8
 auth:List UInt8
 written:Bool
 data:List UInt8
def AA2(x:Idx):List UInt8:=BQ [UInt8.ofInt x.n,UInt8.ofInt x.kind,UInt8.ofInt x.attr] 2 x.size++[if x.written then 1 else 0]
def nameB(p:Pub):List UInt8:=sha256 (Ag 6 [EL p])
def Zt(h:Int):List UInt8:=if h<0\/3<h then [] else sha256 (Ag 11 [[UInt8.ofInt h]])
theorem Dt(x:Idx):(AA2 x).length=6:=by rw[AA2,List.length_append,AB];rfl
end Go.Ax
namespace Go.Ax
def A9A(a:Att):Att:={key:=Di a.key,nonce:=a.nonce.take 128,digest:=Di a.digest,resets:=a.resets%4611686018427387904,restarts:=a.restarts%4611686018427387904,clock:=a.clock%4611686018427387904,safe:=a.safe,updates:=a.updates%4611686018427387904,s0:=a.s0%65536,s1:=a.s1%65536}
def ACQ(a:Att):Bool:=decide ((a.key.length:Int)<=60)&&(decide ((a.nonce.length:Int)<=200)&&decide ((a.digest.length:Int)<=60))
end Go.Ax
namespace Go.Proofs.YtanagnimhaemgaaGreatDoor
open Go Go.Ax Go.Eng
variable (tag:Int)(ls:List (List UInt8))
section
attribute [local irreducible] Bl CQ CS Bo Bg Ar CU Dw EN Dy EC Bf BU Bv Bz and' C9 CB BK Au BA BL BN Aa Ad AP AZ CV Dq CW DI CE BP BM BF BG BB AU BC Ae Ap Ai CX BH Bh Ba BO CG CY CJ fits CZ CO A8 AA Ac
theorem Mc(tag:Int)(ls:List (List UInt8))(hl:(Ag tag ls).length<=4294967296)(hn:ls.length<=4294967296):∀(k i:Nat),i+k=ls.length ->
  Y E0 (.loop 178 0 0 1 [(5,.nm 0),(12,.sl (.sl .u8) ls),(13,.i ls.length),(14,.i i)] [(0,some (.row 5 .u8 (Ag tag (ls.take i))))])=some (.fin (.exit 0) 0 [(5,.sl .u8 (Ag tag ls))] [])
 | 0,i,hi=>by
  have e:ls.take i=ls:=List.take_of_length_le zaa
  rw[e]
  rw[AO];conv=>lhs;whnf
  exact BX rfl
 | k+1,i,hi=>by
  have ih:=Mc tag ls hl hn k (i+1) zaa
  have hg:ls[i]?=some (ls[i]'zaa):=List.getElem?_eq_getElem zaa
  have h1:=VU tag ls i _ hg
  have h2:=ZU tag ls (i+1)
  have h3:=congrArg List.length h1
  simp only[List.length_append,Gw] at h3
  rw[AO];conv=>lhs;whnf
  refine BX ?_
  refine(congrArg (Y E0) ?_).trans ih;(try simp only[Rq.loop.injEq,Rq.call.injEq,Rq.ops.injEq,List.cons.injEq,Prod.mk.injEq,AV.i.injEq,AV.sl.injEq,AV.st.injEq,AV.b.injEq,AV.u8.injEq,AV.nm.injEq,Option.some.injEq,Rs.row.injEq,Rs.var.injEq,heq_eq_eq,true_and,and_true]);(try(repeat' apply And.intro));all_goals first|(with_reducible rfl)|omega|(rw[Bc zaa];omega)|(rw[DU zaa];omega)|(rw[h1,Am,Am,ABD])
theorem LC(hl:(Ag tag ls).length<=4294967296)(hn:ls.length<=4294967296):Y E0 (.call 178 [.i tag,.sl (.sl .u8) ls] [])=some (.ret (.sl .u8 (Ag tag ls)) []):=by
 refine BX ?_
 rw[show DI tag=UInt8.ofInt tag from Dh _,show [UInt8.ofInt tag]=Ag tag (ls.take 0) from rfl,AC];rw[show(0:Int)=((0:Nat):Int) from rfl,Mc tag ls hl hn ls.length 0 zaa]
 exact BX rfl
theorem Md(tag:Int)(ls:List (List UInt8))(hl:(Ag tag ls).length<=4294967295)(hn:ls.length<=4294967296):∀(k i:Nat),i+k=ls.length ->
  Y E0 (.loop 42 0 0 1 [(1,.sl (.sl .u8) ls),(5,.nm 0),(6,.i i)] [(0,some (.row 5 .u8 (Ag tag (ls.take i))))])=some (.fin (.exit 0) 0 [(5,.sl .u8 (Ag tag ls))] [])
 | 0,i,hi=>by
  have e:ls.take i=ls:=List.take_of_length_le zaa
  rw[e]
  rw[AO];conv=>lhs;whnf
  exact BX rfl
 | k+1,i,hi=>by
  have ih:=Md tag ls hl hn k (i+1) zaa
  have hg:ls[i]?=some (ls[i]'zaa):=List.getElem?_eq_getElem zaa
  have h1:=VU tag ls i _ hg
  have h2:=ZU tag ls (i+1)
  have h3:=congrArg List.length h1
  simp only[List.length_append,Gw] at h3
  rw[AO];conv=>lhs;whnf
  refine BX ?_
  refine(congrArg (Y E0) ?_).trans ih;(try simp only[Rq.loop.injEq,Rq.call.injEq,Rq.ops.injEq,List.cons.injEq,Prod.mk.injEq,AV.i.injEq,AV.sl.injEq,AV.st.injEq,AV.b.injEq,AV.u8.injEq,AV.nm.injEq,Option.some.injEq,Rs.row.injEq,Rs.var.injEq,heq_eq_eq,true_and,and_true]);(try(repeat' apply And.intro));all_goals first|(with_reducible rfl)|omega|(rw[Bc zaa];omega)|(rw[DU zaa];omega)|(rw[h1,Am,Am,AC,rf4 _ zaa])
theorem TZ(hl:(Ag tag ls).length<=4294967295)(hn:ls.length<=4294967296):Y E0 (.call 42 [.i tag,.sl (.sl .u8) ls] [])=some (.ret (.sl .u8 (Ag tag ls)) []):=by
 refine BX ?_
 rw[show DI tag=UInt8.ofInt tag from Dh _,show [UInt8.ofInt tag]=Ag tag (ls.take 0) from rfl];rw[show(0:Int)=((0:Nat):Int) from rfl,Md tag ls hl hn ls.length 0 zaa]
 exact BX rfl
theorem Eu(hl:(Ag tag ls).length<=4294967295)(hn:ls.length<=4294967296):Y E0 (.call 152 [.i tag,.sl (.sl .u8) ls] [])=some (.ret (.sl .u8 (sha256 (Ag tag ls))) []):=by
 refine BX ?_
 rw[LC _ _ Cc Cc]
 refine BX ?_
 rw[Gm _ Cc]
 exact BX rfl
theorem HY(hl:(Ag tag ls).length<=4294967295)(hn:ls.length<=4294967296):Y E0 (.call 43 [.i tag,.sl (.sl .u8) ls] [])=some (.ret (.sl .u8 (sha256 (Ag tag ls))) []):=by
 refine BX ?_
 rw[TZ _ _ Cc Cc]
 refine BX ?_
 rw[QL _ Cc]
 exact BX rfl
theorem WT(l:List UInt8)(hl:l.length<=4294967296):Y E0 (.call 87 [.sl .u8 l] [])=some (.ret (.nm 0) [some (.row 5 .u8 l)]):=by
 refine BX ?_
 simp only[NO];try with_reducible rfl
end
end Go.Proofs.YtanagnimhaemgaaGreatDoor
