/-
  Own texts, laid together for this claim: contracts of functions of the program and its references, used by the statements of this seat.
-/
import Derived.Test.YtnhgnfdbdflhcaaGreatDoorMtab
import Derived.Test.YtnhgnfdbdflhcaaGreatDoorMtac
import Derived.Test.YtnhgnfdbdflhcaaGreatDoorMtad
set_option linter.all false
set_option maxHeartbeats 40000000
set_option maxRecDepth 100000
namespace Go.Ax
def CJ(b:List UInt8):List UInt8:=b.take 32++(List.replicate 32 0).drop b.length
theorem AP(b:List UInt8):(CJ b).length=32:=by simp[CJ];omega
end Go.Ax
namespace Go.Ax
open Go Go.Eng Go.RowKit
variable {m:Int}(tag:Int)(a b:List UInt8)
theorem Ak(op:BinOp)(a b:Int):BA op a b=bits op .i64 a b:=by rw[Q5];rfl
theorem Aj:(Ar tag [a]).length=5+a.length:=by
 simp[Ar,fieldsB,IM];omega
theorem Ae:(Ar tag [a,b]).length=9+a.length+b.length:=by
 simp[Ar,fieldsB,IM];omega
theorem Af(c:List UInt8):(Ar tag [a,b,c]).length=13+a.length+b.length+c.length:=by
 simp[Ar,fieldsB,IM];omega
theorem YL(n:Int)(h:1<=m): -m<DD n m/\DD n m<m:=by
 rw[fM]
 exact⟨Int.lt_tmod_of_pos n zaa,Int.tmod_lt_of_pos n zaa⟩
theorem mQ(n:Int)(h:1<=m):n%m=DD n m%m:=by
 rw[fM]
 show n%m=n.tmod m%m
 rw[Int.tmod_def,Int.sub_mul_emod_self_left]
theorem mV{n:Int}(h:1<=m)(h0:0<=DD n m):DD n m=n%m:=by
 rw[mQ n h,Int.emod_eq_of_lt h0 (YL n h).2]
theorem mW{n:Int}(h:1<=m)(h0:DD n m<0):DD n m+m=n%m:=by
 have hb:=YL n h
 rw[mQ n h,<-Int.add_emod_right,Int.emod_eq_of_lt zaa zaa]
theorem iY(x:Int):Rf 1 (UInt64.ofInt x)=[UInt8.ofInt x]:=by
 have h:(UInt64.ofInt x).toUInt8=UInt8.ofInt x:=by
  apply UInt8.toNat_inj.1
  rw[UInt64.toNat_toUInt8,UInt64.ofInt,UInt8.ofInt,UInt64.toNat_ofNat',UInt8.toNat_ofNat']
  omega
 have h2:(UInt64.ofInt x)>>>UInt64.ofNat (8*0)=UInt64.ofInt x:=by
  apply UInt64.toNat_inj.1
  rw[UInt64.toNat_shiftRight];simp
 rw[Rf,h2,h];rfl
structure Pub where
 kind:Int
 attr:Int
 height:Int
 policy:List UInt8
 unique:List UInt8
deriving DecidableEq
def Wu:Pub:=⟨0,0,0,[],[]⟩
def uniq(k:Int):Int:=if k=2 then 17 else 32
theorem YM(k:Int):17<=uniq k/\uniq k<=32:=by unfold uniq;split<;>omega
def CV(p:Pub):Int :=
 if p.kind<1\/3<p.kind then 19
 else if p.attr<0\/7<p.attr\/(bits .and .i64 p.attr 4≠0/\p.kind≠2)\/(bits .and .i64 p.attr 1=0/\p.policy.length=0) then 20
 else if p.height<0\/3<p.height\/(p.height≠0/\p.kind≠2)\/(p.policy.length≠0/\p.policy.length≠32)\/(p.unique.length:Int)≠uniq p.kind then 1 else 0
def EL(p:Pub):List UInt8:=KP (KP [UInt8.ofInt p.kind,UInt8.ofInt p.attr,UInt8.ofInt p.height] p.policy) p.unique
def F8(b:List UInt8):Pub×Int :=
 let k:=Hr b 0 0 1
 let a:=Hr b k.2.1 k.2.2 1
 let h:=Hr b a.2.1 a.2.2 1
 let o:=Ie b h.2.1 h.2.2 32
 let u:=Ie b o.2.1 o.2.2 32
 let e:=U2 b u.2.1 u.2.2
 if e≠0 then(Wu,e) else if CV ⟨k.1,a.1,h.1,o.1,u.1⟩≠0 then(Wu,CV ⟨k.1,a.1,h.1,o.1,u.1⟩) else(⟨k.1,a.1,h.1,o.1,u.1⟩,0)
structure OkP (p:Pub):Prop where
 kind:1<=p.kind/\p.kind<=3
 attr:0<=p.attr/\p.attr<=7
 height:0<=p.height/\p.height<=3
 policy:p.policy.length<=32
 unique:p.unique.length<=32
theorem Zi{p:Pub}(h:CV p=0):OkP p:=by
 unfold CV at h
 split at h
 ·simp at h
 rename_i h1
 split at h
 ·simp at h
 rename_i h2
 split at h
 ·simp at h
 rename_i h3
 have hu:uniq p.kind=17\/uniq p.kind=32:=by unfold uniq;split;exact .inl rfl;exact .inr rfl
 refine⟨by omega,by omega,by omega,by omega,by omega⟩
def mX(p:Pub):List UInt8 :=
 Rf 1 (UInt64.ofInt p.kind)++(Rf 1 (UInt64.ofInt p.attr)++(Rf 1 (UInt64.ofInt p.height)++(WY p.policy.length++p.policy++(WY p.unique.length++p.unique++[]))))
theorem Wv{p:Pub}(hp:p.policy.length<=65535)(hu:p.unique.length<=65535):EL p=mX p:=by
 unfold EL mX
 rw[OL hp,OL hu,iY,iY,iY]
 simp only[List.append_assoc,List.append_nil,List.cons_append,List.nil_append]
theorem Hf{p:Pub}(hp:p.policy.length<=65535)(hu:p.unique.length<=65535):(EL p).length=7+p.policy.length+p.unique.length:=by
 rw[Wv hp hu]
 simp only[mX,List.length_append,L9,Uu,List.length_nil];omega
theorem A3O{p:Pub}(h:CV p=0):F8 (EL p)=(p,0):=by
 have hok:=Zi h
 obtain⟨hk,ha,hh,hp,hu⟩:=hok
 rw[Wv zaa zaa]
 generalize hb:mX p=b
 have e1:(256:Nat)^1=256:=zal
 obtain⟨q0,l0,d0⟩:=LC (b:=b) (p:=0) (n:=1) (x:=p.kind) (Nat.zero_le _) zaa (by rw[<-hb];exact rfl) zaa zaa zaa
 obtain⟨q1,l1,d1⟩:=LC l0 zaa d0 ha.1 zaa zaa
 obtain⟨q2,l2,d2⟩:=LC l1 zaa d1 hh.1 zaa zaa
 obtain⟨q3,l3,d3⟩:=YD (most:=32) l2 d2 zaa zaa
 obtain⟨q4,l4,d4⟩:=YD (most:=32) l3 d3 zaa zaa
 have qe:=A2X l4 d4
 replace q0:Hr b 0 0 1=_:=q0
 replace q1:Hr b _ 0 1=_:=q1
 replace q2:Hr b _ 0 1=_:=q2
 unfold F8
 simp only[q0,q1,q2,q3,q4,qe,ne_eq,not_true_eq_false,if_false]
 cases p
 rw[if_neg za0]
theorem A3P{b:List UInt8}{p:Pub}(h:F8 b=(p,0)):EL p=b/\CV p=0:=by
 unfold F8 at h
 dsimp only at h
 split at h
 ·rename_i he;simp only[Prod.mk.injEq] at h;exact absurd h.2 he
 rename_i heE
 split at h
 ·rename_i he;simp only[Prod.mk.injEq] at h;exact absurd h.2 he
 rename_i hc
 simp only[Prod.mk.injEq,and_true] at h
 have heE:=Classical.not_not.1 heE
 have hc:=Classical.not_not.1 hc
 generalize g0:Hr b 0 0 1=x0 at *
 generalize g1:Hr b x0.2.1 x0.2.2 1=x1 at *
 generalize g2:Hr b x1.2.1 x1.2.2 1=x2 at *
 generalize g3:Ie b x2.2.1 x2.2.2 32=x3 at *
 generalize g4:Ie b x3.2.1 x3.2.2 32=x4 at *
 obtain⟨k,p0,e0⟩:=x0;obtain⟨a,p1,e1⟩:=x1;obtain⟨t,p2,e2⟩:=x2;obtain⟨o,p3,e3⟩:=x3;obtain⟨u,p4,e4⟩:=x4
 simp only at *
 have k0:=(IC (b:=b) (at':=0) (e:=0) (size:=1) (Nat.zero_le _));rw[g0] at k0
 have k1:=(IC (b:=b) (at':=p0) (e:=e0) (size:=1) k0);rw[g1] at k1
 have k2:=(IC (b:=b) (at':=p1) (e:=e1) (size:=1) k1);rw[g2] at k2
 have k3:=(IE (b:=b) (at':=p2) (e:=e2) (most:=32) k2);rw[g3] at k3
 have k4:=(IE (b:=b) (at':=p3) (e:=e3) (most:=32) k3);rw[g4] at k4
 obtain⟨rfl,z5⟩:=A4z k4 heE
 obtain⟨rfl,_,_,i4,_,j4⟩:=yD k3 g4
 obtain⟨rfl,_,_,i3,_,j3⟩:=yD k2 g3
 obtain⟨rfl,_,_,i2,_⟩:=iL (n:=1) k1 zaa g2
 obtain⟨rfl,_,_,i1,_⟩:=iL (n:=1) k0 zaa g1
 obtain⟨_,_,_,i0,_⟩:=iL (n:=1) (Nat.zero_le _) zaa g0
 subst h
 refine⟨?_,hc⟩
 rw[Wv (by simpa using j3) (by simpa using j4)]
 simp only[mX]
 rw[z5] at i4
 rw[<-i4,<-i3,<-i2,<-i1,<-i0]
 rfl
theorem Ry{b v3 v4:List UInt8}{v0 v1 v2 er0 er1 er2 er3 er4:Int}{p0 p1 p2 p3 p4:Nat}
  (g0:Hr b 0 0 1=(v0,p0,er0)) (g1:Hr b p0 er0 1=(v1,p1,er1)) (g2:Hr b p1 er1 1=(v2,p2,er2)) (g3:Ie b p2 er2 32=(v3,p3,er3)) (g4:Ie b p3 er3 32=(v4,p4,er4)) :
  F8 b=if U2 b p4 er4≠0 then(Wu,U2 b p4 er4) else if CV ⟨v0,v1,v2,v3,v4⟩≠0 then(Wu,CV ⟨v0,v1,v2,v3,v4⟩) else(⟨v0,v1,v2,v3,v4⟩,0):=by
 simp only[F8,g0,g1,g2,g3,g4]
structure Evi where
 machine:Int
 attest:List UInt8
 sig:List UInt8
 log:List UInt8
deriving DecidableEq
def A8B(x:Evi):Prop:=1<=x.machine/\x.machine<=4/\x.attest.length<=1024/\x.sig.length<=1024/\x.log.length<=8192
instance (x:Evi):Decidable (A8B x):=by unfold A8B;infer_instance
def Zj(n:Nat)(b:List UInt8):List UInt8:=b.take n++(List.replicate n 0).drop b.length
theorem D6(n:Nat)(b:List UInt8):(Zj n b).length=n:=by simp[Zj];omega
def QT(k a:Int)(pol:Bool):Int :=
 let x:=if k=2 then a else bits .andNot .i64 a 4
 if pol then x else bits .or .i64 x 1
def Ig(p:Pub):Pub :=
  ⟨1+p.kind%3,QT (1+p.kind%3) (p.attr%8) (decide (0<p.policy.length)),if 1+p.kind%3=2 then p.height%2 else 0,
   if 0<p.policy.length then CJ p.policy else [],Zj (uniq (1+p.kind%3)).toNat p.unique⟩
theorem eight{a:Int}(h:0<=a/\a<=7):a=0\/a=1\/a=2\/a=3\/a=4\/a=5\/a=6\/a=7:=zaa
theorem A3Q{k a:Int}{pol:Bool}(h:0<=a/\a<=7):0<=QT k a pol/\QT k a pol<=7/\(k=2\/bits .and .i64 (QT k a pol) 4=0)/\(pol=true\/bits .and .i64 (QT k a pol) 1≠0):=by
 unfold QT
 rcases eight h with rfl|rfl|rfl|rfl|rfl|rfl|rfl|rfl<;>(cases pol<;>(by_cases hk:k=2<;>simp only[hk,if_true,if_false,true_or,false_or]<;>decide))
theorem Zk(p:Pub):CV (Ig p)=0:=by
 have hv:=A3Q (k:=1+p.kind%3) (a:=p.attr%8) (pol:=decide (0<p.policy.length)) zaa
 have hl:=D6 (uniq (1+p.kind%3)).toNat p.unique
 have hu:uniq (1+p.kind%3)=17\/uniq (1+p.kind%3)=32:=by unfold uniq;split;exact .inl rfl;exact .inr rfl
 have hs:=AP p.policy
 have hp:(Ig p).policy.length=if 0<p.policy.length then 32 else 0:=by
  simp only[Ig];split
  ·exact hs
  ·rfl
 generalize hA:QT (1+p.kind%3) (p.attr%8) (decide (0<p.policy.length))=A at hv
 have e2:(Ig p).attr=A:=hA
 have e3:(Ig p).height=if 1+p.kind%3=2 then p.height%2 else 0:=rfl
 unfold CV
 rw[hp,e2,e3,show(Ig p).kind=1+p.kind%3 from rfl,show(Ig p).unique.length=_ from hl]
 simp only[decide_eq_true_eq] at hv
 obtain⟨v1,v2,v3,v4⟩:=hv
 rw[if_neg zaa,if_neg,if_neg]
 ·rintro(h|h|h|h|h)
  ·split at h<;>omega
  ·split at h<;>omega
  ·obtain⟨h1,h2⟩:=h
   rw[if_neg h2] at h1;exact h1 rfl
  ·obtain⟨h1,h2⟩:=h
   split at h2<;>simp_all
  ·omega
 ·rintro(h|h|h|h)
  ·omega
  ·omega
  ·rcases v3 with v3|v3
   ·exact h.2 v3
   ·exact h.1 v3
  ·obtain⟨h1,h2⟩:=h
   rcases v4 with v4|v4
   ·rw[if_pos v4] at h2;simp at h2
   ·exact v4 h1
theorem aj(p:Pub):(Ig p).policy.length<=32:=(Zi (Zk p)).policy
def NI(p:Pub):Bool:=decide ((p.policy.length:Int)<=60)&&decide ((p.unique.length:Int)<=60)
theorem mY{p:Pub}(h:NI p=true):p.policy.length<=60/\p.unique.length<=60:=by
 simp only[NI,Bool.and_eq_true,decide_eq_true_eq] at h;omega
theorem A3R{p:Pub}(h:60<p.policy.length\/60<p.unique.length):NI p=false:=by
 cases hf:NI p with
 | false=>rfl
 | true=>have:=mY hf;omega
def Su(p q:Pub):Bool:=decide (p.kind=q.kind)&&(decide (p.attr=q.attr)&&(decide (p.height=q.height)&&(decide (p.policy=q.policy)&&decide (p.unique=q.unique))))
structure Idx where
 n:Int
 kind:Int
 attr:Int
 size:Int
 policy:List UInt8
 auth:List UInt8
 written:Bool
 data:List UInt8
def A5P(x:Idx):List UInt8:=BV [UInt8.ofInt x.n,UInt8.ofInt x.kind,UInt8.ofInt x.attr] 2 x.size++[if x.written then 1 else 0]
def nameB(p:Pub):List UInt8:=sha256 (Ar 6 [EL p])
def VE(x:Idx):List UInt8:=sha256 (Ar 7 [A5P x,x.policy])
def Zl(h:Int):List UInt8:=if h<0\/3<h then [] else sha256 (Ar 11 [[UInt8.ofInt h]])
theorem E5(x:Idx):(A5P x).length=6:=by rw[A5P,List.length_append,AB];rfl
end Go.Ax
namespace Go.Proofs.YtnhgnfdbdflhcaaGreatDoor
open Go Go.Ax Go.Eng
section
attribute [local irreducible] Cc Dn D7 DU DD BA Dp F7 FY FD Ez Ci CS DK DV and' DW DL C9 BR Bh CB CG BG BI Aw BC Dq Fh Dt ER DX Bl CE Bv Bz Bi Az Bg BK Bj BO Du Bc DF BZ BM Cj Di fits Dv Dk Ac Am BH
attribute [local irreducible] LJ FB Gv GH EK UK
theorem A88(h:List UInt32)(p:List UInt8)(i:Int)(ws:List UInt32)(hw:ws.length=80){G:S5->Option Rsp}(t:Nat)(a b c d e f q:UInt32)(ht:t<80)(hr:∀ s:S5,Y E0 (.loop 315 2 0 1 [(3,.sl .u32 h),(4,.sl .u8 p),(5,.i i),(6,.pa 0 0),(8,.u32 s.a),(9,.u32 s.b),(10,.u32 s.c),(11,.u32 s.d),(12,.u32 s.e),(13,.i (t+1:Nat))] [(0,some (.var (GH ws)))])=G s)(hf:f=f1 t b c d)(hq:q=k1 t):Y E0 (.drw ⟨161,315,0⟩ [true,true,true,false,true,false,false,true,false,false,true,true,true,false,true,false,false,true,false,false,true,true,false] 0 [] [.seq [true,true,true,false,true,false,false,true,false,false,true,true,true,false,true,false,false,true,false,false,true,true,true] 3,.blk 5,.seq [true,true,true,false,true,false,false,true,false,false,true,true,true,false,true,false,false,true,true] 3,.lup 2] 1 [(3,.sl .u32 h),(4,.sl .u8 p),(5,.i i),(6,.pa 0 0),(8,.u32 a),(9,.u32 b),(10,.u32 c),(11,.u32 d),(12,.u32 e),(13,.i t),(14,.u32 f),(15,.u32 q)] [(0,some (.var (GH ws)))])=G (UK t (ws.getD t 0) ⟨a,b,c,d,e⟩):=by
 rw[yO t _ a b c d e f q hf hq]
 rw[Ad];conv=>lhs;whnf
 refine BF ?_
 rw[A74 _]
 refine BF ?_
 rw[EJ zaa]
 refine BF ?_
 rw[A5I _]
 refine BF ?_
 ((conv in(close _ _ _ _)=>skip);rw[D8 hw])
 refine BF ?_
 rw[show((t:Int)+1)=((t+1:Nat):Int) from by omega];simp only[J9,show 0+(t:Int).toNat*1=t from by omega];exact(congrArg (Y E0) zbg).trans (hr ⟨_,_,_,_,_⟩)
theorem A6G(h:List UInt32)(p:List UInt8)(i:Int)(ws:List UInt32)(hw:ws.length=80):∀(k t:Nat) (s:S5),t+k=80->Y E0 (.loop 315 2 0 1 [(3,.sl .u32 h),(4,.sl .u8 p),(5,.i i),(6,.pa 0 0),(8,.u32 s.a),(9,.u32 s.b),(10,.u32 s.c),(11,.u32 s.d),(12,.u32 s.e),(13,.i t)] [(0,some (.var (GH ws)))])=some (.fin (.exit 4) 0 [(3,.sl .u32 h),(4,.sl .u8 p),(5,.i i),(8,.u32 (EK ws k t s).a),(9,.u32 (EK ws k t s).b),(10,.u32 (EK ws k t s).c),(11,.u32 (EK ws k t s).d),(12,.u32 (EK ws k t s).e)] [])
 | 0,t,s,hk=>by
  rw[Ad];conv=>lhs;whnf
  refine BF ?_
  unfold EK;rfl
 | k+1,t,⟨a,b,c,d,e⟩,hk=>by
  have ih:=fun f q=>A88 h p i ws hw t a b c d e f q zaa (fun s=>A6G h p i ws hw k (t+1) s zaa)
  rw[show EK ws (k+1) t ⟨a,b,c,d,e⟩=EK ws k (t+1) (UK t (ws.getD t 0) ⟨a,b,c,d,e⟩) from by rw[EK]]
  rw[Ad];conv=>lhs;whnf
  refine BF ?_
  rcases AZ (↑t) 20 with hc0|hc0
  ·
   refine BF ?_
   ((conv in(close _ _ _ _)=>skip);rw[D8 hw])
   conv=>lhs;whnf
   exact(congrArg (Y E0) zbg).trans (ih _ _ zaj zai)
  refine BF ?_
  rcases AZ (↑t) 40 with hc1|hc1
  ·
   refine BF ?_
   ((conv in(close _ _ _ _)=>skip);rw[D8 hw])
   conv=>lhs;whnf
   exact(congrArg (Y E0) zbg).trans (ih _ _ zaj zai)
  refine BF ?_
  rcases AZ (↑t) 60 with hc2|hc2
  ·
   refine BF ?_
   ((conv in(close _ _ _ _)=>skip);rw[D8 hw])
   conv=>lhs;whnf
   exact(congrArg (Y E0) zbg).trans (ih _ _ zaj zai)
  refine BF ?_
  ((conv in(close _ _ _ _)=>skip);rw[D8 hw])
  conv=>lhs;whnf
  exact(congrArg (Y E0) zbg).trans (ih _ _ zaj zai)
theorem A7B(h:List UInt32)(p:List UInt8)(i:Int)(ws:List UInt32)(hw:ws.length=80)(h0 h1 h2 h3 h4:UInt32):Y E0 (.loop 315 2 0 1 [(3,.sl .u32 h),(4,.sl .u8 p),(5,.i i),(6,.pa 0 0),(8,.u32 h0),(9,.u32 h1),(10,.u32 h2),(11,.u32 h3),(12,.u32 h4),(13,.i 0)] [(0,some (.var ((List.range 80).map fun i=>.u32 (ws.getD i 0))))])=some (.fin (.exit 4) 0 [(3,.sl .u32 h),(4,.sl .u8 p),(5,.i i),(8,.u32 (EK ws 80 0 ⟨h0,h1,h2,h3,h4⟩).a),(9,.u32 (EK ws 80 0 ⟨h0,h1,h2,h3,h4⟩).b),(10,.u32 (EK ws 80 0 ⟨h0,h1,h2,h3,h4⟩).c),(11,.u32 (EK ws 80 0 ⟨h0,h1,h2,h3,h4⟩).d),(12,.u32 (EK ws 80 0 ⟨h0,h1,h2,h3,h4⟩).e)] []):=by
 have e:=A6G h p i ws hw 80 0 ⟨h0,h1,h2,h3,h4⟩ rfl
 rw[D8 hw] at e
 exact e
theorem A6H(p:List UInt8)(hp:p.length<=8589934592):∀(n a:Nat) (h0 h1 h2 h3 h4:UInt32),a+64*n=p.length->Y E0 (.loop 315 0 0 0 [(3,.sl .u32 [h0,h1,h2,h3,h4]),(4,.sl .u8 p),(5,.i a)] [])=some (.fin (.exit 0) 0 [(3,.sl .u32 (Gv LJ n [h0,h1,h2,h3,h4] (p.drop a)))] [])
 | 0,a,h0,h1,h2,h3,h4,hn=>by
  rw[Ad];conv=>lhs;whnf
  refine BF ?_
  rw[Gv]
 | n+1,a,h0,h1,h2,h3,h4,hn=>by
  have ih:=A6H p hp n (a+64) _ _ _ _ _ zaa |>.trans (by rw[<-yP h0 h1 h2 h3 h4 ((p.drop a).take 64)])
  have e:=A7A [h0,h1,h2,h3,h4] p _ a zaa hp rfl
  have f:=A7B [h0,h1,h2,h3,h4] p a (LH (List.take ((a:Int)+64-a).toNat (List.drop (a:Int).toNat p)) 80) (UJ _ _) h0 h1 h2 h3 h4
  rw[Ad];conv=>lhs;whnf
  refine BF ?_
  (erw[e])
  refine BF ?_
  rw[A6A]
  refine BF ?_
  rw[A6B]
  refine BF ?_
  rw[A6C]
  refine BF ?_
  rw[A6D]
  refine BF ?_
  rw[A6E]
  refine BF ?_
  (erw[f])
  refine BF ?_
  rw[A6A]
  refine BF ?_
  rw[A6B]
  refine BF ?_
  rw[A6C]
  refine BF ?_
  rw[A6D]
  refine BF ?_
  rw[A6E]
  refine BF ?_
  rw[A3B,show((a:Int)+64)=((a+64:Nat):Int) from by omega];simp only[J9];exact ih.trans (by rw[Gv,List.drop_drop])
theorem A5L(l:List UInt8)(hl:l.length<=4294967296):Y E0 (.call 315 [.sl .u8 l] [])=some (.ret (.sl .u8 (sha1 l)) []):=by
 have hp:=YW l
 have e:=A6H (NT l) zaa ((NT l).length/64) 0 1732584193 4023233417 2562383102 271733878 3285377520 zaa
 have hf:=KR (m:=5) (fun h b _=>Qy h b) ((NT l).length/64) [1732584193,4023233417,2562383102,271733878,3285377520] (List.drop 0 (NT l)) rfl
 refine BF ?_
 rw[yQ _ CW]
 refine BF ?_
 (erw[e])
 refine BF ?_
 rw[lq _ CW]
 refine BF ?_
 rfl
end
end Go.Proofs.YtnhgnfdbdflhcaaGreatDoor
namespace Go.Proofs.YtnhgnfdbdflhcaaGreatDoor
open Go Go.Ax
section
attribute [local irreducible] Cc Dn D7 DU DD BA Dp F7 FY FD Ez Ci CS DK DV and' DW DL C9 BR Bh CB CG BG BI Aw BC Dq Fh Dt ER DX Bl CE Bv Bz Bi Az Bg BK Bj BO Du Bc DF BZ BM Cj Di fits Dv Dk Ac Am BH
theorem IK(b:List UInt8):Y E0 (.call 10 [.sl .u8 b] [])=some (.ret (.sl .u8 (CJ b)) []):=by
 rw[Ad];conv=>lhs;whnf
 rw[NC zaa]
 conv=>lhs;whnf
 rw[EH zaa]
 conv=>lhs;whnf
 rw[Na,FH];rfl
theorem Fz(b:List UInt8)(n:Int)(hn:0<=n):Y E0 (.call 72 [.sl .u8 b,.i n] [])=some (.ret (.sl .u8 (b.take n.toNat)) []):=by
 rw[Ad];conv=>lhs;whnf
 rcases Bool.eq_false_or_eq_true (FD n (Bj b)) with hc0|hc0
 ·rw[hc0];replace hc0:=JQ hc0;try simp only[BB] at hc0
  conv=>lhs;whnf
  rw[NF zaa]
  conv=>lhs;whnf
 ·rw[hc0];replace hc0:=JR hc0;try simp only[BB] at hc0
  conv=>lhs;whnf
  rw[List.take_of_length_le zaa]
end
end Go.Proofs.YtnhgnfdbdflhcaaGreatDoor
