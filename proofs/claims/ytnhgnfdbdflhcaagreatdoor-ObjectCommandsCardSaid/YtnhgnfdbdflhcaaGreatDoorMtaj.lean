/-
  Own texts, laid together for this claim: contracts of functions of the program and its references, used by the statements of this seat.
-/
import Derived.Test.YtnhgnfdbdflhcaaGreatDoorMtab
import Derived.Test.YtnhgnfdbdflhcaaGreatDoorMtad
import Derived.Test.YtnhgnfdbdflhcaaGreatDoorMtae
import Derived.Test.YtnhgnfdbdflhcaaGreatDoorMtaf
import Derived.Test.YtnhgnfdbdflhcaaGreatDoorMtag
import Derived.Test.YtnhgnfdbdflhcaaGreatDoorMtah
import Derived.Test.YtnhgnfdbdflhcaaGreatDoorMtai
set_option linter.all false
set_option maxHeartbeats 40000000
set_option maxRecDepth 100000
namespace Go.Ax
open Go Go.Eng Go.RowKit
variable {auth:List UInt8}{α:Type}{p:Pub}(n j:Nat)
structure Sen where
 auth:List UInt8
 seed:List UInt8
 data:List UInt8
abbrev Xu(s:Sen):List AV:=[.sl .u8 s.auth,.sl .u8 s.seed,.sl .u8 s.data]
def U6:Sen:=⟨[],[],[]⟩
def I4:List UInt8:=[115,101,101,100]
def A3S:List UInt8:=[112,114,105,118,97,116,101]
def Eh(kind h:Int)(s:Sen):List UInt8:=if kind=2 then En s.seed h else sha256 (Ar 13 [s.seed,s.data])
def Be(secret:List UInt8)(p:Pub)(auth data:List UInt8):Pub×Sen×Int :=
 if CV ⟨p.kind,p.attr,p.height,p.policy,List.replicate (uniq p.kind).toNat 0⟩≠0 then(Wu,U6,CV ⟨p.kind,p.attr,p.height,p.policy,List.replicate (uniq p.kind).toNat 0⟩)
 else if 32<auth.length\/128<data.length then(Wu,U6,4)
 else if 0<data.length/\p.kind≠3 then(Wu,U6,1)
 else(⟨p.kind,p.attr,p.height,p.policy,Eh p.kind p.height ⟨auth,Dw secret I4 [] 32,data⟩⟩,⟨auth,Dw secret I4 [] 32,data⟩,0)
def wkey(par:Sen)(nm:List UInt8):List UInt8:=Dw par.seed A3S nm 32
def PG(s:Sen):List UInt8:=KP (KP (KP [] s.auth) s.seed) s.data
def Ea(par:Sen)(p:Pub)(s:Sen):List UInt8:=NH (wkey par (nameB p)) ((nameB p).take 16) (EL p) (PG s)
def yf(p:Pub)(b:List UInt8):Sen×Int :=
 let a:=Ie b 0 0 32
 let d:=Ie b a.2.1 a.2.2 32
 let t:=Ie b d.2.1 d.2.2 128
 let e:=U2 b t.2.1 t.2.2
 if e≠0 then(U6,e) else if p.unique≠Eh p.kind p.height ⟨a.1,d.1,t.1⟩ then(U6,18) else(⟨a.1,d.1,t.1⟩,0)
def ES(par:Sen)(p:Pub)(b:List UInt8):Sen×Int :=
 if(JF (wkey par (nameB p)) (EL p) b).2≠0 then(U6,(JF (wkey par (nameB p)) (EL p) b).2) else yf p (JF (wkey par (nameB p)) (EL p) b).1
def Xa(a b:Sen):Bool:=decide (a.auth=b.auth)&&(decide (a.seed=b.seed)&&decide (a.data=b.data))
theorem sW(a:Sen):Xa a a=true:=by simp[Xa]
structure OkS (s:Sen):Prop where
 auth:s.auth.length<=32
 seed:s.seed.length=32
 data:s.data.length<=128
theorem yg(k h:Int)(s:Sen):(Eh k h s).length<=32:=by
 unfold Eh;split
 ·have:=yZ s.seed h;omega
 ·rw[A8];exact Nat.le_refl _
theorem Aa(p:Pub):(nameB p).length=32:=A8 _
theorem BP(par:Sen)(nm:List UInt8):(wkey par nm).length=32:=Ff zaa
theorem A3T{secret data:List UInt8}(hc:CV p=0)(ha:auth.length<=32)(hd:data.length<=128)(hk:0<data.length->p.kind=3):
  Be secret p auth data=(⟨p.kind,p.attr,p.height,p.policy,Eh p.kind p.height ⟨auth,Dw secret I4 [] 32,data⟩⟩,⟨auth,Dw secret I4 [] 32,data⟩,0):=by
 have h0:CV ⟨p.kind,p.attr,p.height,p.policy,List.replicate (uniq p.kind).toNat 0⟩=0:=by
  have hu:=YM p.kind
  unfold CV at hc ⊢
  split at hc
  ·simp at hc
  rename_i g1
  split at hc
  ·simp at hc
  rename_i g2
  split at hc
  ·simp at hc
  rename_i g3
  rw[if_neg g1,if_neg g2,if_neg]
  rintro(q|q|q|q|q)
  ·exact g3 (.inl q)
  ·exact g3 (.inr (.inl q))
  ·exact g3 (.inr (.inr (.inl q)))
  ·exact g3 (.inr (.inr (.inr (.inl q))))
  ·simp only[List.length_replicate] at q;omega
 rw[Be,if_neg (by rw[h0];simp),if_neg zaa,if_neg (by intro q;exact q.2 (hk q.1))]
theorem KJ{secret data:List UInt8}:(Be secret p auth data).1.unique.length<=32/\(Be secret p auth data).1.policy.length<=p.policy.length/\(Be secret p auth data).2.1.auth.length<=32/\(Be secret p auth data).2.1.seed.length<=32/\(Be secret p auth data).2.1.data.length<=128:=by
 unfold Be
 split
 ·simp[Wu,U6]
 ·split
  ·simp[Wu,U6]
  ·split
   ·simp[Wu,U6]
   ·have h1:=yg p.kind p.height ⟨auth,Dw secret I4 [] 32,data⟩
    have h2:=Ff (key:=secret) (label:=I4) (ctx:=[]) (n:=32) zaa
    refine⟨h1,Nat.le_refl _,?_,?_,?_⟩<;>simp only<;>omega
theorem OU{b v0 v1 v2:List UInt8}{er0 er1 er2:Int}{p0 p1 p2:Nat}(g0:Ie b 0 0 32=(v0,p0,er0))(g1:Ie b p0 er0 32=(v1,p1,er1))(g2:Ie b p1 er1 128=(v2,p2,er2)):
  yf p b=if U2 b p2 er2≠0 then(U6,U2 b p2 er2) else if p.unique≠Eh p.kind p.height ⟨v0,v1,v2⟩ then(U6,18) else(⟨v0,v1,v2⟩,0):=by
 simp only[yf,g0,g1,g2]
theorem lg0(x:α)(l:List α):BO (x::l) 0=some x:=by rw[Nw];simp[lget0]
theorem lg1(x y:α)(l:List α):BO (x::y::l) 1=some y:=by rw[Nw];simp[lget0]
theorem lg2(x y z:α)(l:List α):BO (x::y::z::l) 2=some z:=by rw[Nw];simp[lget0]
abbrev A7G(p:Pub)(s:Sen)(h:Int):El objT:=((p.kind,p.attr,p.height,p.policy,p.unique),(s.auth,s.seed,s.data),h)
def obj0:El objT:=((0,0,0,[],[]),([],[],[]),0)
def ses0:El sesT:=(0,[],[],0,0,0,0,false)
def EW:List (El objT)->Nat
 | []=>0
 | x::l=>if x.1.1=0 then 0 else EW l+1
theorem Wx:∀ l:List (El objT),EW l<=l.length
 | []=>Nat.le_refl _
 | x::l=>by have:=Wx l;unfold EW;split<;>simp<;>omega
def Dl(ob:List (El objT))(h:Int):Option (El objT):=if 512<=h then(match ob[(h-512).toNat]? with|some x=>if x.1.1=0 then none else some x|none=>none) else none
def NJ:List UInt8:=[112,114,105,109,97,114,121]
def mZ:List UInt8:=[114,97,110,100,111,109]
def mf:List UInt8:=[101,110,116,114,111,112,121]
noncomputable def ET(seed:List UInt8)(k a h:Int)(o data:List UInt8):List UInt8:=Dw seed NJ (Ar 0 [[ER k,ER a,ER h],o,data]) 32
structure Ans where
 err:Int
 ints:List Int
 blobs:List (List UInt8)
def GX(ob:List (El objT))(p:Pub)(s:Sen)(h:Int)(blobs:List (List UInt8)):List (El objT)×Ans :=
 if EW ob<ob.length then(ob.set (EW ob) (A7G p s h),⟨0,[512+(EW ob:Int)],blobs⟩) else(ob,⟨25,[],[]⟩)
noncomputable def E8(sd:List (List UInt8))(ob:List (El objT))(h k a t:Int)(o auth data:List UInt8):List (El objT)×Ans :=
  if 0<=h/\h<sd.length then
    (let m:=Be (ET (sd.getD h.toNat []) k a t o data) ⟨k,a,t,o,[]⟩ auth data
     if m.2.2≠0 then(ob,⟨m.2.2,[],[]⟩) else GX ob m.1 m.2.1 h [EL m.1,nameB m.1])
  else(ob,⟨7,[],[]⟩)
def OV(n:Nat)(j:Nat):List (List UInt8):=(List.range j).map fun i=>List.replicate n (if 12<=i then 255 else 0)
theorem sZ:OV n (j+1)=OV n j++[List.replicate n (if 12<=j then 255 else 0)]:=by simp[OV,List.range_succ]
theorem Ap:(OV n j).length=j:=by simp[OV]
def VF(n:Nat):List (List UInt8):=OV n 16
def Px(b:Int):Int:=if b=0 then 20 else if b=1 then 32 else 0
theorem mg(b:Int)(n j:Nat)(hn:(Px b).toNat=n):BM (OV n j) [List.replicate (Px b).toNat (if(12:Int)<=(j:Int) then(255:UInt8) else 0)]=OV n (j+1):=by
 rw[Ag,sZ,hn]
 by_cases h:12<=j
 ·rw[if_pos zaa,if_pos h]
 ·rw[if_neg zaa,if_neg h]
theorem A5Q(k:Nat)(x:UInt8):(List.replicate j x++List.replicate (k+1) 0).set j x=List.replicate (j+1) x++List.replicate k 0:=by
 rw[List.set_append_right _ _ zam]
 simp only[List.length_replicate,Nat.sub_self,List.replicate_succ,List.set_cons_zero]
 rw[<-List.replicate_succ,List.replicate_succ',List.append_assoc];rfl
def Nk(ac:Int):List (List (List UInt8)):=if ac%4=0 then [] else [if ac%2=1 then VF 20 else [],if ac/2%2=1 then VF 32 else []]
def A7H:List UInt8:=CJ [UInt8.ofNat 7]
def PH(en:List UInt8):List (List UInt8):=[Dw en I4 [0] 32,Dw en I4 [1] 32,Dw en I4 [2] 32]
def Nl(en:List UInt8)(re rs dr n:Int):List UInt8:=Dw en mZ (BV (BV (BV [] 8 re) 8 rs) 8 dr) n
def Ho(par:Sen)(en:List UInt8)(re rs dr k a t:Int)(o auth data:List UInt8):Int×Ans :=
 let m:=Be (Nl en re rs dr 32) ⟨k,a,t,o,[]⟩ auth data
 if m.2.2≠0 then(dr,⟨m.2.2,[],[]⟩) else(dr+1,⟨0,[],[EL m.1,Ea par m.1 m.2.1]⟩)
def I5(ob:List (El objT))(par:Sen)(hier:Int)(pub priv:List UInt8):List (El objT)×Ans :=
 if(F8 pub).2≠0 then(ob,⟨(F8 pub).2,[],[]⟩)
 else if(ES par (F8 pub).1 priv).2≠0 then(ob,⟨(ES par (F8 pub).1 priv).2,[],[]⟩)
 else GX ob (F8 pub).1 (ES par (F8 pub).1 priv).1 hier [nameB (F8 pub).1]
def keyAt(u:List UInt8):List (El J8)->Nat
 | []=>0
 | x::l=>if x.1=u then 0 else keyAt u l+1
def EE(ks:List (El J8))(u:List UInt8)(h:Int):List (El J8)×Int×Int :=
 if keyAt u ks<ks.length then
  (if(2:Int)^h.toNat<=(ks.getD (keyAt u ks) ([],0)).2 then(ks,0,26) else(ks.set (keyAt u ks) ((ks.getD (keyAt u ks) ([],0)).1,(ks.getD (keyAt u ks) ([],0)).2+1),(ks.getD (keyAt u ks) ([],0)).2,0))
 else if 8<=ks.length then(ks,0,25) else(ks++[(u,1)],0,0)
theorem yh{sd:List (List UInt8)}{ob:List (El objT)}{h k a t:Int}{o d:List UInt8}(hh:0<=h/\h<sd.length)(hf:EW ob<ob.length)(hc:CV ⟨k,a,t,o,List.replicate (uniq k).toNat 0⟩=0)(ha:auth.length<=32)(hd:d.length<=128)(hk:0<d.length->k=3):
  ∃ S,S=Dw (ET (sd.getD h.toNat []) k a t o d) I4 [] 32/\S.length=32/\E8 sd ob h k a t o auth d=(ob.set (EW ob) ((k,a,t,o,Eh k t ⟨auth,S,d⟩),(auth,S,d),h),⟨0,[512+(EW ob:Int)],[EL ⟨k,a,t,o,Eh k t ⟨auth,S,d⟩⟩,nameB ⟨k,a,t,o,Eh k t ⟨auth,S,d⟩⟩]⟩):=by
 refine⟨_,rfl,Ff (n:=32) zaa,?_⟩
 have hm:=A3T (secret:=ET (sd.getD h.toNat []) k a t o d) hc ha hd hk
 unfold E8
 rw[if_pos hh,show Be (ET (sd.getD h.toNat []) k a t o d) ⟨k,a,t,o,[]⟩ auth d=Be (ET (sd.getD h.toNat []) k a t o d) ⟨k,a,t,o,List.replicate (uniq k).toNat 0⟩ auth d from rfl,hm]
 simp only[ne_eq,not_true_eq_false,if_false]
 unfold GX
 rw[if_pos hf]
theorem A0M(en:List UInt8):∀ l∈PH en,l.length<=1000:=by
 intro l hl
 simp only[PH,List.mem_cons,List.not_mem_nil,or_false] at hl
 rcases hl with rfl|rfl|rfl<;>(rw[Ff zaa];decide)
abbrev iZ(a:Ans):List AV:=[.i a.err,.sl .i64 a.ints,.sl (.sl .u8) a.blobs,.sl (.sl .u8) []]
@[reducible] def sC (sd au:List (List UInt8)) (en:List UInt8) (ac re rs ck:Int) (od:Bool) (sb:List (List (List UInt8))) (su mc:Int) (ix:List (El Gp)) (l1 l2 l3 l4 l5 l6:Int) (ks:List (El J8)) (st sp:Bool) (rb:List (List (List UInt8))) (ru vc:Int) (sf:Bool) (dr:Int) (ss:List (El sesT)) (ob:List (El objT)) (rl wl:List Int):List AV:=[.sl (.sl .u8) sd,.sl (.sl .u8) au,.sl .u8 en,.i ac,.i re,.i rs,.i ck,.b od,.sl (.sl (.sl .u8)) sb,.i su,.i mc,.sl Gp ix,.i l1,.i l2,.i l3,.i l4,.i l5,.i l6,.sl J8 ks,.b st,.b sp,.sl (.sl (.sl .u8)) rb,.i ru,.i vc,.b sf,.i dr,.sl sesT ss,.sl objT ob,.sl .i64 rl,.sl .i64 wl]
@[reducible] def sX (sd au:List (List UInt8)) (en:List UInt8) (ac re rs ck:Int) (od:Bool) (sb:List (List (List UInt8))) (su mc:Int) (ix:List (El Gp)) (l1 l2 l3 l4 l5 l6:Int) (ks:List (El J8)) (st sp:Bool) (rb:List (List (List UInt8))) (ru vc:Int) (sf:Bool) (dr:Int) (ss:List (El sesT)) (ob:List (El objT)) (rl wl:List Int):AV:=.agg (sC sd au en ac re rs ck od sb su mc ix l1 l2 l3 l4 l5 l6 ks st sp rb ru vc sf dr ss ob rl wl)
theorem ik(b:List UInt8):(F8 b).1.policy.length<=32/\(F8 b).1.unique.length<=32:=by
 unfold F8
 dsimp only
 split
 ·simp[Wu]
 ·split
  ·simp[Wu]
  ·rename_i h1 h2
   have:=Zi (Classical.not_not.1 h2)
   exact⟨this.policy,this.unique⟩
theorem A7{p:Prop}(h:p:=by first|omega|decide|assumption|(simp only[AP,A8,EO,Aj,Ae,Af,Aa,BP,AU,D5,Cm,AB,AC,AO,Ap,BX,Bd,BU,Ba,BN,D9,DN,Ce,Bo,D6,E5,Iw,JY,Gu,JB,LL] at *<;>omega)|(simp;omega)):p:=h
theorem clo{p:Prop}(h:p:=by(repeat' apply And.intro)<;>first|assumption|omega|(intros;first|assumption|omega)|(intros;(repeat' apply And.intro)<;>first|assumption|omega)|(intros;simp only[AP,A8,EO,Aj,Ae,Af,Aa,BP,AU,D5,Cm,AB,AC,AO,Ap,BX,Bd,BU,Ba,BN,D9,DN,Ce,Bo,D6,E5,Iw,JY,Gu,JB,LL] at *<;>omega)|exact Kp.up zav zaa|decide|(intros;simp;done)):p:=h
theorem twe{a b:α}(e:NV a b:=by(try rewrite[ZL]);(try rewrite[ZM]);(conv=>arg 1;whnf);(repeat first|(dsimp -iota -beta -eta -zeta only)|((first|rewrite[Dy A7]|rewrite[NC A7]|rewrite[Gw A7]|rewrite[DT]|rewrite[ND]|rewrite[QO V4]|rewrite[U4 V4]|rewrite[ZN]|rewrite[ZO]|rewrite[ZP]|rewrite[Y_go2]|rewrite[Y_go3]|rewrite[Y_go4]|rewrite[decide_eq_true A7]|rewrite[decide_eq_false A7]|rewrite[EZ A7]|rewrite[GL A7]|rewrite[Gm A7]|rewrite[Si A7]|rewrite[EH A7]|rewrite[AA A7]|rewrite[G8 A7]|rewrite[Cf A7]|rewrite[ZF A7]|rewrite[ZG A7]|rewrite[QH rfl]|rewrite[drw zas]|rewrite[KD rfl]|rewrite[N9]|rewrite[NF A7]|rewrite[KG A7]|rewrite[lg0]|rewrite[lg1]|rewrite[lg2]);(conv=>arg 1;whnf))|rewrite[J6]|rewrite[J7]|rewrite[KY]|rewrite[KZ]|rewrite[Ko]|rewrite[Kq]|rewrite[Je]|rewrite[Jf]|rewrite[Jg]|rewrite[Jh]|rewrite[Ji]|rewrite[IG]|((first|rewrite[Au A7]|rewrite[CY A7]|rewrite[Gf A7]);try dsimp -iota -beta -eta -zeta only[Int.reduceAdd,Int.reduceSub,Int.reduceMul])|rewrite[FC A7]|rewrite[FO A7]|rewrite[Uo A7]|rewrite[Ur A7]|rewrite[RY A7]|rewrite[AQ]|rewrite[Ee]);exact NV.rf _):NV a b:=e
theorem tw{P:α->Prop}{a b:α}(h:P b)(e:NV a b:=by exact twe):P a:=by rw[NV.eq e];exact h
theorem Aq{β:Type}{P:α->Prop}{a b:α}{x y:β}(z:x=y)(h:P b)(e:x=y->NV a b:=by intro z;rewrite[z];clear z;exact twe):P a:=by rw[NV.eq (e z)];exact h
theorem tve{a b:α}(e:NV a b:=by(try rewrite[ZL]);(try rewrite[ZM]);(conv=>arg 1;whnf);(repeat first|(dsimp -iota -beta -eta -zeta only)|((first|rewrite[Dy A7]|rewrite[NC A7]|rewrite[Gw A7]|rewrite[DT]|rewrite[ND]|rewrite[QO V4]|rewrite[U4 V4]|rewrite[ZN]|rewrite[ZO]|rewrite[ZP]|rewrite[Y_go2]|rewrite[Y_go3]|rewrite[Y_go4]|rewrite[decide_eq_true A7]|rewrite[decide_eq_false A7]|rewrite[EZ A7]|rewrite[GL A7]|rewrite[Gm A7]|rewrite[Si A7]|rewrite[EH A7]|rewrite[AA A7]|rewrite[G8 A7]|rewrite[Cf A7]|rewrite[ZF A7]|rewrite[ZG A7]|rewrite[QH rfl]|rewrite[drw zas]|rewrite[KD rfl]|rewrite[N9]|rewrite[NF A7]|rewrite[KG A7]|rewrite[lg0]|rewrite[lg1]|rewrite[lg2]);(conv=>arg 1;whnf))|rewrite[J6]|rewrite[J7]|rewrite[KY]|rewrite[KZ]|rewrite[Ko]|rewrite[Kq]|rewrite[Je]|rewrite[Jf]|rewrite[Jg]|rewrite[Jh]|rewrite[Ji]|rewrite[IG]|rewrite[AQ]|rewrite[Ee]);exact NV.rf _):NV a b:=e
theorem tv{P:α->Prop}{a b:α}(h:P b)(e:NV a b:=by exact tve):P a:=by rw[NV.eq e];exact h
theorem tvn{β:Type}{P:α->Prop}{a b:α}{x y:β}(z:x=y)(h:P b)(e:x=y->NV a b:=by intro z;rewrite[z];clear z;exact tve):P a:=by rw[NV.eq (e z)];exact h
theorem tqe{a b:α}(e:NV a b:=by(try rewrite[ZL]);(try rewrite[ZM]);(conv=>arg 1;whnf);(repeat first|(dsimp -iota -beta -eta -zeta only)|((first|rewrite[Dy A7]|rewrite[NC A7]|rewrite[Gw A7]|rewrite[DT]|rewrite[ND]|rewrite[QO V4]|rewrite[U4 V4]|rewrite[ZN]|rewrite[ZO]|rewrite[ZP]|rewrite[Y_go2]|rewrite[Y_go3]|rewrite[Y_go4]|rewrite[decide_eq_true A7]|rewrite[decide_eq_false A7]|rewrite[EZ A7]|rewrite[GL A7]|rewrite[Gm A7]|rewrite[Si A7]|rewrite[EH A7]|rewrite[AA A7]|rewrite[G8 A7]|rewrite[Cf A7]|rewrite[ZF A7]|rewrite[ZG A7]|rewrite[QH rfl]|rewrite[drw zas]|rewrite[KD rfl]|rewrite[N9]|rewrite[NF A7]|rewrite[KG A7]|rewrite[lg0]|rewrite[lg1]|rewrite[lg2]|rewrite[Fe A7]);(conv=>arg 1;whnf))|rewrite[J6]|rewrite[J7]|rewrite[KY]|rewrite[KZ]|rewrite[Ko]|rewrite[Kq]|rewrite[Je]|rewrite[Jf]|rewrite[Jg]|rewrite[Jh]|rewrite[Ji]|rewrite[IG]|rewrite[Au A7]|rewrite[CY A7]|rewrite[Gf A7]|rewrite[FC A7]|rewrite[FO A7]|rewrite[Uo A7]|rewrite[Ur A7]|rewrite[RY A7]|rewrite[AQ]|rewrite[Ee]);exact NV.rf _):NV a b:=e
theorem tq{a b c:α}(h:b=c)(e:NV a b:=by exact tqe):a=c:=(NV.eq e).trans h
theorem toe{a b:α}(e:NV a b:=by(try rewrite[ZL]);(try rewrite[ZM]);(conv=>arg 1;whnf);(repeat first|(dsimp -iota -beta -eta -zeta only)|((first|rewrite[Dy A7]|rewrite[NC A7]|rewrite[Gw A7]|rewrite[DT]|rewrite[ND]|rewrite[QO V4]|rewrite[U4 V4]|rewrite[ZN]|rewrite[ZO]|rewrite[ZP]|rewrite[Y_go2]|rewrite[Y_go3]|rewrite[Y_go4]|rewrite[decide_eq_true A7]|rewrite[decide_eq_false A7]|rewrite[EZ A7]|rewrite[GL A7]|rewrite[Gm A7]|rewrite[Si A7]|rewrite[EH A7]|rewrite[AA A7]|rewrite[G8 A7]|rewrite[Cf A7]|rewrite[ZF A7]|rewrite[ZG A7]|rewrite[QH rfl]|rewrite[drw zas]|rewrite[KD rfl]|rewrite[N9]|rewrite[NF A7]|rewrite[KG A7]|rewrite[lg0]|rewrite[lg1]|rewrite[lg2]);(conv=>arg 1;whnf))|rewrite[J6]|rewrite[J7]|rewrite[KY]|rewrite[KZ]|rewrite[Ko]|rewrite[Kq]|rewrite[Je]|rewrite[Jf]|rewrite[Jg]|rewrite[Jh]|rewrite[Ji]|rewrite[IG]|rewrite[Au A7]|rewrite[CY A7]|rewrite[Gf A7]|rewrite[FC A7]|rewrite[FO A7]|rewrite[Uo A7]|rewrite[Ur A7]|rewrite[RY A7]|rewrite[AQ]|rewrite[Ee]);exact NV.rf _):NV a b:=e
theorem to{a b c:α}(h:b=c)(e:NV a b:=by exact toe):a=c:=(NV.eq e).trans h
theorem tpe{a b:α}(e:NV a b:=by(try rewrite[ZL]);(try rewrite[ZM]);(conv=>arg 1;whnf);(repeat first|(dsimp -iota -beta -eta -zeta only)|((first|rewrite[Dy A7]|rewrite[NC A7]|rewrite[Gw A7]|rewrite[DT]|rewrite[ND]|rewrite[QO V4]|rewrite[U4 V4]|rewrite[ZN]|rewrite[ZO]|rewrite[ZP]|rewrite[Y_go2]|rewrite[Y_go3]|rewrite[Y_go4]|rewrite[decide_eq_true A7]|rewrite[decide_eq_false A7]|rewrite[EZ A7]|rewrite[GL A7]|rewrite[Gm A7]|rewrite[Si A7]|rewrite[EH A7]|rewrite[AA A7]|rewrite[G8 A7]|rewrite[Cf A7]|rewrite[ZF A7]|rewrite[ZG A7]|rewrite[QH rfl]|rewrite[drw zas]|rewrite[KD rfl]|rewrite[N9]|rewrite[NF A7]|rewrite[KG A7]|rewrite[lg0]|rewrite[lg1]|rewrite[lg2]|rewrite[Fe A7]);(conv=>arg 1;whnf))|rewrite[J6]|rewrite[J7]|rewrite[KY]|rewrite[KZ]|rewrite[Ko]|rewrite[Kq]|rewrite[Je]|rewrite[Jf]|rewrite[Jg]|rewrite[Jh]|rewrite[Ji]|rewrite[IG]|rewrite[AQ]|rewrite[Ee]);exact NV.rf _):NV a b:=e
theorem tp{a b c:α}(h:b=c)(e:NV a b:=by exact tpe):a=c:=(NV.eq e).trans h
end Go.Ax
namespace Go.Proofs.YtnhgnfdbdflhcaaGreatDoor
open Go Go.Ax Go.Eng
variable (leaf c:Int)(x:List UInt8)
section
attribute [local irreducible] Cc Dn D7 DU DD BA Dp F7 FY FD Ez Ci CS DK DV and' DW DL C9 BR Bh CB CG BG BI Aw BC Dq Fh Dt ER DX Bl CE Bv Bz Bi Az Bg BK Bj BO Du Bc DF BZ BM Cj Di fits Dv Dk Ac Am BH
theorem Xv(h:List UInt8)(s:Int)(acc:List Int)(n j:Int)(a b:Int)(ha:acc.length<=1000)(hs:0<=s/\s<=1000)(hab:0<=a/\a<=15/\0<=b/\b<=15):Y E0 (.loop 216 1 0 1 [(3,.nm 0),(4,.i s),(12,.sl .u8 h),(13,.i n),(14,.i j),(24,.agg [.i a,.i b]),(25,.i 0)] [(0,some (.row 3 .i64 acc))])=some (.fin (.exit 2) 1 [(3,.nm 0),(4,.i (s+(15-a)+(15-b))),(12,.sl .u8 h),(13,.i n),(14,.i j)] [(0,some (.row 3 .i64 (acc++[a,b])))]):=by
 refine tq ?_;refine tq ?_;refine tq ?_
 simp only[NO];try with_reducible rfl
theorem mi{h:List UInt8}{j:Nat}(hj:j<h.length):O6 (h.take (j+1))=O6 (h.take j)++[hiN h[j],loN h[j]]/\KI (h.take (j+1))=KI (h.take j)+(15-hiN h[j])+(15-loN h[j]):=by
 rw[List.take_succ_eq_append_getElem hj,A3F,mF];exact⟨rfl,by simp only[KI];omega⟩
theorem QU(h:List UInt8)(hl:h.length<=16):∀(k j:Nat),j+k=h.length->Y E0 (.loop 216 0 0 1 [(3,.nm 0),(4,.i (KI (h.take j))),(12,.sl .u8 h),(13,.i h.length),(14,.i j)] [(0,some (.row 3 .i64 (O6 (h.take j))))])=some (.fin (.exit 0) 1 [(3,.nm 0),(4,.i (KI h))] [(0,some (.row 3 .i64 (O6 h)))])
 | 0,j,hj=>by
  rw[List.take_of_length_le zaa]
  exact tq rfl
 | k+1,j,hj=>by
  have ih:=QU h hl k (j+1) zaa
  obtain⟨e1,e2⟩:=mi (h:=h) (j:=j) zaa
  have hb1:=yT (h[j]'zaa)
  have hb2:=yU (h[j]'zaa)
  have hds:=Rn (h.take j)
  have hdl:=DN (h.take j)
  rw[List.length_take] at hds hdl
  have hin:=Xv h (KI (h.take j)) (O6 (h.take j)) h.length j (hiN (h[j]'zaa)) (loN (h[j]'zaa)) zaa zaa zaa
  rw[<-e1,<-e2] at hin;rw[show((j+1:Nat):Int)=(j:Int)+1 from by omega] at ih
  refine tq ?_;rw[A6I,A6J,hin];refine tq ?_
  refine(congrArg (Y E0) ?_).trans ih;rfl
theorem Pe(h:List UInt8)(hl:h.length=16):∀(k j:Nat),j+k=h.length->Y E0 (.loop 172 0 0 1 [(3,.sl .u8 h),(4,.nm 0),(5,.i (KI (h.take j))),(6,.i j)] [(0,some (.row 3 .i64 (O6 (h.take j))))])=some (.fin (.exit 0) 1 [(4,.nm 0),(5,.i (KI h))] [(0,some (.row 3 .i64 (O6 h)))])
 | 0,j,hj=>by
  rw[List.take_of_length_le zaa]
  exact tq rfl
 | k+1,j,hj=>by
  have ih:=Pe h hl k (j+1) zaa
  obtain⟨e1,e2⟩:=mi (h:=h) (j:=j) zaa
  have hb1:=yT (h[j]'zaa)
  have hb2:=yU (h[j]'zaa)
  have hds:=Rn (h.take j)
  have hdl:=DN (h.take j)
  rw[List.length_take] at hds hdl;rw[e1,e2,show((j+1:Nat):Int)=(j:Int)+1 from by omega] at ih
  refine tq ?_
  refine(congrArg (Y E0) ?_).trans ih;rw[A6I,A6J,CY (a:=30) zaa,CY zaa,Au zaa,Au zaa,Ag,show KI (h.take j)+(30-hiN (h[j]'zaa)-loN (h[j]'zaa))=KI (h.take j)+(15-hiN (h[j]'zaa))+(15-loN (h[j]'zaa)) from by omega]
theorem A3X{s:Int}(h:0<=s/\s<=1000):[CS s (UInt64.ofNat 8).toNat,BA .and (CS s (UInt64.ofNat 4).toNat) 15,BA .and s 15]=[s/256,s/16%16,s%16]:=by
 rw[Ik zal,Ik zal,show(15:Int)=((2^4-1:Nat):Int) from rfl,Jp 4 zaa,Jp 4 zaa];rfl
theorem A0N(m:List UInt8)(hm:m.length<=1000000):Y E0 (.call 216 [.sl .u8 m] [])=some (.ret (.sl .i64 (Hm m)) []):=by
 have h0:=QU (Wj m) (by rw[D9];omega) _ 0 (Nat.zero_add _)
 have hds:=Rn (Wj m)
 have hml:=D9 m
 rw[show((0:Nat):Int)=0 from rfl,List.take_zero] at h0;refine tq ?_;rw[I8 _ _ zbh zam]
 refine tq ?_;rw[show List.take (Int.toNat 16) (sha256 (Ar 4 [m]))=Wj m from rfl,BB];rw[show O6 []=[] from rfl,show KI []=0 from rfl] at h0;rw[h0];refine tq ?_;rw[A3X zaa,Ag];rfl
theorem Zm(m:List UInt8)(hm:m.length<=1000000):Y E0 (.call 172 [.sl .u8 m] [])=some (.ret (.sl .i64 (Hm m)) []):=by
 have h0:=Pe (Wj m) (D9 m) _ 0 (Nat.zero_add _)
 have hds:=Rn (Wj m)
 have hml:=D9 m
 rw[show((0:Nat):Int)=0 from rfl,List.take_zero] at h0;refine tq ?_;rw[F5 _ _ zbh zam]
 refine tq ?_;rw[show List.take (Int.toNat 16) (sha256 (Ar 4 [m]))=Wj m from rfl];rw[show O6 []=[] from rfl,show KI []=0 from rfl] at h0;rw[h0];refine tq ?_;simp only[Ag];rfl
theorem yj(p:Int)(x:List UInt8)(hx:x.length<=1000000):Y E0 (.call 266 [.i leaf,.i c,.i p,.sl .u8 x] [])=some (.ret (.sl .u8 (ZX leaf c p x)) []):=by
 refine tq ?_;rw[I8 _ _ zbh zam]
 refine tq ?_;simp only[FP];rfl
theorem mr(seed:List UInt8)(leaf c:Int)(hx:seed.length<=1000000):Y E0 (.call 218 [.sl .u8 seed,.i leaf,.i c] [])=some (.ret (.sl .u8 (Fq seed leaf c)) []):=by
 refine tq ?_;rw[show strOf {data := #[99,104,97,105,110]}=[99,104,97,105,110] from rfl,H7 _ _ _ _ zaa zal zam];refine tq ?_;simp only[FP];rfl
theorem dU(seed:List UInt8)(leaf c:Int)(hx:seed.length<=1000000):Y E0 (.call 230 [.sl .u8 seed,.i leaf,.i c] [])=some (.ret (.sl .u8 (Fq seed leaf c)) []):=by
 refine tq ?_;rw[show strOf {data := #[99,104,97,105,110]}=[99,104,97,105,110] from rfl,Es _ _ _ _ zaa zal zam];refine tq ?_;simp only[FP];rfl
theorem A3Y(hx:x.length<=1000000):Y E0 (.call 269 [.i leaf,.sl .u8 x] [])=some (.ret (.sl .u8 (Wl leaf x)) []):=by
 refine tq ?_;rw[I8 _ _ zbh zam]
 refine tq ?_;simp only[FP];rfl
theorem dV(hx:x.length<=1000000):Y E0 (.call 174 [.i leaf,.sl .u8 x] [])=some (.ret (.sl .u8 (Wl leaf x)) []):=by
 refine tq ?_;rw[F5 _ _ zbh zam]
 refine tq ?_;simp only[FP];rfl
theorem QV(leaf c t:Int)(ht:t<=100):∀(k:Nat) (p:Int) (x:List UInt8),0<=p->(t-p).toNat=k->x.length<=1000000->Y E0 (.loop 173 0 0 0 [(0,.i leaf),(1,.i c),(3,.i t),(4,.sl .u8 x),(11,.i p)] [])=some (.fin (.exit 0) 0 [(4,.sl .u8 (Gy k leaf c p x))] [])
 | 0,p,x,h0,hk,hx=>by
  refine tq ?_
  rfl
 | k+1,p,x,h0,hk,hx=>by
  have hl:=Ce leaf c p x
  have ih:=QV leaf c t ht k (p+1) (ZX leaf c p x) zaa zaa zaa
  refine tq ?_;rw[F5 _ _ zbh zam]
  refine tq ?_
  refine(congrArg (Y E0) ?_).trans ih;(try simp only[Rq.loop.injEq,Rq.call.injEq,Rq.ops.injEq,List.cons.injEq,Prod.mk.injEq,AV.i.injEq,AV.sl.injEq,AV.st.injEq,AV.b.injEq,AV.u8.injEq,AV.nm.injEq,Option.some.injEq,Rs.row.injEq,Rs.var.injEq,heq_eq_eq,true_and,and_true]);(try(repeat' apply And.intro));all_goals first|(with_reducible rfl)|omega|(rw[Au zaa];omega)|(rw[CY zaa];omega)|(simp only[FP];rfl)
theorem Wy(f t:Int)(x:List UInt8)(hf:0<=f)(ht:t<=100)(hx:x.length<=1000000):Y E0 (.call 173 [.i leaf,.i c,.i f,.i t,.sl .u8 x] [])=some (.ret (.sl .u8 (Gy (t-f).toNat leaf c f x)) []):=by
 refine tq ?_;rw[QV leaf c t ht _ f x hf rfl hx];exact tq rfl
end
end Go.Proofs.YtnhgnfdbdflhcaaGreatDoor
