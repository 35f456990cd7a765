/-
  Own texts, laid together for this claim: contracts of functions of the program and its references, used by the statements of this seat.
-/
import Derived.Test.YtanagnimhaemgaaGreatDoorQtac
import Derived.Test.YtanagnimhaemgaaGreatDoorQtaf
import Derived.Test.YtanagnimhaemgaaGreatDoorQtag
import Derived.Test.YtanagnimhaemgaaGreatDoorQtah
import Derived.Test.YtanagnimhaemgaaGreatDoorQtaj
set_option linter.all false
set_option maxHeartbeats 40000000
set_option maxRecDepth 100000
namespace Go.Ax
open Go Go.Eng Go.RowKit
variable {auth:List UInt8}{α:Type}(n j:Nat)
structure Sen where
 auth:List UInt8
 seed:List UInt8
 data:List UInt8
abbrev A8f(s:Sen):List AV:=[.sl .u8 s.auth,.sl .u8 s.seed,.sl .u8 s.data]
def Yi:Sen:=⟨[],[],[]⟩
def Ic:List UInt8:=[115,101,101,100]
def AA3:List UInt8:=[112,114,105,118,97,116,101]
def EJ(kind h:Int)(s:Sen):List UInt8:=if kind=2 then FM s.seed h else sha256 (Ag 13 [s.seed,s.data])
def DC(secret:List UInt8)(p:Pub)(auth data:List UInt8):Pub×Sen×Int :=
 if Cb ⟨p.kind,p.attr,p.height,p.policy,List.replicate (uniq p.kind).toNat 0⟩≠0 then(YE,Yi,Cb ⟨p.kind,p.attr,p.height,p.policy,List.replicate (uniq p.kind).toNat 0⟩)
 else if 32<auth.length\/128<data.length then(YE,Yi,4)
 else if 0<data.length/\p.kind≠3 then(YE,Yi,1)
 else(⟨p.kind,p.attr,p.height,p.policy,EJ p.kind p.height ⟨auth,Aw secret Ic [] 32,data⟩⟩,⟨auth,Aw secret Ic [] 32,data⟩,0)
def wkey(par:Sen)(nm:List UInt8):List UInt8:=Aw par.seed AA3 nm 32
def A8g(s:Sen):List UInt8:=Ht (Ht (Ht [] s.auth) s.seed) s.data
def FU(par:Sen)(p:Pub)(s:Sen):List UInt8:=wR (wkey par (nameB p)) ((nameB p).take 16) (EL p) (A8g s)
def AA4(p:Pub)(b:List UInt8):Sen×Int :=
 let a:=JK b 0 0 32
 let d:=JK b a.2.1 a.2.2 32
 let t:=JK b d.2.1 d.2.2 128
 let e:=VT b t.2.1 t.2.2
 if e≠0 then(Yi,e) else if p.unique≠EJ p.kind p.height ⟨a.1,d.1,t.1⟩ then(Yi,18) else(⟨a.1,d.1,t.1⟩,0)
def FD(par:Sen)(p:Pub)(b:List UInt8):Sen×Int :=
 if(Zq (wkey par (nameB p)) (EL p) b).2≠0 then(Yi,(Zq (wkey par (nameB p)) (EL p) b).2) else AA4 p (Zq (wkey par (nameB p)) (EL p) b).1
def A7V(a b:Sen):Bool:=decide (a.auth=b.auth)&&(decide (a.seed=b.seed)&&decide (a.data=b.data))
structure OkS (s:Sen):Prop where
 auth:s.auth.length<=32
 seed:s.seed.length=32
 data:s.data.length<=128
theorem A65(k h:Int)(s:Sen):(EJ k h s).length<=32:=by
 unfold EJ;split
 ·have:=A64 s.seed h;omega
 ·rw[A7];exact Nat.le_refl _
theorem EU(p:Pub):(nameB p).length=32:=A7 _
theorem IM(par:Sen)(nm:List UInt8):(wkey par nm).length=32:=G5 zaa
theorem A39{secret data:List UInt8}{p:Pub}(hc:Cb p=0)(ha:auth.length<=32)(hd:data.length<=128)(hk:0<data.length->p.kind=3):
  DC secret p auth data=(⟨p.kind,p.attr,p.height,p.policy,EJ p.kind p.height ⟨auth,Aw secret Ic [] 32,data⟩⟩,⟨auth,Aw secret Ic [] 32,data⟩,0):=by
 have h0:Cb ⟨p.kind,p.attr,p.height,p.policy,List.replicate (uniq p.kind).toNat 0⟩=0:=by
  have hu:=wS p.kind
  unfold Cb at hc ⊢
  split at hc
  ·simp at hc
  rename_i g1
  split at hc
  ·simp at hc
  rename_i g2
  split at hc
  ·simp at hc
  rename_i g3
  rw[if_neg g1,if_neg g2,if_neg]
  rintro(q|q|q|q|q)
  ·exact g3 (.inl q)
  ·exact g3 (.inr (.inl q))
  ·exact g3 (.inr (.inr (.inl q)))
  ·exact g3 (.inr (.inr (.inr (.inl q))))
  ·simp only[List.length_replicate] at q;omega
 rw[DC,if_neg (by rw[h0];simp),if_neg zaa,if_neg (by intro q;exact q.2 (hk q.1))]
theorem A3A{secret data:List UInt8}{p:Pub}:(DC secret p auth data).1.unique.length<=32/\(DC secret p auth data).1.policy.length<=p.policy.length/\(DC secret p auth data).2.1.auth.length<=32/\(DC secret p auth data).2.1.seed.length<=32/\(DC secret p auth data).2.1.data.length<=128:=by
 unfold DC
 split
 ·simp[YE,Yi]
 ·split
  ·simp[YE,Yi]
  ·split
   ·simp[YE,Yi]
   ·have h1:=A65 p.kind p.height ⟨auth,Aw secret Ic [] 32,data⟩
    have h2:=G5 (key:=secret) (label:=Ic) (ctx:=[]) (n:=32) zaa
    refine⟨h1,Nat.le_refl _,?_,?_,?_⟩<;>simp only<;>omega
theorem oL(x:α)(l:List α):Ai (x::l) 0=some x:=by rw[Lj];simp[lget0]
theorem YF(x y:α)(l:List α):Ai (x::y::l) 1=some y:=by rw[Lj];simp[lget0]
theorem lg2(x y z:α)(l:List α):Ai (x::y::z::l) 2=some z:=by rw[Lj];simp[lget0]
abbrev ACC(p:Pub)(s:Sen)(h:Int):El objT:=((p.kind,p.attr,p.height,p.policy,p.unique),(s.auth,s.seed,s.data),h)
def Yj:El objT:=((0,0,0,[],[]),([],[],[]),0)
def A3B:El sesT:=(0,[],[],0,0,0,0,false)
def G7:List (El objT)->Nat
 | []=>0
 | x::l=>if x.1.1=0 then 0 else G7 l+1
def En(ob:List (El objT))(h:Int):Option (El objT):=if 512<=h then(match ob[(h-512).toNat]? with|some x=>if x.1.1=0 then none else some x|none=>none) else none
def PN:List UInt8:=[112,114,105,109,97,114,121]
def A7W:List UInt8:=[114,97,110,100,111,109]
def BI:List UInt8:=[101,110,116,114,111,112,121]
noncomputable def Ei(seed:List UInt8)(k a h:Int)(o data:List UInt8):List UInt8:=Aw seed PN (Ag 0 [[DI k,DI a,DI h],o,data]) 32
structure Ans where
 err:Int
 ints:List Int
 blobs:List (List UInt8)
def Iu(ob:List (El objT))(p:Pub)(s:Sen)(h:Int)(blobs:List (List UInt8)):List (El objT)×Ans :=
 if G7 ob<ob.length then(ob.set (G7 ob) (ACC p s h),⟨0,[512+(G7 ob:Int)],blobs⟩) else(ob,⟨25,[],[]⟩)
noncomputable def Eo(sd:List (List UInt8))(ob:List (El objT))(h k a t:Int)(o auth data:List UInt8):List (El objT)×Ans :=
  if 0<=h/\h<sd.length then
    (let m:=DC (Ei (sd.getD h.toNat []) k a t o data) ⟨k,a,t,o,[]⟩ auth data
     if m.2.2≠0 then(ob,⟨m.2.2,[],[]⟩) else Iu ob m.1 m.2.1 h [EL m.1,nameB m.1])
  else(ob,⟨7,[],[]⟩)
def Gs(n:Nat)(j:Nat):List (List UInt8):=(List.range j).map fun i=>List.replicate n (if 12<=i then 255 else 0)
theorem rD:Gs n (j+1)=Gs n j++[List.replicate n (if 12<=j then 255 else 0)]:=by simp[Gs,List.range_succ]
theorem Dv:(Gs n j).length=j:=by simp[Gs]
def Ec(n:Nat):List (List UInt8):=Gs n 16
def Yk(b:Int):Int:=if b=0 then 20 else if b=1 then 32 else 0
theorem YG(b:Int)(n j:Nat)(hn:(Yk b).toNat=n):BO (Gs n j) [List.replicate (Yk b).toNat (if(12:Int)<=(j:Int) then(255:UInt8) else 0)]=Gs n (j+1):=by
 rw[Am,rD,hn]
 by_cases h:12<=j
 ·rw[if_pos zaa,if_pos h]
 ·rw[if_neg zaa,if_neg h]
theorem A66(k:Nat)(x:UInt8):(List.replicate j x++List.replicate (k+1) 0).set j x=List.replicate (j+1) x++List.replicate k 0:=by
 rw[List.set_append_right _ _ zak]
 simp only[List.length_replicate,Nat.sub_self,List.replicate_succ,List.set_cons_zero]
 rw[<-List.replicate_succ,List.replicate_succ',List.append_assoc];rfl
def Dk(ac:Int):List (List (List UInt8)):=if ac%4=0 then [] else [if ac%2=1 then Ec 20 else [],if ac/2%2=1 then Ec 32 else []]
def AX(en:List UInt8):List (List UInt8):=[Aw en Ic [0] 32,Aw en Ic [1] 32,Aw en Ic [2] 32]
def N7(en:List UInt8)(re rs dr n:Int):List UInt8:=Aw en A7W (BQ (BQ (BQ [] 8 re) 8 rs) 8 dr) n
def NM(par:Sen)(en:List UInt8)(re rs dr k a t:Int)(o auth data:List UInt8):Int×Ans :=
 let m:=DC (N7 en re rs dr 32) ⟨k,a,t,o,[]⟩ auth data
 if m.2.2≠0 then(dr,⟨m.2.2,[],[]⟩) else(dr+1,⟨0,[],[EL m.1,FU par m.1 m.2.1]⟩)
def NP(ob:List (El objT))(par:Sen)(hier:Int)(pub priv:List UInt8):List (El objT)×Ans :=
 if(Fb pub).2≠0 then(ob,⟨(Fb pub).2,[],[]⟩)
 else if(FD par (Fb pub).1 priv).2≠0 then(ob,⟨(FD par (Fb pub).1 priv).2,[],[]⟩)
 else Iu ob (Fb pub).1 (FD par (Fb pub).1 priv).1 hier [nameB (Fb pub).1]
def keyAt(u:List UInt8):List (El BR)->Nat
 | []=>0
 | x::l=>if x.1=u then 0 else keyAt u l+1
def FN(ks:List (El BR))(u:List UInt8)(h:Int):List (El BR)×Int×Int :=
 if keyAt u ks<ks.length then
  (if(2:Int)^h.toNat<=(ks.getD (keyAt u ks) ([],0)).2 then(ks,0,26) else(ks.set (keyAt u ks) ((ks.getD (keyAt u ks) ([],0)).1,(ks.getD (keyAt u ks) ([],0)).2+1),(ks.getD (keyAt u ks) ([],0)).2,0))
 else if 8<=ks.length then(ks,0,25) else(ks++[(u,1)],0,0)
theorem wV{sd:List (List UInt8)}{ob:List (El objT)}{h k a t:Int}{o d:List UInt8}(hh:0<=h/\h<sd.length)(hf:G7 ob<ob.length)(hc:Cb ⟨k,a,t,o,List.replicate (uniq k).toNat 0⟩=0)(ha:auth.length<=32)(hd:d.length<=128)(hk:0<d.length->k=3):
  ∃ S,S=Aw (Ei (sd.getD h.toNat []) k a t o d) Ic [] 32/\S.length=32/\Eo sd ob h k a t o auth d=(ob.set (G7 ob) ((k,a,t,o,EJ k t ⟨auth,S,d⟩),(auth,S,d),h),⟨0,[512+(G7 ob:Int)],[EL ⟨k,a,t,o,EJ k t ⟨auth,S,d⟩⟩,nameB ⟨k,a,t,o,EJ k t ⟨auth,S,d⟩⟩]⟩):=by
 refine⟨_,rfl,G5 (n:=32) zaa,?_⟩
 have hm:=A39 (secret:=Ei (sd.getD h.toNat []) k a t o d) hc ha hd hk
 unfold Eo
 rw[if_pos hh,show DC (Ei (sd.getD h.toNat []) k a t o d) ⟨k,a,t,o,[]⟩ auth d=DC (Ei (sd.getD h.toNat []) k a t o d) ⟨k,a,t,o,List.replicate (uniq k).toNat 0⟩ auth d from rfl,hm]
 simp only[ne_eq,not_true_eq_false,if_false]
 unfold Iu
 rw[if_pos hf]
theorem rE(en:List UInt8):(AX en).length=3:=rfl
theorem zG(en:List UInt8):∀ l∈AX en,l.length<=1000:=by
 intro l hl
 simp only[AX,List.mem_cons,List.not_mem_nil,or_false] at hl
 rcases hl with rfl|rfl|rfl<;>(rw[G5 zaa];decide)
abbrev ACD(a:Ans):List AV:=[.i a.err,.sl .i64 a.ints,.sl (.sl .u8) a.blobs,.sl (.sl .u8) []]
@[reducible] def sC (sd au:List (List UInt8)) (en:List UInt8) (ac re rs ck:Int) (od:Bool) (sb:List (List (List UInt8))) (su mc:Int) (ix:List (El AL)) (l1 l2 l3 l4 l5 l6:Int) (ks:List (El BR)) (st sp:Bool) (rb:List (List (List UInt8))) (ru vc:Int) (sf:Bool) (dr:Int) (ss:List (El sesT)) (ob:List (El objT)) (rl wl:List Int):List AV:=[.sl (.sl .u8) sd,.sl (.sl .u8) au,.sl .u8 en,.i ac,.i re,.i rs,.i ck,.b od,.sl (.sl (.sl .u8)) sb,.i su,.i mc,.sl AL ix,.i l1,.i l2,.i l3,.i l4,.i l5,.i l6,.sl BR ks,.b st,.b sp,.sl (.sl (.sl .u8)) rb,.i ru,.i vc,.b sf,.i dr,.sl sesT ss,.sl objT ob,.sl .i64 rl,.sl .i64 wl]
@[reducible] def sX (sd au:List (List UInt8)) (en:List UInt8) (ac re rs ck:Int) (od:Bool) (sb:List (List (List UInt8))) (su mc:Int) (ix:List (El AL)) (l1 l2 l3 l4 l5 l6:Int) (ks:List (El BR)) (st sp:Bool) (rb:List (List (List UInt8))) (ru vc:Int) (sf:Bool) (dr:Int) (ss:List (El sesT)) (ob:List (El objT)) (rl wl:List Int):AV:=.agg (sC sd au en ac re rs ck od sb su mc ix l1 l2 l3 l4 l5 l6 ks st sp rb ru vc sf dr ss ob rl wl)
theorem Aq{p:Prop}(h:p:=by first|omega|decide|assumption|(simp only[Bd,A7,KR,Be,BV,BZ,EU,IM,BD,Ci,Ej,AB,Aj,Ah,Dv,Dz,DZ,E5,DV,DL,EI,EX,E8,DN,DW,Dt,A34,LG,Hl,JP,LL] at *<;>omega)|(simp;omega)):p:=h
theorem twe{a b:α}(e:OZ a b:=by(try rewrite[ZW]);(try rewrite[ZX]);(conv=>arg 1;whnf);(repeat first|(dsimp -iota -beta -eta -zeta only)|((first|rewrite[Dx Aq]|rewrite[RV Aq]|rewrite[GL Aq]|rewrite[DF]|rewrite[IB]|rewrite[Ur WG]|rewrite[Us WG]|rewrite[ZY]|rewrite[ZZ]|rewrite[Za]|rewrite[Y_go2]|rewrite[Y_go3]|rewrite[Y_go4]|rewrite[decide_eq_true Aq]|rewrite[decide_eq_false Aq]|rewrite[Dp Aq]|rewrite[Gz Aq]|rewrite[Fg Aq]|rewrite[TG Aq]|rewrite[Ff Aq]|rewrite[Jc Aq]|rewrite[IY Aq]|rewrite[DY Aq]|rewrite[Xd Aq]|rewrite[ZO Aq]|rewrite[Un rfl]|rewrite[drw zaj]|rewrite[KU rfl]|rewrite[Np]|rewrite[PE Aq]|rewrite[Jm Aq]|rewrite[oL]|rewrite[YF]|rewrite[lg2]);(conv=>arg 1;whnf))|rewrite[JL]|rewrite[JM]|rewrite[LQ]|rewrite[LU]|rewrite[LV]|rewrite[LW]|rewrite[Jq]|rewrite[Jr]|rewrite[Js]|rewrite[Jt]|rewrite[Ju]|rewrite[IZ]|((first|rewrite[Bc Aq]|rewrite[DU Aq]|rewrite[JA Aq]);try dsimp -iota -beta -eta -zeta only[Int.reduceAdd,Int.reduceSub,Int.reduceMul])|rewrite[QC Aq]|rewrite[MX Aq]|rewrite[TE Aq]|rewrite[TF Aq]|rewrite[QD Aq]|rewrite[Ak]|rewrite[EQ]);exact OZ.rf _):OZ a b:=e
theorem tw{P:α->Prop}{a b:α}(h:P b)(e:OZ a b:=by exact twe):P a:=by rw[OZ.eq e];exact h
theorem oM{β:Type}{P:α->Prop}{a b:α}{x y:β}(z:x=y)(h:P b)(e:x=y->OZ a b:=by intro z;rewrite[z];clear z;exact twe):P a:=by rw[OZ.eq (e z)];exact h
theorem tqe{a b:α}(e:OZ a b:=by(try rewrite[ZW]);(try rewrite[ZX]);(conv=>arg 1;whnf);(repeat first|(dsimp -iota -beta -eta -zeta only)|((first|rewrite[Dx Aq]|rewrite[RV Aq]|rewrite[GL Aq]|rewrite[DF]|rewrite[IB]|rewrite[Ur WG]|rewrite[Us WG]|rewrite[ZY]|rewrite[ZZ]|rewrite[Za]|rewrite[Y_go2]|rewrite[Y_go3]|rewrite[Y_go4]|rewrite[decide_eq_true Aq]|rewrite[decide_eq_false Aq]|rewrite[Dp Aq]|rewrite[Gz Aq]|rewrite[Fg Aq]|rewrite[TG Aq]|rewrite[Ff Aq]|rewrite[Jc Aq]|rewrite[IY Aq]|rewrite[DY Aq]|rewrite[Xd Aq]|rewrite[ZO Aq]|rewrite[Un rfl]|rewrite[drw zaj]|rewrite[KU rfl]|rewrite[Np]|rewrite[PE Aq]|rewrite[Jm Aq]|rewrite[oL]|rewrite[YF]|rewrite[lg2]|rewrite[IC Aq]);(conv=>arg 1;whnf))|rewrite[JL]|rewrite[JM]|rewrite[LQ]|rewrite[LU]|rewrite[LV]|rewrite[LW]|rewrite[Jq]|rewrite[Jr]|rewrite[Js]|rewrite[Jt]|rewrite[Ju]|rewrite[IZ]|rewrite[Bc Aq]|rewrite[DU Aq]|rewrite[JA Aq]|rewrite[QC Aq]|rewrite[MX Aq]|rewrite[TE Aq]|rewrite[TF Aq]|rewrite[QD Aq]|rewrite[Ak]|rewrite[EQ]);exact OZ.rf _):OZ a b:=e
theorem tq{a b c:α}(h:b=c)(e:OZ a b:=by exact tqe):a=c:=(OZ.eq e).trans h
theorem toe{a b:α}(e:OZ a b:=by(try rewrite[ZW]);(try rewrite[ZX]);(conv=>arg 1;whnf);(repeat first|(dsimp -iota -beta -eta -zeta only)|((first|rewrite[Dx Aq]|rewrite[RV Aq]|rewrite[GL Aq]|rewrite[DF]|rewrite[IB]|rewrite[Ur WG]|rewrite[Us WG]|rewrite[ZY]|rewrite[ZZ]|rewrite[Za]|rewrite[Y_go2]|rewrite[Y_go3]|rewrite[Y_go4]|rewrite[decide_eq_true Aq]|rewrite[decide_eq_false Aq]|rewrite[Dp Aq]|rewrite[Gz Aq]|rewrite[Fg Aq]|rewrite[TG Aq]|rewrite[Ff Aq]|rewrite[Jc Aq]|rewrite[IY Aq]|rewrite[DY Aq]|rewrite[Xd Aq]|rewrite[ZO Aq]|rewrite[Un rfl]|rewrite[drw zaj]|rewrite[KU rfl]|rewrite[Np]|rewrite[PE Aq]|rewrite[Jm Aq]|rewrite[oL]|rewrite[YF]|rewrite[lg2]);(conv=>arg 1;whnf))|rewrite[JL]|rewrite[JM]|rewrite[LQ]|rewrite[LU]|rewrite[LV]|rewrite[LW]|rewrite[Jq]|rewrite[Jr]|rewrite[Js]|rewrite[Jt]|rewrite[Ju]|rewrite[IZ]|rewrite[Bc Aq]|rewrite[DU Aq]|rewrite[JA Aq]|rewrite[QC Aq]|rewrite[MX Aq]|rewrite[TE Aq]|rewrite[TF Aq]|rewrite[QD Aq]|rewrite[Ak]|rewrite[EQ]);exact OZ.rf _):OZ a b:=e
theorem to{a b c:α}(h:b=c)(e:OZ a b:=by exact toe):a=c:=(OZ.eq e).trans h
theorem tpe{a b:α}(e:OZ a b:=by(try rewrite[ZW]);(try rewrite[ZX]);(conv=>arg 1;whnf);(repeat first|(dsimp -iota -beta -eta -zeta only)|((first|rewrite[Dx Aq]|rewrite[RV Aq]|rewrite[GL Aq]|rewrite[DF]|rewrite[IB]|rewrite[Ur WG]|rewrite[Us WG]|rewrite[ZY]|rewrite[ZZ]|rewrite[Za]|rewrite[Y_go2]|rewrite[Y_go3]|rewrite[Y_go4]|rewrite[decide_eq_true Aq]|rewrite[decide_eq_false Aq]|rewrite[Dp Aq]|rewrite[Gz Aq]|rewrite[Fg Aq]|rewrite[TG Aq]|rewrite[Ff Aq]|rewrite[Jc Aq]|rewrite[IY Aq]|rewrite[DY Aq]|rewrite[Xd Aq]|rewrite[ZO Aq]|rewrite[Un rfl]|rewrite[drw zaj]|rewrite[KU rfl]|rewrite[Np]|rewrite[PE Aq]|rewrite[Jm Aq]|rewrite[oL]|rewrite[YF]|rewrite[lg2]|rewrite[IC Aq]);(conv=>arg 1;whnf))|rewrite[JL]|rewrite[JM]|rewrite[LQ]|rewrite[LU]|rewrite[LV]|rewrite[LW]|rewrite[Jq]|rewrite[Jr]|rewrite[Js]|rewrite[Jt]|rewrite[Ju]|rewrite[IZ]|rewrite[Ak]|rewrite[EQ]);exact OZ.rf _):OZ a b:=e
theorem tp{a b c:α}(h:b=c)(e:OZ a b:=by exact tpe):a=c:=(OZ.eq e).trans h
end Go.Ax
namespace Go.Proofs.YtanagnimhaemgaaGreatDoor
open Go Go.Ax Go.Eng
variable (leaf c:Int)(x:List UInt8)
section
attribute [local irreducible] Bl CQ CS Bo Bg Ar CU Dw EN Dy EC Bf BU Bv Bz and' C9 CB BK Au BA BL BN Aa Ad AP AZ CV Dq CW DI CE BP BM BF BG BB AU BC Ae Ap Ai CX BH Bh Ba BO CG CY CJ fits CZ CO A8 AA Ac
theorem WH(h:List UInt8)(s:Int)(acc:List Int)(n j:Int)(a b:Int)(ha:acc.length<=1000)(hs:0<=s/\s<=1000)(hab:0<=a/\a<=15/\0<=b/\b<=15):Y E0 (.loop 327 1 0 1 [(3,.nm 0),(4,.i s),(12,.sl .u8 h),(13,.i n),(14,.i j),(24,.agg [.i a,.i b]),(25,.i 0)] [(0,some (.row 3 .i64 acc))])=some (.fin (.exit 2) 1 [(3,.nm 0),(4,.i (s+(15-a)+(15-b))),(12,.sl .u8 h),(13,.i n),(14,.i j)] [(0,some (.row 3 .i64 (acc++[a,b])))]):=by
 refine tq ?_;refine tq ?_;refine tq ?_
 simp only[NO];try with_reducible rfl
theorem kQ{h:List UInt8}{j:Nat}(hj:j<h.length):NL (h.take (j+1))=NL (h.take j)++[hiN h[j],loN h[j]]/\Je (h.take (j+1))=Je (h.take j)+(15-hiN h[j])+(15-loN h[j]):=by
 rw[List.take_succ_eq_append_getElem hj,A2v,jr];exact⟨rfl,by simp only[Je];omega⟩
theorem PO(h:List UInt8)(hl:h.length<=16):∀(k j:Nat),j+k=h.length->Y E0 (.loop 327 0 0 1 [(3,.nm 0),(4,.i (Je (h.take j))),(12,.sl .u8 h),(13,.i h.length),(14,.i j)] [(0,some (.row 3 .i64 (NL (h.take j))))])=some (.fin (.exit 0) 1 [(3,.nm 0),(4,.i (Je h))] [(0,some (.row 3 .i64 (NL h)))])
 | 0,j,hj=>by
  rw[List.take_of_length_le zaa]
  exact tq rfl
 | k+1,j,hj=>by
  have ih:=PO h hl k (j+1) zaa
  obtain⟨e1,e2⟩:=kQ (h:=h) (j:=j) zaa
  have hb1:=wK (h[j]'zaa)
  have hb2:=wL (h[j]'zaa)
  have hds:=QM (h.take j)
  have hdl:=EX (h.take j)
  rw[List.length_take] at hds hdl
  have hin:=WH h (Je (h.take j)) (NL (h.take j)) h.length j (hiN (h[j]'zaa)) (loN (h[j]'zaa)) zaa zaa zaa
  rw[<-e1,<-e2] at hin;rw[show((j+1:Nat):Int)=(j:Int)+1 from by omega] at ih
  refine tq ?_;rw[A7R,A7S,hin];refine tq ?_
  refine(congrArg (Y E0) ?_).trans ih;rfl
theorem Oc(h:List UInt8)(hl:h.length=16):∀(k j:Nat),j+k=h.length->Y E0 (.loop 140 0 0 1 [(3,.sl .u8 h),(4,.nm 0),(5,.i (Je (h.take j))),(6,.i j)] [(0,some (.row 3 .i64 (NL (h.take j))))])=some (.fin (.exit 0) 1 [(4,.nm 0),(5,.i (Je h))] [(0,some (.row 3 .i64 (NL h)))])
 | 0,j,hj=>by
  rw[List.take_of_length_le zaa]
  exact tq rfl
 | k+1,j,hj=>by
  have ih:=Oc h hl k (j+1) zaa
  obtain⟨e1,e2⟩:=kQ (h:=h) (j:=j) zaa
  have hb1:=wK (h[j]'zaa)
  have hb2:=wL (h[j]'zaa)
  have hds:=QM (h.take j)
  have hdl:=EX (h.take j)
  rw[List.length_take] at hds hdl;rw[e1,e2,show((j+1:Nat):Int)=(j:Int)+1 from by omega] at ih
  refine tq ?_
  refine(congrArg (Y E0) ?_).trans ih;rw[A7R,A7S,DU (a:=30) zaa,DU zaa,Bc zaa,Bc zaa,Am,show Je (h.take j)+(30-hiN (h[j]'zaa)-loN (h[j]'zaa))=Je (h.take j)+(15-hiN (h[j]'zaa))+(15-loN (h[j]'zaa)) from by omega]
theorem A3C{s:Int}(h:0<=s/\s<=1000):[BU s (UInt64.ofNat 8).toNat,Ar .and (BU s (UInt64.ofNat 4).toNat) 15,Ar .and s 15]=[s/256,s/16%16,s%16]:=by
 rw[Hf zad,Hf zad,show(15:Int)=((2^4-1:Nat):Int) from rfl,I5 4 zaa,I5 4 zaa];rfl
theorem zI(m:List UInt8)(hm:m.length<=1000000):Y E0 (.call 327 [.sl .u8 m] [])=some (.ret (.sl .i64 (H7 m)) []):=by
 have h0:=PO (Uw m) (by rw[EI];omega) _ 0 (Nat.zero_add _)
 have hds:=QM (Uw m)
 have hml:=EI m
 rw[show((0:Nat):Int)=0 from rfl,List.take_zero] at h0;refine tq ?_;rw[Eu _ _ zaV zak]
 refine tq ?_;rw[show List.take (Int.toNat 16) (sha256 (Ag 4 [m]))=Uw m from rfl,AC];rw[show NL []=[] from rfl,show Je []=0 from rfl] at h0;rw[h0];refine tq ?_;rw[A3C zaa,Am];rfl
theorem rG(m:List UInt8)(hm:m.length<=1000000):Y E0 (.call 140 [.sl .u8 m] [])=some (.ret (.sl .i64 (H7 m)) []):=by
 have h0:=Oc (Uw m) (EI m) _ 0 (Nat.zero_add _)
 have hds:=QM (Uw m)
 have hml:=EI m
 rw[show((0:Nat):Int)=0 from rfl,List.take_zero] at h0;refine tq ?_;rw[HY _ _ zaV zak]
 refine tq ?_;rw[show List.take (Int.toNat 16) (sha256 (Ag 4 [m]))=Uw m from rfl];rw[show NL []=[] from rfl,show Je []=0 from rfl] at h0;rw[h0];refine tq ?_;simp only[Am];rfl
theorem wW(p:Int)(x:List UInt8)(hx:x.length<=1000000):Y E0 (.call 351 [.i leaf,.i c,.i p,.sl .u8 x] [])=some (.ret (.sl .u8 (Vb leaf c p x)) []):=by
 refine tq ?_;rw[Eu _ _ zaV zak]
 refine tq ?_;simp only[Dh];rfl
theorem kR(seed:List UInt8)(leaf c:Int)(hx:seed.length<=1000000):Y E0 (.call 355 [.sl .u8 seed,.i leaf,.i c] [])=some (.ret (.sl .u8 (Hg seed leaf c)) []):=by
 refine tq ?_;rw[show strOf {data := #[99,104,97,105,110]}=[99,104,97,105,110] from rfl,Fh _ _ _ _ zaa zad zak];refine tq ?_;simp only[Dh];rfl
theorem A3D(hx:x.length<=1000000):Y E0 (.call 329 [.i leaf,.sl .u8 x] [])=some (.ret (.sl .u8 (Ux leaf x)) []):=by
 refine tq ?_;rw[Eu _ _ zaV zak]
 refine tq ?_;simp only[Dh];rfl
theorem zJ(hx:x.length<=1000000):Y E0 (.call 142 [.i leaf,.sl .u8 x] [])=some (.ret (.sl .u8 (Ux leaf x)) []):=by
 refine tq ?_;rw[HY _ _ zaV zak]
 refine tq ?_;simp only[Dh];rfl
theorem PP(leaf c t:Int)(ht:t<=100):∀(k:Nat) (p:Int) (x:List UInt8),0<=p->(t-p).toNat=k->x.length<=1000000->Y E0 (.loop 141 0 0 0 [(0,.i leaf),(1,.i c),(3,.i t),(4,.sl .u8 x),(11,.i p)] [])=some (.fin (.exit 0) 0 [(4,.sl .u8 (GM k leaf c p x))] [])
 | 0,p,x,h0,hk,hx=>by
  refine tq ?_
  rfl
 | k+1,p,x,h0,hk,hx=>by
  have hl:=E8 leaf c p x
  have ih:=PP leaf c t ht k (p+1) (Vb leaf c p x) zaa zaa zaa
  refine tq ?_;rw[HY _ _ zaV zak]
  refine tq ?_
  refine(congrArg (Y E0) ?_).trans ih;(try simp only[Rq.loop.injEq,Rq.call.injEq,Rq.ops.injEq,List.cons.injEq,Prod.mk.injEq,AV.i.injEq,AV.sl.injEq,AV.st.injEq,AV.b.injEq,AV.u8.injEq,AV.nm.injEq,Option.some.injEq,Rs.row.injEq,Rs.var.injEq,heq_eq_eq,true_and,and_true]);(try(repeat' apply And.intro));all_goals first|(with_reducible rfl)|omega|(rw[Bc zaa];omega)|(rw[DU zaa];omega)|(simp only[Dh];rfl)
theorem zK(f t:Int)(x:List UInt8)(hf:0<=f)(ht:t<=100)(hx:x.length<=1000000):Y E0 (.call 141 [.i leaf,.i c,.i f,.i t,.sl .u8 x] [])=some (.ret (.sl .u8 (GM (t-f).toNat leaf c f x)) []):=by
 refine tq ?_;rw[PP leaf c t ht _ f x hf rfl hx];exact tq rfl
end
end Go.Proofs.YtanagnimhaemgaaGreatDoor
