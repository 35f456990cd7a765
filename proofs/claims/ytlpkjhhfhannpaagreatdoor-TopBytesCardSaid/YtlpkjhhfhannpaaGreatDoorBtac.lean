/- Own texts of this claim: contracts of functions. -/
import Derived.Test.YtlpkjhhfhannpaaGreatDoorBtab
set_option linter.all false
set_option maxHeartbeats 40000000
set_option maxRecDepth 100000
namespace Go.Ax
open Go Go.Eng Go.RowKit
variable {auth b:List UInt8}{α:Type}{d:Nat}{l:List α}{p:Nat}{e n:Int}(x:List UInt8)(h a i:Nat)
structure Sen where
 auth:List UInt8
 seed:List UInt8
 data:List UInt8
abbrev A45(s:Sen):List AV:=[.sl .u8 s.auth,.sl .u8 s.seed,.sl .u8 s.data]
def Zb:Sen:=⟨[],[],[]⟩
def Jz:List UInt8:=[115,101,101,100]
def A8t:List UInt8:=[112,114,105,118,97,116,101]
def Ef(kind h:Int)(s:Sen):List UInt8:=if kind=2 then IJ s.seed h else sha256 (Az 13 [s.seed,s.data])
def CY(secret:List UInt8)(p:Pub)(auth data:List UInt8):Pub×Sen×Int :=
 if DI ⟨p.kind,p.attr,p.height,p.policy,List.replicate (uniq p.kind).toNat 0⟩≠0 then(Yg,Zb,DI ⟨p.kind,p.attr,p.height,p.policy,List.replicate (uniq p.kind).toNat 0⟩)
 else if 32<auth.length\/128<data.length then(Yg,Zb,4)
 else if 0<data.length/\p.kind≠3 then(Yg,Zb,1)
 else(⟨p.kind,p.attr,p.height,p.policy,Ef p.kind p.height ⟨auth,BG secret Jz [] 32,data⟩⟩,⟨auth,BG secret Jz [] 32,data⟩,0)
def wkey(par:Sen)(nm:List UInt8):List UInt8:=BG par.seed A8t nm 32
def Yi(s:Sen):List UInt8:=Hy (Hy (Hy [] s.auth) s.seed) s.data
def F5(par:Sen)(p:Pub)(s:Sen):List UInt8:=Pv (wkey par (nameB p)) ((nameB p).take 16) (Eh p) (Yi s)
def ABw(p:Pub)(b:List UInt8):Sen×Int :=
 let a:=Fg b 0 0 32
 let d:=Fg b a.2.1 a.2.2 32
 let t:=Fg b d.2.1 d.2.2 128
 let e:=PI b t.2.1 t.2.2
 if e≠0 then(Zb,e) else if p.unique≠Ef p.kind p.height ⟨a.1,d.1,t.1⟩ then(Zb,18) else(⟨a.1,d.1,t.1⟩,0)
def Ff(par:Sen)(p:Pub)(b:List UInt8):Sen×Int :=
 if(ai (wkey par (nameB p)) (Eh p) b).2≠0 then(Zb,(ai (wkey par (nameB p)) (Eh p) b).2) else ABw p (ai (wkey par (nameB p)) (Eh p) b).1
def A8u(a b:Sen):Bool:=decide (a.auth=b.auth)&&(decide (a.seed=b.seed)&&decide (a.data=b.data))
structure OkS (s:Sen):Prop where
 auth:s.auth.length<=32
 seed:s.seed.length=32
 data:s.data.length<=128
theorem A7M(k h:Int)(s:Sen):(Ef k h s).length<=32:=by
 unfold Ef;split
 ·have:=yS s.seed h;omega
 ·rw[A7];exact Nat.le_refl _
theorem DD(p:Pub):(nameB p).length=32:=A7 _
theorem EE(par:Sen)(nm:List UInt8):(wkey par nm).length=32:=Et zaa
theorem A46{secret data:List UInt8}{p:Pub}(hc:DI p=0)(ha:auth.length<=32)(hd:data.length<=128)(hk:0<data.length->p.kind=3):
  CY secret p auth data=(⟨p.kind,p.attr,p.height,p.policy,Ef p.kind p.height ⟨auth,BG secret Jz [] 32,data⟩⟩,⟨auth,BG secret Jz [] 32,data⟩,0):=by
 have h0:DI ⟨p.kind,p.attr,p.height,p.policy,List.replicate (uniq p.kind).toNat 0⟩=0:=by
  have hu:=iM p.kind
  unfold DI at hc ⊢
  split at hc
  ·simp at hc
  rename_i g1
  split at hc
  ·simp at hc
  rename_i g2
  split at hc
  ·simp at hc
  rename_i g3
  rw[if_neg g1,if_neg g2,if_neg]
  rintro(q|q|q|q|q)
  ·exact g3 (.inl q)
  ·exact g3 (.inr (.inl q))
  ·exact g3 (.inr (.inr (.inl q)))
  ·exact g3 (.inr (.inr (.inr (.inl q))))
  ·simp only[List.length_replicate] at q;omega
 rw[CY,if_neg (by rw[h0];simp),if_neg zaa,if_neg (by intro q;exact q.2 (hk q.1))]
theorem Yj{secret data:List UInt8}{p:Pub}:(CY secret p auth data).1.unique.length<=32/\(CY secret p auth data).1.policy.length<=p.policy.length/\(CY secret p auth data).2.1.auth.length<=32/\(CY secret p auth data).2.1.seed.length<=32/\(CY secret p auth data).2.1.data.length<=128:=by
 unfold CY
 split
 ·simp[Yg,Zb]
 ·split
  ·simp[Yg,Zb]
  ·split
   ·simp[Yg,Zb]
   ·have h1:=A7M p.kind p.height ⟨auth,BG secret Jz [] 32,data⟩
    have h2:=Et (key:=secret) (label:=Jz) (ctx:=[]) (n:=32) zaa
    refine⟨h1,Nat.le_refl _,?_,?_,?_⟩<;>simp only<;>omega
theorem nG(x:α)(l:List α):Ap (x::l) 0=some x:=by rw[LJ];simp[lget0]
theorem Zc(x y:α)(l:List α):Ap (x::y::l) 1=some y:=by rw[LJ];simp[lget0]
theorem lg2(x y z:α)(l:List α):Ap (x::y::z::l) 2=some z:=by rw[LJ];simp[lget0]
abbrev AEQ(p:Pub)(s:Sen)(h:Int):El objT:=((p.kind,p.attr,p.height,p.policy,p.unique),(s.auth,s.seed,s.data),h)
def Zd:El objT:=((0,0,0,[],[]),([],[],[]),0)
def uV:El sesT:=(0,[],[],0,0,0,0,false)
def GZ:List (El objT)->Nat
 | []=>0
 | x::l=>if x.1.1=0 then 0 else GZ l+1
def GG(ob:List (El objT))(h:Int):Option (El objT):=if 512<=h then(match ob[(h-512).toNat]? with|some x=>if x.1.1=0 then none else some x|none=>none) else none
def WI:List UInt8:=[112,114,105,109,97,114,121]
def A8v:List UInt8:=[114,97,110,100,111,109]
def BN:List UInt8:=[101,110,116,114,111,112,121]
noncomputable def Ei(seed:List UInt8)(k a h:Int)(o data:List UInt8):List UInt8:=BG seed WI (Az 0 [[DX k,DX a,DX h],o,data]) 32
structure Ans where
 err:Int
 ints:List Int
 blobs:List (List UInt8)
def Io(ob:List (El objT))(p:Pub)(s:Sen)(h:Int)(blobs:List (List UInt8)):List (El objT)×Ans :=
 if GZ ob<ob.length then(ob.set (GZ ob) (AEQ p s h),⟨0,[512+(GZ ob:Int)],blobs⟩) else(ob,⟨25,[],[]⟩)
noncomputable def Eo(sd:List (List UInt8))(ob:List (El objT))(h k a t:Int)(o auth data:List UInt8):List (El objT)×Ans :=
  if 0<=h/\h<sd.length then
    (let m:=CY (Ei (sd.getD h.toNat []) k a t o data) ⟨k,a,t,o,[]⟩ auth data
     if m.2.2≠0 then(ob,⟨m.2.2,[],[]⟩) else Io ob m.1 m.2.1 h [Eh m.1,nameB m.1])
  else(ob,⟨7,[],[]⟩)
def Je(n:Nat)(j:Nat):List (List UInt8):=(List.range j).map fun i=>List.replicate n (if 12<=i then 255 else 0)
theorem uX(n j:Nat):Je n (j+1)=Je n j++[List.replicate n (if 12<=j then 255 else 0)]:=by simp[Je,List.range_succ]
theorem DL(n j:Nat):(Je n j).length=j:=by simp[Je]
def GR(n:Nat):List (List UInt8):=Je n 16
def Qz(b:Int):Int:=if b=0 then 20 else if b=1 then 32 else 0
theorem Yk(b:Int)(n j:Nat)(hn:(Qz b).toNat=n):BF (Je n j) [List.replicate (Qz b).toNat (if(12:Int)<=(j:Int) then(255:UInt8) else 0)]=Je n (j+1):=by
 rw[Ac,uX,hn]
 by_cases h:12<=j
 ·rw[if_pos zaa,if_pos h]
 ·rw[if_neg zaa,if_neg h]
theorem A7O(j k:Nat)(x:UInt8):(List.replicate j x++List.replicate (k+1) 0).set j x=List.replicate (j+1) x++List.replicate k 0:=by
 rw[List.set_append_right _ _ zat]
 simp only[List.length_replicate,Nat.sub_self,List.replicate_succ,List.set_cons_zero]
 rw[<-List.replicate_succ,List.replicate_succ',List.append_assoc];rfl
def EI(ac:Int):List (List (List UInt8)):=if ac%4=0 then [] else [if ac%2=1 then GR 20 else [],if ac/2%2=1 then GR 32 else []]
def Ad(en:List UInt8):List (List UInt8):=[BG en Jz [0] 32,BG en Jz [1] 32,BG en Jz [2] 32]
def JA(en:List UInt8)(re rs dr n:Int):List UInt8:=BG en A8v (Bg (Bg (Bg [] 8 re) 8 rs) 8 dr) n
def NZ(par:Sen)(en:List UInt8)(re rs dr k a t:Int)(o auth data:List UInt8):Int×Ans :=
 let m:=CY (JA en re rs dr 32) ⟨k,a,t,o,[]⟩ auth data
 if m.2.2≠0 then(dr,⟨m.2.2,[],[]⟩) else(dr+1,⟨0,[],[Eh m.1,F5 par m.1 m.2.1]⟩)
def Na(ob:List (El objT))(par:Sen)(hier:Int)(pub priv:List UInt8):List (El objT)×Ans :=
 if(Fh pub).2≠0 then(ob,⟨(Fh pub).2,[],[]⟩)
 else if(Ff par (Fh pub).1 priv).2≠0 then(ob,⟨(Ff par (Fh pub).1 priv).2,[],[]⟩)
 else Io ob (Fh pub).1 (Ff par (Fh pub).1 priv).1 hier [nameB (Fh pub).1]
def keyAt(u:List UInt8):List (El E8)->Nat
 | []=>0
 | x::l=>if x.1=u then 0 else keyAt u l+1
def JE(ks:List (El E8))(u:List UInt8)(h:Int):List (El E8)×Int×Int :=
 if keyAt u ks<ks.length then
  (if(2:Int)^h.toNat<=(ks.getD (keyAt u ks) ([],0)).2 then(ks,0,26) else(ks.set (keyAt u ks) ((ks.getD (keyAt u ks) ([],0)).1,(ks.getD (keyAt u ks) ([],0)).2+1),(ks.getD (keyAt u ks) ([],0)).2,0))
 else if 8<=ks.length then(ks,0,25) else(ks++[(u,1)],0,0)
theorem A7P{sd:List (List UInt8)}{ob:List (El objT)}{h k a t:Int}{o d:List UInt8}(hh:0<=h/\h<sd.length)(hf:GZ ob<ob.length)(hc:DI ⟨k,a,t,o,List.replicate (uniq k).toNat 0⟩=0)(ha:auth.length<=32)(hd:d.length<=128)(hk:0<d.length->k=3):
  ∃ S,S=BG (Ei (sd.getD h.toNat []) k a t o d) Jz [] 32/\S.length=32/\Eo sd ob h k a t o auth d=(ob.set (GZ ob) ((k,a,t,o,Ef k t ⟨auth,S,d⟩),(auth,S,d),h),⟨0,[512+(GZ ob:Int)],[Eh ⟨k,a,t,o,Ef k t ⟨auth,S,d⟩⟩,nameB ⟨k,a,t,o,Ef k t ⟨auth,S,d⟩⟩]⟩):=by
 refine⟨_,rfl,Et (n:=32) zaa,?_⟩
 have hm:=A46 (secret:=Ei (sd.getD h.toNat []) k a t o d) hc ha hd hk
 unfold Eo
 rw[if_pos hh,show CY (Ei (sd.getD h.toNat []) k a t o d) ⟨k,a,t,o,[]⟩ auth d=CY (Ei (sd.getD h.toNat []) k a t o d) ⟨k,a,t,o,List.replicate (uniq k).toNat 0⟩ auth d from rfl,hm]
 simp only[ne_eq,not_true_eq_false,if_false]
 unfold Io
 rw[if_pos hf]
theorem Ol(en:List UInt8):(Ad en).length=3:=rfl
theorem ay(en:List UInt8):∀ l∈Ad en,l.length<=1000:=by
 intro l hl
 simp only[Ad,List.mem_cons,List.not_mem_nil,or_false] at hl
 rcases hl with rfl|rfl|rfl<;>(rw[Et zaa];decide)
abbrev AER(a:Ans):List AV:=[.i a.err,.sl .i64 a.ints,.sl (.sl .u8) a.blobs,.sl (.sl .u8) []]
@[reducible] def sC (sd au:List (List UInt8)) (en:List UInt8) (ac re rs ck:Int) (od:Bool) (sb:List (List (List UInt8))) (su mc:Int) (ix:List (El Bf)) (l1 l2 l3 l4 l5 l6:Int) (ks:List (El E8)) (st sp:Bool) (rb:List (List (List UInt8))) (ru vc:Int) (sf:Bool) (dr:Int) (ss:List (El sesT)) (ob:List (El objT)) (rl wl:List Int):List AV:=[.sl (.sl .u8) sd,.sl (.sl .u8) au,.sl .u8 en,.i ac,.i re,.i rs,.i ck,.b od,.sl (.sl (.sl .u8)) sb,.i su,.i mc,.sl Bf ix,.i l1,.i l2,.i l3,.i l4,.i l5,.i l6,.sl E8 ks,.b st,.b sp,.sl (.sl (.sl .u8)) rb,.i ru,.i vc,.b sf,.i dr,.sl sesT ss,.sl objT ob,.sl .i64 rl,.sl .i64 wl]
@[reducible] def sX (sd au:List (List UInt8)) (en:List UInt8) (ac re rs ck:Int) (od:Bool) (sb:List (List (List UInt8))) (su mc:Int) (ix:List (El Bf)) (l1 l2 l3 l4 l5 l6:Int) (ks:List (El E8)) (st sp:Bool) (rb:List (List (List UInt8))) (ru vc:Int) (sf:Bool) (dr:Int) (ss:List (El sesT)) (ob:List (El objT)) (rl wl:List Int):AV:=.agg (sC sd au en ac re rs ck od sb su mc ix l1 l2 l3 l4 l5 l6 ks st sp rb ru vc sf dr ss ob rl wl)
abbrev EC(E:Env)(q:Rq)(R:Option Rsp->Prop):Prop:=R (Y E q)
theorem G5{E:Env}{q:Rq}{R:Option Rsp->Prop}(h:∀ P:Option Rsp->Prop,(∀ r,R r->P r)->P (Y E q)):EC E q R:=h R fun _ h=>h
structure MS where
 sd:List (List UInt8)
 au:List (List UInt8)
 en:List UInt8
 ac:Int
 re:Int
 rs:Int
 ck:Int
 od:Bool
 sb:List (List (List UInt8))
 su:Int
 mc:Int
 ix:List (El Bf)
 l1:Int
 l2:Int
 l3:Int
 l4:Int
 l5:Int
 l6:Int
 ks:List (El E8)
 st:Bool
 sp:Bool
 rb:List (List (List UInt8))
 ru:Int
 vc:Int
 sf:Bool
 dr:Int
 ss:List (El sesT)
 ob:List (El objT)
 rl:List Int
 wl:List Int
@[reducible] def cv (s:MS):List AV:=[.sl (.sl .u8) s.sd,.sl (.sl .u8) s.au,.sl .u8 s.en,.i s.ac,.i s.re,.i s.rs,.i s.ck,.b s.od,.sl (.sl (.sl .u8)) s.sb,.i s.su,.i s.mc,.sl Bf s.ix,.i s.l1,.i s.l2,.i s.l3,.i s.l4,.i s.l5,.i s.l6,.sl E8 s.ks,.b s.st,.b s.sp,.sl (.sl (.sl .u8)) s.rb,.i s.ru,.i s.vc,.b s.sf,.i s.dr,.sl sesT s.ss,.sl objT s.ob,.sl .i64 s.rl,.sl .i64 s.wl]
@[reducible] def av (s:MS):AV:=.agg (cv s)
@[reducible] def rq (c:Int) (hs:List Int) (az:List (El AB)) (is:List Int) (bs:List (List UInt8)):AV:=.agg [.i c,.sl .i64 hs,.sl AB az,.sl .i64 is,.sl (.sl .u8) bs]
@[reducible] def rp (e:Int) (is:List Int) (bs ns:List (List UInt8)):AV:=.agg [.i e,.sl .i64 is,.sl (.sl .u8) bs,.sl (.sl .u8) ns]
@[reducible] def ixA (n k a z:Int) (p u:List UInt8) (w:Bool) (d:List UInt8):AV:=.agg [.i n,.i k,.i a,.i z,.sl .u8 p,.sl .u8 u,.b w,.sl .u8 d]
@[reducible] def iP (k:Int) (n d:List UInt8) (u l c e:Int) (b:Bool):AV:=.agg [.i k,.sl .u8 n,.sl .u8 d,.i u,.i l,.i c,.i e,.b b]
@[reducible] def obA (k a h:Int) (p u x y z:List UInt8) (r:Int):AV:=.agg [.i k,.i a,.i h,.sl .u8 p,.sl .u8 u,.sl .u8 x,.sl .u8 y,.sl .u8 z,.i r]
def VV(l1 l2 l3 l4 l5 l6:Int):Prop:=0<=l1/\l1<=1000/\0<=l2/\l2<=1000/\0<=l3/\l3<=2000000/\0<=l4/\l4<=1125899906842624/\0<=l5/\l5<=4503599627370496/\0<=l6/\l6<=2000000
def Jf(n k:Int)(p u d:List UInt8):Prop:=0<=n/\n<=255/\p.length<=32/\u.length<=32/\d.length<=128/\(k≠3\/d.length=8)
def Gv(x:El Bf):Prop:=Jf x.1 x.2.1 x.2.2.2.2.1 x.2.2.2.2.2.1 x.2.2.2.2.2.2.2
def KA(u:List UInt8)(n:Int):Prop:=u.length<=32/\0<=n/\n<=1000
def LZ(x:El E8):Prop:=KA x.1 x.2
def KC(n d:List UInt8)(l:Int):Prop:=n.length<=32/\d.length<=32
def O7(x:El sesT):Prop:=KC x.2.1 x.2.2.1 x.2.2.2.2.1
def KD(p u e s d:List UInt8)(t:Int):Prop:=p.length<=32/\u.length<=32/\e.length<=32/\s.length<=32/\d.length<=128/\0<=t/\t<=3
def O8(x:El objT):Prop:=KD x.1.2.2.2.1 x.1.2.2.2.2 x.2.1.1 x.2.1.2.1 x.2.1.2.2 x.1.2.2.1
def Eg(n:Nat)(b:List (List UInt8)):Prop:=b.length=16/\∀ x∈b,x.length=n
def A7Q(a:Int)(rb:List (List (List UInt8))):Prop:=rb=[]\/∃ b0 b1,rb=[b0,b1]/\(b0=[]\/Eg 20 b0)/\(b1=[]\/Eg 32 b1)/\(a/2%2=1->Eg 32 b1)
structure Kp (a k:Int) (s:MS):Prop where
 sdl:s.sd.length=3
 sdm:∀ x∈s.sd,x.length=32
 aul:s.au.length=4
 aum:∀ x∈s.au,x.length<=32
 en:s.en.length=32
 ac:s.ac=a/\0<=a/\a<=3
 kk:0<=k/\k<=1000
 re:0<=s.re/\s.re<=k
 rs:0<=s.rs/\s.rs<=k
 ck:0<=s.ck/\s.ck<=1099511627776
 sb:A7Q a s.sb
 su:0<=s.su/\s.su<=k
 ixl:s.ix.length<=6
 ixm:∀ x∈s.ix,Gv x
 lk:VV s.l1 s.l2 s.l3 s.l4 s.l5 s.l6
 ksl:s.ks.length<=8
 ksm:∀ x∈s.ks,LZ x
 rb:A7Q a s.rb
 st:s.st=true->a/2%2=1->s.rb≠[]
 ru:0<=s.ru/\s.ru<=k
 vc:0<=s.vc/\s.vc<=1099511627776
 dr:0<=s.dr/\s.dr<=k
 ssl:s.ss.length=3
 ssm:∀ x∈s.ss,O7 x
 obl:s.ob.length=3
 obm:∀ x∈s.ob,O8 x
 rl:(s.rl.length:Int)<=k
 wl:(s.wl.length:Int)<=k
theorem Kp.up{a k k':Int}{s:MS}(h:Kp a k s)(hk:k<=k'/\k'<=1000):Kp a k' s:=by
 obtain⟨h1,h2,h3,h4,h5,h6,h7,h8,h9,h10,h11,h12,h13,h14,h15,h16,h17,h18,h19,h20,h21,h22,h23,h24,h25,h26,h27,h28⟩:=h
 exact⟨h1,h2,h3,h4,h5,h6,by omega,by omega,by omega,h10,h11,by omega,h13,h14,h15,h16,h17,h18,h19,by omega,h21,by omega,h23,h24,h25,h26,by omega,by omega⟩
theorem EO{i:Int}(h:0<=i/\i<l.length):∃ x,x∈l/\Ap l i=some x:=⟨l[i.toNat]'zaa,List.getElem_mem _,Bv h⟩
theorem bC{i:Int}{x:α}{p:α->Prop}(h:∀ y∈l,p y)(hx:p x):(BB l i x).length=l.length/\∀ y∈BB l i x,p y:=by
 rw[EL]
 refine⟨by simp,fun y hy=>?_⟩
 rcases List.mem_or_eq_of_mem_set hy with hy|rfl
 ·exact h y hy
 ·exact hx
theorem A47{x:α}{p:α->Prop}(hn:0<=n)(hx:p x):((BU n x).length:Int)=n/\∀ y∈BU n x,p y:=by
 rw[Ea]
 refine⟨by simp;omega,fun y hy=>?_⟩
 rw[List.eq_of_mem_replicate hy];exact hx
theorem ABx{m:List α}{p:α->Prop}(h:∀ y∈l,p y)(hm:∀ y∈m,p y):(BF l m).length=l.length+m.length/\∀ y∈BF l m,p y:=by
 rw[Ac]
 refine⟨by simp,fun y hy=>?_⟩
 rcases List.mem_append.1 hy with hy|hy
 ·exact h y hy
 ·exact hm y hy
def Yl(c:Int):Option (Nat×Nat×Nat×Int) :=
 if c=1 then some (0,0,1,0) else if c=2 then some (0,0,1,0) else if c=4 then some (0,0,0,0) else if c=5 then some (0,0,2,0) else if c=6 then some (0,0,1,2) else if c=7 then some (0,0,1,1)
 else if c=8 then some (0,0,1,0) else if c=9 then some (1,1,3,3) else if c=10 then some (1,1,3,3) else if c=11 then some (1,1,0,2) else if c=12 then some (0,0,1,0) else if c=13 then some (1,1,0,0)
 else if c=14 then some (1,1,0,1) else if c=15 then some (1,1,2,1) else if c=16 then some (0,0,1,0) else if c=17 then some (0,0,6,-1) else if c=18 then some (1,1,2,1) else if c=19 then some (0,0,1,3)
 else if c=20 then some (0,0,1,0) else if c=21 then some (1,1,4,2) else if c=22 then some (1,1,1,0) else if c=23 then some (2,1,1,1) else if c=24 then some (2,1,2,0) else if c=25 then some (2,1,0,0)
 else if c=26 then some (2,1,0,1) else if c=27 then some (2,1,0,1) else if c=28 then some (2,1,0,0) else if c=29 then some (2,1,0,0) else if c=30 then some (1,1,0,1) else if c=31 then some (1,1,0,0)
 else if c=32 then some (1,1,0,0) else if c=33 then some (1,1,3,0) else none
structure Few (hs:List Int) (az:List (El AB)) (is:List Int) (bs:List (List UInt8)):Prop where
 hl:hs.length<=10
 al:az.length<=10
 am:∀ x∈az,x.2.1.length<=1000/\x.2.2.length<=1000
 il:is.length<=10
 bl:bs.length<=10
 bm:∀ x∈bs,x.length<=2000
structure Rok (c:Int) (hs:List Int) (az:List (El AB)) (is:List Int) (bs:List (List UInt8)):Prop where
 few:Few hs az is bs
 sh:∃ n,Yl c=some (hs.length,az.length,is.length,n)/\((bs.length:Int)=n\/n = -1/\bs.length<=8)
 hm:∀ x∈hs,0<=x/\x<=65535
 am:∀ x∈az,0<=x.1/\x.1<=65535
 im:∀ x∈is,0<=x/\x<=1099511627776
 bm:∀ x∈bs,x.length<=1024
theorem AA{p:Prop}(h:p:=by first|omega|decide|assumption|(simp only[Be,A7,XV,BH,Aw,BA,DD,EE,AU,EK,YO,A8,Am,AO,DL,Bo,Bz,C9,Bq,Bd,EY,Ee,EM,DZ,DT,Dh,MV,UM,KZ,VU,LL] at *<;>omega)|(simp;omega)):p:=h
theorem clo{p:Prop}(h:p:=by(repeat' apply And.intro)<;>first|assumption|omega|(intros;first|assumption|omega)|(intros;(repeat' apply And.intro)<;>first|assumption|omega)|(intros;simp only[Be,A7,XV,BH,Aw,BA,DD,EE,AU,EK,YO,A8,Am,AO,DL,Bo,Bz,C9,Bq,Bd,EY,Ee,EM,DZ,DT,Dh,MV,UM,KZ,VU,LL] at *<;>omega)|exact Kp.up zbd zaa|decide|(intros;simp;done)):p:=h
theorem twe{a b:α}(e:N8 a b:=by(try rewrite[YQ]);(try rewrite[YR]);(conv=>arg 1;whnf);(repeat first|(dsimp -iota -beta -eta -zeta only)|((first|rewrite[Dk AA]|rewrite[LM AA]|rewrite[H6 AA]|rewrite[DW]|rewrite[H7]|rewrite[Sr UB]|rewrite[Su UB]|rewrite[YS]|rewrite[YT]|rewrite[YU]|rewrite[Y_go2]|rewrite[Y_go3]|rewrite[Y_go4]|rewrite[decide_eq_true AA]|rewrite[decide_eq_false AA]|rewrite[Dl AA]|rewrite[Fv AA]|rewrite[Fb AA]|rewrite[RI AA]|rewrite[Dz AA]|rewrite[Aa AA]|rewrite[Ih AA]|rewrite[FH AA]|rewrite[WA AA]|rewrite[YJ AA]|rewrite[Sj rfl]|rewrite[drw zaw]|rewrite[Kv rfl]|rewrite[MP]|rewrite[NU AA]|rewrite[LK AA]|rewrite[nG]|rewrite[Zc]|rewrite[lg2]);(conv=>arg 1;whnf))|rewrite[J5]|rewrite[KH]|rewrite[KI]|rewrite[KJ]|rewrite[KL]|rewrite[KN]|rewrite[JS]|rewrite[JU]|rewrite[JV]|rewrite[JW]|rewrite[JX]|rewrite[Hm]|((first|rewrite[Bj AA]|rewrite[DV AA]|rewrite[JL AA]);try dsimp -iota -beta -eta -zeta only[Int.reduceAdd,Int.reduceSub,Int.reduceMul])|rewrite[F6 AA]|rewrite[Ew AA]|rewrite[U2 AA]|rewrite[U3 AA]|rewrite[Qa AA]|rewrite[AX]|rewrite[Du]);exact N8.rf _):N8 a b:=e
theorem tw{P:α->Prop}{a b:α}(h:P b)(e:N8 a b:=by exact twe):P a:=by rw[N8.eq e];exact h
theorem Dv{β:Type}{P:α->Prop}{a b:α}{x y:β}(z:x=y)(h:P b)(e:x=y->N8 a b:=by intro z;rewrite[z];clear z;exact twe):P a:=by rw[N8.eq (e z)];exact h
theorem tve{a b:α}(e:N8 a b:=by(try rewrite[YQ]);(try rewrite[YR]);(conv=>arg 1;whnf);(repeat first|(dsimp -iota -beta -eta -zeta only)|((first|rewrite[Dk AA]|rewrite[LM AA]|rewrite[H6 AA]|rewrite[DW]|rewrite[H7]|rewrite[Sr UB]|rewrite[Su UB]|rewrite[YS]|rewrite[YT]|rewrite[YU]|rewrite[Y_go2]|rewrite[Y_go3]|rewrite[Y_go4]|rewrite[decide_eq_true AA]|rewrite[decide_eq_false AA]|rewrite[Dl AA]|rewrite[Fv AA]|rewrite[Fb AA]|rewrite[RI AA]|rewrite[Dz AA]|rewrite[Aa AA]|rewrite[Ih AA]|rewrite[FH AA]|rewrite[WA AA]|rewrite[YJ AA]|rewrite[Sj rfl]|rewrite[drw zaw]|rewrite[Kv rfl]|rewrite[MP]|rewrite[NU AA]|rewrite[LK AA]|rewrite[nG]|rewrite[Zc]|rewrite[lg2]);(conv=>arg 1;whnf))|rewrite[J5]|rewrite[KH]|rewrite[KI]|rewrite[KJ]|rewrite[KL]|rewrite[KN]|rewrite[JS]|rewrite[JU]|rewrite[JV]|rewrite[JW]|rewrite[JX]|rewrite[Hm]|rewrite[AX]|rewrite[Du]);exact N8.rf _):N8 a b:=e
theorem tv{P:α->Prop}{a b:α}(h:P b)(e:N8 a b:=by exact tve):P a:=by rw[N8.eq e];exact h
theorem tvn{β:Type}{P:α->Prop}{a b:α}{x y:β}(z:x=y)(h:P b)(e:x=y->N8 a b:=by intro z;rewrite[z];clear z;exact tve):P a:=by rw[N8.eq (e z)];exact h
theorem tqe{a b:α}(e:N8 a b:=by(try rewrite[YQ]);(try rewrite[YR]);(conv=>arg 1;whnf);(repeat first|(dsimp -iota -beta -eta -zeta only)|((first|rewrite[Dk AA]|rewrite[LM AA]|rewrite[H6 AA]|rewrite[DW]|rewrite[H7]|rewrite[Sr UB]|rewrite[Su UB]|rewrite[YS]|rewrite[YT]|rewrite[YU]|rewrite[Y_go2]|rewrite[Y_go3]|rewrite[Y_go4]|rewrite[decide_eq_true AA]|rewrite[decide_eq_false AA]|rewrite[Dl AA]|rewrite[Fv AA]|rewrite[Fb AA]|rewrite[RI AA]|rewrite[Dz AA]|rewrite[Aa AA]|rewrite[Ih AA]|rewrite[FH AA]|rewrite[WA AA]|rewrite[YJ AA]|rewrite[Sj rfl]|rewrite[drw zaw]|rewrite[Kv rfl]|rewrite[MP]|rewrite[NU AA]|rewrite[LK AA]|rewrite[nG]|rewrite[Zc]|rewrite[lg2]|rewrite[JC AA]);(conv=>arg 1;whnf))|rewrite[J5]|rewrite[KH]|rewrite[KI]|rewrite[KJ]|rewrite[KL]|rewrite[KN]|rewrite[JS]|rewrite[JU]|rewrite[JV]|rewrite[JW]|rewrite[JX]|rewrite[Hm]|rewrite[Bj AA]|rewrite[DV AA]|rewrite[JL AA]|rewrite[F6 AA]|rewrite[Ew AA]|rewrite[U2 AA]|rewrite[U3 AA]|rewrite[Qa AA]|rewrite[AX]|rewrite[Du]);exact N8.rf _):N8 a b:=e
theorem tq{a b c:α}(h:b=c)(e:N8 a b:=by exact tqe):a=c:=(N8.eq e).trans h
theorem toe{a b:α}(e:N8 a b:=by(try rewrite[YQ]);(try rewrite[YR]);(conv=>arg 1;whnf);(repeat first|(dsimp -iota -beta -eta -zeta only)|((first|rewrite[Dk AA]|rewrite[LM AA]|rewrite[H6 AA]|rewrite[DW]|rewrite[H7]|rewrite[Sr UB]|rewrite[Su UB]|rewrite[YS]|rewrite[YT]|rewrite[YU]|rewrite[Y_go2]|rewrite[Y_go3]|rewrite[Y_go4]|rewrite[decide_eq_true AA]|rewrite[decide_eq_false AA]|rewrite[Dl AA]|rewrite[Fv AA]|rewrite[Fb AA]|rewrite[RI AA]|rewrite[Dz AA]|rewrite[Aa AA]|rewrite[Ih AA]|rewrite[FH AA]|rewrite[WA AA]|rewrite[YJ AA]|rewrite[Sj rfl]|rewrite[drw zaw]|rewrite[Kv rfl]|rewrite[MP]|rewrite[NU AA]|rewrite[LK AA]|rewrite[nG]|rewrite[Zc]|rewrite[lg2]);(conv=>arg 1;whnf))|rewrite[J5]|rewrite[KH]|rewrite[KI]|rewrite[KJ]|rewrite[KL]|rewrite[KN]|rewrite[JS]|rewrite[JU]|rewrite[JV]|rewrite[JW]|rewrite[JX]|rewrite[Hm]|rewrite[Bj AA]|rewrite[DV AA]|rewrite[JL AA]|rewrite[F6 AA]|rewrite[Ew AA]|rewrite[U2 AA]|rewrite[U3 AA]|rewrite[Qa AA]|rewrite[AX]|rewrite[Du]);exact N8.rf _):N8 a b:=e
theorem to{a b c:α}(h:b=c)(e:N8 a b:=by exact toe):a=c:=(N8.eq e).trans h
theorem tpe{a b:α}(e:N8 a b:=by(try rewrite[YQ]);(try rewrite[YR]);(conv=>arg 1;whnf);(repeat first|(dsimp -iota -beta -eta -zeta only)|((first|rewrite[Dk AA]|rewrite[LM AA]|rewrite[H6 AA]|rewrite[DW]|rewrite[H7]|rewrite[Sr UB]|rewrite[Su UB]|rewrite[YS]|rewrite[YT]|rewrite[YU]|rewrite[Y_go2]|rewrite[Y_go3]|rewrite[Y_go4]|rewrite[decide_eq_true AA]|rewrite[decide_eq_false AA]|rewrite[Dl AA]|rewrite[Fv AA]|rewrite[Fb AA]|rewrite[RI AA]|rewrite[Dz AA]|rewrite[Aa AA]|rewrite[Ih AA]|rewrite[FH AA]|rewrite[WA AA]|rewrite[YJ AA]|rewrite[Sj rfl]|rewrite[drw zaw]|rewrite[Kv rfl]|rewrite[MP]|rewrite[NU AA]|rewrite[LK AA]|rewrite[nG]|rewrite[Zc]|rewrite[lg2]|rewrite[JC AA]);(conv=>arg 1;whnf))|rewrite[J5]|rewrite[KH]|rewrite[KI]|rewrite[KJ]|rewrite[KL]|rewrite[KN]|rewrite[JS]|rewrite[JU]|rewrite[JV]|rewrite[JW]|rewrite[JX]|rewrite[Hm]|rewrite[AX]|rewrite[Du]);exact N8.rf _):N8 a b:=e
theorem tp{a b c:α}(h:b=c)(e:N8 a b:=by exact tpe):a=c:=(N8.eq e).trans h
def bl(x:List UInt8):List UInt8:=Wl x.length++x
def n8(x:Int):List UInt8:=Sm 8 (UInt64.ofInt x)
def n2(x:Int):List UInt8:=Sm 2 (UInt64.ofInt x)
def A48(b:Bool):UInt8:=if b then 1 else 0
theorem Ba:(bl x).length=2+x.length:=by simp[bl,Pe]
theorem BX(x:Int):(n8 x).length=8:=J4 _ _
theorem Bh(x:Int):(n2 x).length=2:=J4 _ _
theorem GX{x:List UInt8}(h:x.length<=65535):Hy b x=b++bl x:=by rw[Ph h,bl,List.append_assoc]
theorem Lm(b:List UInt8)(x:Int):Bg b 8 x=b++n8 x:=Pg (n:=8) zaa
theorem UN(b:List UInt8)(x:Int):Bg b 2 x=b++n2 x:=Pg (n:=2) zaa
def n4(x:Int):List UInt8:=Sm 4 (UInt64.ofInt x)
theorem CG(x:Int):(n4 x).length=4:=J4 _ _
theorem A7R(b:List UInt8)(x:Int):Bg b 4 x=b++n4 x:=Pg (n:=4) zaa
def Ym(q:Int)(p:List UInt8):List UInt8:=sha256 (Az 12 [n8 q,p])
def Sz(q:Int)(p:List UInt8):List UInt8:=Ym q p++n8 q++n4 (p.length:Int)++p
theorem Dw(q:Int)(p:List UInt8):(Ym q p).length=32:=A7 _
theorem EF(q:Int)(p:List UInt8):(Sz q p).length=44+p.length:=by simp[Sz,Dw,BX,CG];omega
def AAF(rb:List (List (List UInt8))):Int:=(if(rb.getD 0 []).length=16 then 1 else 0)+(if(rb.getD 1 []).length=16 then 2 else 0)
def UO(rb:List (List (List UInt8)))(ru:Int):List UInt8:=UInt8.ofInt (AAF rb)::(n8 ru++rb.flatten.flatten)
theorem yT(u:Int):UO [] u=0::n8 u:=by
 simp only[UO,List.flatten_nil,List.append_nil];rfl
def Ze(x:El Bf):List UInt8:=UInt8.ofInt x.1::UInt8.ofInt x.2.1::UInt8.ofInt x.2.2.1::(n2 x.2.2.2.1++(A48 x.2.2.2.2.2.2.1::(bl x.2.2.2.2.1++(bl x.2.2.2.2.2.1++bl x.2.2.2.2.2.2.2))))
def Zf(x:El E8):List UInt8:=bl x.1++[UInt8.ofInt x.2]
def encS(sd au:List (List UInt8))(en:List UInt8)(ac re rs ck:Int)(od:Bool)(sb:List (List (List UInt8)))(su mc:Int)(ix:List (El Bf))(l1 l2 l3 l4 l5 l6:Int)(ks:List (El E8)):List UInt8 :=
 [1,UInt8.ofInt ac]++bl (sd.getD 0 [])++bl (sd.getD 1 [])++bl (sd.getD 2 [])++bl (au.getD 0 [])++bl (au.getD 1 [])++bl (au.getD 2 [])++bl (au.getD 3 [])++bl en++n8 re++n8 rs++n8 ck++[A48 od]++bl (UO sb su)++n8 mc
  ++ [UInt8.ofInt (ix.length:Int)]++ix.flatMap Ze++n8 l1++n8 l2++n8 l3++n8 l4++n8 l5++n8 l6++[UInt8.ofInt (ks.length:Int)]++ks.flatMap Zf
@[reducible] def VW (sd au:List (List UInt8)) (en:List UInt8) (ac re rs ck:Int) (od:Bool) (sb:List (List (List UInt8))) (su mc:Int) (ix:List (El Bf)) (l1 l2 l3 l4 l5 l6:Int) (ks:List (El E8)):List AV:=[.sl (.sl .u8) sd,.sl (.sl .u8) au,.sl .u8 en,.i ac,.i re,.i rs,.i ck,.b od,.sl (.sl (.sl .u8)) sb,.i su,.i mc,.sl Bf ix,.i l1,.i l2,.i l3,.i l4,.i l5,.i l6,.sl E8 ks]
structure stOK (sd au:List (List UInt8)) (en:List UInt8) (ac re rs ck su mc:Int) (ix:List (El Bf)) (l1 l2 l3 l4 l5 l6:Int) (ks:List (El E8)):Prop where
 sl:sd.length=3
 al:au.length=4
 sm:∀ x∈sd,x.length<=1000
 am:∀ x∈au,x.length<=1000
 en:en.length<=1000
 ac:0<=ac/\ac<=3
 re:0<=re/\re<=1000000
 rs:0<=rs/\rs<=1000000
 ck:0<=ck/\ck<=2000000000000
 su:0<=su/\su<=1000000
 mc:0<=mc/\mc<=2000000000000
 il:ix.length<=6
 im:∀ x∈ix,Gv x
 lk:VV l1 l2 l3 l4 l5 l6
 kl:ks.length<=8
 km:∀ x∈ks,LZ x
@[reducible] def Jv (ar:List (List UInt8)) (wr cu to:Int) (of:Bool) (sd au:List (List UInt8)) (en:List UInt8) (ac re rs ck:Int) (od:Bool) (sb:List (List (List UInt8))) (su mc:Int) (ix:List (El Bf)) (l1 l2 l3 l4 l5 l6:Int) (ks:List (El E8)) (st sp:Bool) (rb:List (List (List UInt8))) (ru vc:Int) (sf:Bool) (dr:Int) (ss:List (El sesT)) (ob:List (El objT)) (rl wl:List Int) (on:Bool) (nx:Int):AV :=
 .agg [.sl (.sl .u8) ar,.i wr,.i cu,.i to,.b of,.sl (.sl .u8) sd,.sl (.sl .u8) au,.sl .u8 en,.i ac,.i re,.i rs,.i ck,.b od,.sl (.sl (.sl .u8)) sb,.i su,.i mc,.sl Bf ix,.i l1,.i l2,.i l3,.i l4,.i l5,.i l6,.sl E8 ks,.b st,.b sp,.sl (.sl (.sl .u8)) rb,.i ru,.i vc,.b sf,.i dr,.sl sesT ss,.sl objT ob,.sl .i64 rl,.sl .i64 wl,.b on,.i nx]
@[reducible] def dv0 (ar:List (List UInt8)) (wr cu to:Int) (of on:Bool) (nx:Int):AV:=Jv ar wr cu to of [] [] [] 0 0 0 0 false [] 0 0 [] 0 0 0 0 0 0 [] false false [] 0 0 false 0 [] [] [] [] on nx
@[reducible] def fmC:List AV:=[.i 1,.i 0,.i 0,.i 1,.i 0,.i 2,.i 0,.i 0,.i 1,.i 0,.i 4,.i 0,.i 0,.i 0,.i 0,.i 5,.i 0,.i 0,.i 2,.i 0,.i 6,.i 0,.i 0,.i 1,.i 2,.i 7,.i 0,.i 0,.i 1,.i 1,.i 8,.i 0,.i 0,.i 1,.i 0,.i 9,.i 1,.i 1,.i 3,.i 3,.i 10,.i 1,.i 1,.i 3,.i 3,.i 11,.i 1,.i 1,.i 0,.i 2,.i 12,.i 0,.i 0,.i 1,.i 0,.i 13,.i 1,.i 1,.i 0,.i 0,.i 14,.i 1,.i 1,.i 0,.i 1,.i 15,.i 1,.i 1,.i 2,.i 1,.i 16,.i 0,.i 0,.i 1,.i 0,.i 17,.i 0,.i 0,.i 6,.i (-1),.i 18,.i 1,.i 1,.i 2,.i 1,.i 19,.i 0,.i 0,.i 1,.i 3,.i 20,.i 0,.i 0,.i 1,.i 0,.i 21,.i 1,.i 1,.i 4,.i 2,.i 22,.i 1,.i 1,.i 1,.i 0,.i 23,.i 2,.i 1,.i 1,.i 1,.i 24,.i 2,.i 1,.i 2,.i 0,.i 25,.i 2,.i 1,.i 0,.i 0,.i 26,.i 2,.i 1,.i 0,.i 1,.i 27,.i 2,.i 1,.i 0,.i 1,.i 28,.i 2,.i 1,.i 0,.i 0,.i 29,.i 2,.i 1,.i 0,.i 0,.i 30,.i 1,.i 1,.i 0,.i 1,.i 31,.i 1,.i 1,.i 0,.i 0,.i 32,.i 1,.i 1,.i 0,.i 0,.i 33,.i 1,.i 1,.i 3,.i 0]
def Jt(x:El AB):List UInt8:=n2 x.1++(bl x.2.1++bl x.2.2)
def I4(c:Int)(hs:List Int)(az:List (El AB))(is:List Int)(bs:List (List UInt8)):List UInt8 :=
 hs.flatMap n2++az.flatMap Jt++is.flatMap n8++[UInt8.ofInt (bs.length:Int)]++bs.flatMap bl
def IY(c:Int)(hs:List Int)(az:List (El AB))(is:List Int)(bs:List (List UInt8)):List UInt8 :=
 [83,87]++n2 (5+(I4 c hs az is bs).length:Int)++[UInt8.ofInt c]++I4 c hs az is bs
def Ip(e:Int)(is:List Int)(bs ns:List (List UInt8)):List UInt8 :=
 if e≠0 then [UInt8.ofInt e] else [UInt8.ofInt e,UInt8.ofInt (is.length:Int)]++is.flatMap n8++[UInt8.ofInt (bs.length:Int)]++bs.flatMap bl++[UInt8.ofInt (ns.length:Int)]++ns.flatMap bl
def P8(b:List UInt8):Nat->Nat->Int->List Int×Nat×Int
 | 0,p,e=>([],p,e)
 | k+1,p,e=>((Dt b p e 2).1::(P8 b k (Dt b p e 2).2.1 (Dt b p e 2).2.2).1,(P8 b k (Dt b p e 2).2.1 (Dt b p e 2).2.2).2)
def gA(b:List UInt8)(p:Nat)(e:Int):El AB×Nat×Int :=
 let x:=Dt b p e 2
 let n:=Fg b x.2.1 x.2.2 128
 let v:=Fg b n.2.1 n.2.2 128
 ((x.1,n.1,v.1),v.2)
def OI(b:List UInt8):Nat->Nat->Int->List (El AB)×Nat×Int
 | 0,p,e=>([],p,e)
 | k+1,p,e=>((gA b p e).1::(OI b k (gA b p e).2.1 (gA b p e).2.2).1,(OI b k (gA b p e).2.1 (gA b p e).2.2).2)
def OA(b:List UInt8):Nat->Nat->Int->List Int×Nat×Int×Bool
 | 0,p,e=>([],p,e,false)
 | k+1,p,e=>if(Dt b p e 8).2.2=0/\1099511627776<(Dt b p e 8).1 then([],(Dt b p e 8).2.1,1,true) else((Dt b p e 8).1::(OA b k (Dt b p e 8).2.1 (Dt b p e 8).2.2).1,(OA b k (Dt b p e 8).2.1 (Dt b p e 8).2.2).2)
def Qm(b:List UInt8)(m:Int):Nat->Nat->Int->List (List UInt8)×Nat×Int
 | 0,p,e=>([],p,e)
 | k+1,p,e=>((Fg b p e m).1::(Qm b m k (Fg b p e m).2.1 (Fg b p e m).2.2).1,(Qm b m k (Fg b p e m).2.1 (Fg b p e m).2.2).2)
theorem P9(h:e≠0):Dt b p e n=(0,p,e):=by unfold Dt;rw[if_pos h]
theorem A8y(h:e≠0):Fg b p e n=([],p,e):=by unfold Fg;rw[if_pos h]
theorem AET(h:e≠0):gA b p e=((0,[],[]),p,e):=by unfold gA;simp only[P9 h,A8y h]
theorem A8z{b:List UInt8}{e:Int}(h:e≠0):∀(k p:Nat),(P8 b k p e).2=(p,e)
 | 0,p=>rfl
 | k+1,p=>by rw[P8,P9 h];exact A8z h k p
theorem A90{b:List UInt8}{e:Int}(h:e≠0):∀(k p:Nat),(OI b k p e).2=(p,e)
 | 0,p=>rfl
 | k+1,p=>by rw[OI,AET h];exact A90 h k p
theorem A4w{b:List UInt8}{m e:Int}(h:e≠0):∀(k p:Nat),(Qm b m k p e).2=(p,e)
 | 0,p=>rfl
 | k+1,p=>by rw[Qm,A8y h];exact A4w h k p
theorem A4x(h:p<=b.length):(gA b p e).2.1<=b.length:=JB (JB (FQ h))
theorem vJ{b:List UInt8}:∀(k:Nat) {p:Nat} {e:Int},p<=b.length->(P8 b k p e).2.1<=b.length
 | 0,p,e,h=>h
 | k+1,p,e,h=>vJ k (FQ h)
theorem vK{b:List UInt8}:∀(k:Nat) {p:Nat} {e:Int},p<=b.length->(OI b k p e).2.1<=b.length
 | 0,p,e,h=>h
 | k+1,p,e,h=>vK k (A4x h)
theorem A4y{b:List UInt8}:∀(k:Nat) {p:Nat} {e:Int},p<=b.length->(OA b k p e).2.1<=b.length
 | 0,p,e,h=>h
 | k+1,p,e,h=>by
  rw[OA];split
  ·exact FQ h
  ·exact A4y k (FQ h)
theorem vM{b:List UInt8}{m:Int}:∀(k:Nat) {p:Nat} {e:Int},p<=b.length->(Qm b m k p e).2.1<=b.length
 | 0,p,e,h=>h
 | k+1,p,e,h=>vM k (JB h)
theorem ig{b:List UInt8}:∀(k p:Nat) (e:Int),(P8 b k p e).1.length=k
 | 0,p,e=>rfl
 | k+1,p,e=>by rw[P8,List.length_cons,ig k]
theorem yX{b:List UInt8}:∀(k p:Nat) (e:Int),(OI b k p e).1.length=k
 | 0,p,e=>rfl
 | k+1,p,e=>by rw[OI,List.length_cons,yX k]
theorem yY{b:List UInt8}{m:Int}:∀(k p:Nat) (e:Int),(Qm b m k p e).1.length=k
 | 0,p,e=>rfl
 | k+1,p,e=>by rw[Qm,List.length_cons,yY k]
theorem Mc(hn:1<=n/\n<=8)(he:e=0\/e=2\/e=4):(Dt b p e n).2.2=0\/(Dt b p e n).2.2=2\/(Dt b p e n).2.2=4:=by
 unfold Dt
 split
 ·exact he
 rw[if_neg zaa]
 split
 ·simp
 ·split<;>simp
theorem QF(he:e=0\/e=2\/e=4):(Fg b p e n).2.2=0\/(Fg b p e n).2.2=2\/(Fg b p e n).2.2=4:=by
 unfold Fg
 split
 ·exact he
 split
 ·simp
 split
 ·simp
 ·split<;>simp
theorem A7h(he:e=0\/e=2\/e=4):(gA b p e).2.2=0\/(gA b p e).2.2=2\/(gA b p e).2.2=4:=QF (QF (Mc zaj he))
theorem oM{b:List UInt8}:∀(k:Nat) {p:Nat} {e:Int},(e=0\/e=2\/e=4)->((P8 b k p e).2.2=0\/(P8 b k p e).2.2=2\/(P8 b k p e).2.2=4)
 | 0,p,e,h=>h
 | k+1,p,e,h=>oM k (Mc zaj h)
theorem oN{b:List UInt8}:∀(k:Nat) {p:Nat} {e:Int},(e=0\/e=2\/e=4)->((OI b k p e).2.2=0\/(OI b k p e).2.2=2\/(OI b k p e).2.2=4)
 | 0,p,e,h=>h
 | k+1,p,e,h=>oN k (A7h h)
theorem oO{b:List UInt8}:∀(k:Nat) {p:Nat} {e:Int},(e=0\/e=2\/e=4)->(OA b k p e).2.2.2=false->((OA b k p e).2.2.1=0\/(OA b k p e).2.2.1=2\/(OA b k p e).2.2.1=4)
 | 0,p,e,h,_=>h
 | k+1,p,e,h,hf=>by
  rw[OA] at hf ⊢
  split
  ·rename_i hc;rw[if_pos hc] at hf;cases hf
  ·rename_i hc;rw[if_neg hc] at hf;exact oO k (Mc zaj h) hf
theorem oP{b:List UInt8}{m:Int}:∀(k:Nat) {p:Nat} {e:Int},(e=0\/e=2\/e=4)->((Qm b m k p e).2.2=0\/(Qm b m k p e).2.2=2\/(Qm b m k p e).2.2=4)
 | 0,p,e,h=>h
 | k+1,p,e,h=>oP k (QF h)
theorem bY{n:Nat}(hp:p<=b.length)(hn:1<=n/\n<=8)(h:(Dt b p e n).2.2=0):e=0/\(Dt b p e n).2.1=p+n/\0<=(Dt b p e n).1/\(Dt b p e n).1.toNat<256^n:=by
 obtain⟨h1,h2,-,-,h3,-,h4⟩:=A6o hp hn (show Dt b p e n=((Dt b p e n).1,(Dt b p e n).2.1,0) from by rw[<-h])
 exact⟨h1,h2,h3,h4⟩
theorem A4z{m:Int}(h:(Fg b p e m).2.2=0):e=0/\(Fg b p e m).2.1=p+2+(Fg b p e m).1.length/\((Fg b p e m).1.length:Int)<=m:=by
 unfold Fg at h ⊢
 split
 ·rename_i he;rw[if_pos he] at h;exact absurd h he
 rename_i he
 rw[if_neg he] at h
 split
 ·rename_i hc;rw[if_pos hc] at h;simp at h
 rename_i hc
 rw[if_neg hc] at h
 split
 ·rename_i hd;rw[if_pos hd] at h;simp at h
 rename_i hd
 rw[if_neg hd] at h
 split
 ·rename_i hg;rw[if_pos hg] at h;simp at h
 ·rename_i hg
  refine⟨by omega,?_,?_⟩<;>simp only[List.length_take,List.length_drop]<;>omega
theorem A91{b:List UInt8}:∀(k:Nat) {p:Nat} {e:Int},p<=b.length->(P8 b k p e).2.2=0->e=0/\(P8 b k p e).2.1=p+2*k/\∀ x∈(P8 b k p e).1,0<=x/\x<=65535
 | 0,p,e,hp,h=>⟨h,rfl,by intro x hx;cases hx⟩
 | k+1,p,e,hp,h=>by
  obtain⟨h1,h2,h3⟩:=A91 k (FQ hp) (show(P8 b k (Dt b p e 2).2.1 (Dt b p e 2).2.2).2.2=0 from h)
  obtain⟨k1,k2,k3,k4⟩:=bY (n:=2) hp zaj h1
  refine⟨k1,?_,?_⟩
  ·show(P8 b k (Dt b p e 2).2.1 (Dt b p e 2).2.2).2.1=_
   rw[h2];rw[show((2:Nat):Int)=2 from rfl] at k2;omega
  ·intro x hx
   rw[P8] at hx
   rcases List.mem_cons.1 hx with rfl|hx
   ·rw[show((2:Nat):Int)=2 from rfl] at k3 k4;omega
   ·exact h3 x hx
theorem AEU(hp:p<=b.length)(h:(gA b p e).2.2=0):e=0/\(gA b p e).2.1=p+(Jt (gA b p e).1).length/\((0:Int)<=(gA b p e).1.1/\((gA b p e).1.1:Int)<=65535)/\(gA b p e).1.2.1.length<=128/\(gA b p e).1.2.2.length<=128:=by
 obtain⟨v1,v2,v3⟩:=A4z (show(Fg b (Fg b (Dt b p e 2).2.1 (Dt b p e 2).2.2 128).2.1 (Fg b (Dt b p e 2).2.1 (Dt b p e 2).2.2 128).2.2 128).2.2=0 from h)
 obtain⟨n1,n2,n3⟩:=A4z v1
 obtain⟨x1,x2,x3,x4⟩:=bY (n:=2) hp zaj n1
 rw[show((2:Nat):Int)=2 from rfl] at x2 x3 x4
 refine⟨x1,?_,⟨x3,?_⟩,?_,?_⟩
 ·show(Fg b (Fg b (Dt b p e 2).2.1 (Dt b p e 2).2.2 128).2.1 (Fg b (Dt b p e 2).2.1 (Dt b p e 2).2.2 128).2.2 128).2.1=_
  simp only[gA,Jt,List.length_append,Bh,Ba];omega
 ·show(Dt b p e 2).1<=65535;omega
 ·show(Fg b (Dt b p e 2).2.1 (Dt b p e 2).2.2 128).1.length<=128;omega
 ·show(Fg b (Fg b (Dt b p e 2).2.1 (Dt b p e 2).2.2 128).2.1 (Fg b (Dt b p e 2).2.1 (Dt b p e 2).2.2 128).2.2 128).1.length<=128;omega
theorem A92{b:List UInt8}:∀(k:Nat) {p:Nat} {e:Int},p<=b.length->(OI b k p e).2.2=0->e=0/\(OI b k p e).2.1=p+((OI b k p e).1.flatMap Jt).length/\∀ x∈(OI b k p e).1,((0:Int)<=x.1/\(x.1:Int)<=65535)/\x.2.1.length<=128/\x.2.2.length<=128
 | 0,p,e,hp,h=>⟨h,rfl,by intro x hx;cases hx⟩
 | k+1,p,e,hp,h=>by
  obtain⟨h1,h2,h3⟩:=A92 k (A4x hp) (show(OI b k (gA b p e).2.1 (gA b p e).2.2).2.2=0 from h)
  obtain⟨k1,k2,k3,k4,k5⟩:=AEU hp h1
  refine⟨k1,?_,?_⟩
  ·show(OI b k (gA b p e).2.1 (gA b p e).2.2).2.1=p+(((gA b p e).1::(OI b k (gA b p e).2.1 (gA b p e).2.2).1).flatMap Jt).length
   rw[List.flatMap_cons,List.length_append];omega
  ·intro x hx
   rw[OI] at hx
   rcases List.mem_cons.1 hx with rfl|hx
   ·exact⟨k3,k4,k5⟩
   ·exact h3 x hx
theorem A93{b:List UInt8}:∀(k:Nat) {p:Nat} {e:Int},p<=b.length->(OA b k p e).2.2.1=0->e=0/\(OA b k p e).2.1=p+8*k/\(OA b k p e).1.length=k/\∀ x∈(OA b k p e).1,0<=x/\x<=1099511627776
 | 0,p,e,hp,h=>⟨h,rfl,rfl,by intro x hx;cases hx⟩
 | k+1,p,e,hp,h=>by
  by_cases hc:(Dt b p e 8).2.2=0/\1099511627776<(Dt b p e 8).1
  ·rw[OA,if_pos hc] at h;cases h
  ·rw[OA,if_neg hc] at h ⊢
   obtain⟨h1,h2,h4,h3⟩:=A93 k (FQ hp) h
   obtain⟨k1,k2,k3,k4⟩:=bY (n:=8) hp zaj h1
   rw[show((8:Nat):Int)=8 from rfl] at k2 k3 k4
   refine⟨k1,?_,?_,?_⟩
   ·show(OA b k (Dt b p e 8).2.1 (Dt b p e 8).2.2).2.1=_
    rw[h2];omega
   ·show(_::_).length=_
    rw[List.length_cons,h4]
   ·intro x hx
    rcases List.mem_cons.1 hx with rfl|hx
    ·exact⟨k3,Int.not_lt.1 fun hl=>hc ⟨h1,hl⟩⟩
    ·exact h3 x hx
theorem A94{b:List UInt8}{m:Int}:∀(k:Nat) {p:Nat} {e:Int},p<=b.length->(Qm b m k p e).2.2=0->e=0/\(Qm b m k p e).2.1=p+((Qm b m k p e).1.flatMap bl).length/\∀ x∈(Qm b m k p e).1,(x.length:Int)<=m
 | 0,p,e,hp,h=>⟨h,rfl,by intro x hx;cases hx⟩
 | k+1,p,e,hp,h=>by
  obtain⟨h1,h2,h3⟩:=A94 k (JB hp) (show(Qm b m k (Fg b p e m).2.1 (Fg b p e m).2.2).2.2=0 from h)
  obtain⟨k1,k2,k3⟩:=A4z h1
  refine⟨k1,?_,?_⟩
  ·show(Qm b m k (Fg b p e m).2.1 (Fg b p e m).2.2).2.1=p+(((Fg b p e m).1::(Qm b m k (Fg b p e m).2.1 (Fg b p e m).2.2).1).flatMap bl).length
   rw[List.flatMap_cons,List.length_append,Ba];omega
  ·intro x hx
   rw[Qm] at hx
   rcases List.mem_cons.1 hx with rfl|hx
   ·exact k3
   ·exact h3 x hx
theorem oQ(b:List UInt8)(d p n:Nat):((b.drop (p+d)).take n)=(((b.drop d).drop p).take n):=by rw[List.drop_drop,Nat.add_comm d p]
theorem ik(hd:d<=b.length)(hp:p<=(b.drop d).length):Dt b (p+d) e n=((Dt (b.drop d) p e n).1,(Dt (b.drop d) p e n).2.1+d,(Dt (b.drop d) p e n).2.2):=by
 have hl:(b.drop d).length=b.length-d:=List.length_drop
 unfold Dt
 by_cases h1:e≠0
 ·rw[if_pos h1,if_pos h1]
 rw[if_neg h1,if_neg h1]
 by_cases h2:n<1\/8<n
 ·rw[if_pos h2,if_pos h2]
 rw[if_neg h2,if_neg h2,oQ]
 by_cases h3:b.length<p+d+n.toNat
 ·rw[if_pos h3,if_pos zaa]
 rw[if_neg h3,if_neg (show ¬(b.drop d).length<p+n.toNat by omega)]
 split
 ·rfl
 ·show(_,p+d+n.toNat,(0:Int))=(_,p+n.toNat+d,(0:Int));rw[show p+d+n.toNat=p+n.toNat+d by omega]
theorem A50(b:List UInt8)(d p:Nat):EH b (p+d)=EH (b.drop d) p:=by
 unfold EH
 simp only[List.getD_eq_getElem?_getD,List.getElem?_drop]
 rw[show p+d=d+p by omega,show d+p+1=d+(p+1) by omega]
theorem vN{m:Int}(hd:d<=b.length)(hp:p<=(b.drop d).length):Fg b (p+d) e m=((Fg (b.drop d) p e m).1,(Fg (b.drop d) p e m).2.1+d,(Fg (b.drop d) p e m).2.2):=by
 have hl:(b.drop d).length=b.length-d:=List.length_drop
 unfold Fg
 rw[A50,show p+d+2=(p+2)+d by omega,oQ]
 by_cases h1:e≠0
 ·rw[if_pos h1,if_pos h1]
 rw[if_neg h1,if_neg h1]
 by_cases h3:b.length<p+2+d
 ·rw[if_pos h3,if_pos zaa]
 rw[if_neg h3,if_neg (show ¬(b.drop d).length<p+2 by omega)]
 split
 ·rfl
 by_cases h4:b.length<p+2+d+EH (b.drop d) p
 ·rw[if_pos h4,if_pos zaa]
 ·rw[if_neg h4,if_neg zaa,show p+2+d+EH (b.drop d) p=p+2+EH (b.drop d) p+d by omega]
theorem AAN(hd:d<=b.length):PI b (p+d) e=PI (b.drop d) p e:=by
 unfold PI
 rw[List.length_drop]
 by_cases h:e=0/\p+d<b.length
 ·rw[if_pos h,if_pos zaa]
 ·rw[if_neg h,if_neg zaa]
theorem A51(h:(Dt b p e n).2.2≠0):(Dt b p e n).1=0:=by
 unfold Dt at h ⊢
 split
 ·rfl
 rename_i he
 rw[if_neg he] at h
 split
 ·rfl
 rename_i h1
 rw[if_neg h1] at h
 split
 ·rfl
 rename_i h2
 rw[if_neg h2] at h
 split
 ·rfl
 ·rename_i h3;rw[if_neg h3] at h;exact absurd rfl h
def JZ(nb n:Int):Bool:=decide (n=nb\/nb<0/\n<=8)
def dH(x:List UInt8)(h:Nat):List Int×Nat×Int:=P8 x h 0 0
def dA(x:List UInt8)(h a:Nat):List (El AB)×Nat×Int:=OI x a (dH x h).2.1 (dH x h).2.2
def dI(x:List UInt8)(h a i:Nat):List Int×Nat×Int×Bool:=OA x i (dA x h a).2.1 (dA x h a).2.2
def dN(x:List UInt8)(h a i:Nat):Int×Nat×Int:=Dt x (dI x h a i).2.1 (dI x h a i).2.2.1 1
def dB(x:List UInt8)(h a i:Nat):List (List UInt8)×Nat×Int:=Qm x 1024 (dN x h a i).1.toNat (dN x h a i).2.1 (dN x h a i).2.2
def dE(x:List UInt8)(h a i:Nat)(nb:Int):Int:=if(dI x h a i).2.2.2=true then 1 else if(dN x h a i).2.2=0/\JZ nb (dN x h a i).1=false then 1 else PI x (dB x h a i).2.1 (dB x h a i).2.2
theorem bZ:(dH x h).2.1<=x.length:=vJ h (Nat.zero_le _)
theorem bf:(dA x h a).2.1<=x.length:=vK a (bZ x h)
theorem ZB:(dI x h a i).2.1<=x.length:=A4y i (bf x h a)
theorem bg:(dN x h a i).2.1<=x.length:=FQ (ZB x h a i)
theorem yZ:(dB x h a i).2.1<=x.length:=vM _ (bg x h a i)
theorem ABz:(dA x h a).2.2=0\/(dA x h a).2.2=2\/(dA x h a).2.2=4:=oN a (oM h (.inl rfl))
theorem A7i:0<=(dN x h a i).1/\(dN x h a i).1<=255:=by
 by_cases he:(dN x h a i).2.2=0
 ·obtain⟨-,-,h1,h2⟩:=bY (n:=1) (ZB x h a i) zaj he
  exact⟨h1,by rw[show((1:Nat):Int)=1 from rfl] at h2;have:(dN x h a i).1.toNat<256:=h2;omega⟩
 ·rw[show(dN x h a i).1=0 from A51 he];decide
theorem AEV{x:List UInt8}{h a i:Nat}{nb:Int}(he:dE x h a i nb=0):(dI x h a i).2.2.2=false/\JZ nb (dN x h a i).1=true/\(dH x h).1.length=h/\(dA x h a).1.length=a/\(dI x h a i).1.length=i/\(∀ y∈(dH x h).1,0<=y/\y<=65535)/\(∀ y∈(dA x h a).1,((0:Int)<=y.1/\(y.1:Int)<=65535)/\y.2.1.length<=128/\y.2.2.length<=128)/\(∀ y∈(dI x h a i).1,0<=y/\y<=1099511627776)/\(∀ y∈(dB x h a i).1,y.length<=1024)/\((dB x h a i).1.length:Int)=(dN x h a i).1 /\
  x.length=((dH x h).1.flatMap n2).length+((dA x h a).1.flatMap Jt).length+((dI x h a i).1.flatMap n8).length+1+((dB x h a i).1.flatMap bl).length:=by
 unfold dE at he
 by_cases h1:(dI x h a i).2.2.2=true
 ·rw[if_pos h1] at he;cases he
 rw[if_neg h1] at he
 by_cases h2:(dN x h a i).2.2=0/\JZ nb (dN x h a i).1=false
 ·rw[if_pos h2] at he;cases he
 rw[if_neg h2] at he
 have hB:(dB x h a i).2.2=0/\x.length<=(dB x h a i).2.1:=by
  unfold PI at he
  split at he
  ·cases he
  ·rename_i hc;exact⟨he,by have:=fun q=>hc ⟨he,q⟩;omega⟩
 have hBl:=yZ x h a i
 obtain⟨b1,b2,b3⟩:=A94 _ (bg x h a i) (show(Qm x 1024 (dN x h a i).1.toNat (dN x h a i).2.1 (dN x h a i).2.2).2.2=0 from hB.1)
 obtain⟨n1,n2',n3,n4⟩:=bY (n:=1) (ZB x h a i) zaj (show(dN x h a i).2.2=0 from b1)
 obtain⟨i1,i2,i4,i3⟩:=A93 i (bf x h a) (show(OA x i (dA x h a).2.1 (dA x h a).2.2).2.2.1=0 from n1)
 obtain⟨a1,a2,a3⟩:=A92 a (bZ x h) (show(OI x a (dH x h).2.1 (dH x h).2.2).2.2=0 from i1)
 obtain⟨-,c2,c3⟩:=A91 h (Nat.zero_le x.length) (show(P8 x h 0 0).2.2=0 from a1)
 have f2:∀ l:List Int,(l.flatMap n2).length=2*l.length:=by
  intro l;induction l with
  | nil=>rfl
  | cons y l ih=>rw[List.flatMap_cons,List.length_append,Bh,List.length_cons,ih];omega
 have f8:∀ l:List Int,(l.flatMap n8).length=8*l.length:=by
  intro l;induction l with
  | nil=>rfl
  | cons y l ih=>rw[List.flatMap_cons,List.length_append,BX,List.length_cons,ih];omega
 refine⟨by cases hh:(dI x h a i).2.2.2;rfl;exact absurd hh h1,?_,ig _ _ _,yX _ _ _,i4,c3,a3,i3,fun y hy=>?_,?_,?_⟩
 ·cases hh:JZ nb (dN x h a i).1
  ·exact absurd ⟨b1,hh⟩ h2
  ·rfl
 ·have:=b3 y hy;omega
 ·rw[show(dB x h a i).1.length=(dN x h a i).1.toNat from yY _ _ _]
  have:=(A7i x h a i).1;omega
 ·rw[f2,f8,show(dH x h).1.length=h from ig _ _ _,show(dI x h a i).1.length=i from i4]
  have e1:(dH x h).2.1=0+2*h:=c2
  have e2:(dA x h a).2.1=(dH x h).2.1+((dA x h a).1.flatMap Jt).length:=a2
  have e3:(dI x h a i).2.1=(dA x h a).2.1+8*i:=i2
  have e4:(dN x h a i).2.1=(dI x h a i).2.1+1:=n2'
  have e5:(dB x h a i).2.1=(dN x h a i).2.1+((dB x h a i).1.flatMap bl).length:=b2
  omega
def iq(b:List UInt8):Int:=if 2048<b.length then 4 else if b.length<5 then 2 else if b.getD 0 0≠83\/b.getD 1 0≠87 then 5 else if b.length<EH b 2 then 2 else if EH b 2<b.length then 3 else 0
def VZ(b:List UInt8):Int:=if iq b≠0 then iq b else match Yl ((b.getD 4 0).toNat:Int) with
 | none=>6
 | some (h,a,i,nb)=>dE (b.drop 5) h a i nb
end Go.Ax
namespace Go.Proofs.YtlpkjhhfhannpaaGreatDoor
open Go Go.Ax Go.Eng
attribute [local irreducible] CS Cj CP CW CQ BC Cm ED ES Dx EG CJ Bi Ce CX and' Cf CU BL Au BI BP BR Ag Ai AY Ae D5 EJ D6 DX Cb BZ BQ BM BO BJ AZ BK Aj Ak Ap D7 BB CV BU BF CO D8 Cc fits D9 Ci AC AQ Ah
variable {x0 x1 p0 p1:List UInt8}{q0 q1:Int}(ar:List (List UInt8))(b:List UInt8)(leaf:Int)(seed:List UInt8)(wr:Int)(x:List UInt8)(c q:Int)(p:List UInt8)(nb cu to a:Int)(h:Nat)
section
attribute [local irreducible] BG
theorem A7S:Y E0 (.call 61 [.i 4] [])=some (.ret (.agg [.sl (.sl .u8) [[],[],[],[]],.i 0,.i 0,.i 0,.b false]) []):=by
 have he:BU (min (max 4 0) 64:Int) ([]:List UInt8)=[[],[],[],[]]:=zbw
 refine tq ?_;rw[he]
theorem nH(of:Bool):Y E0 (.call 108 [.agg [.sl (.sl .u8) ar,.i wr,.i cu,.i to,.b of]] [])=some (.ret (.agg [.sl (.sl .u8) ar,.i 0,.i 0,.i 0,.b false]) []):=by
 exact tq rfl
theorem bD(of:Bool)(h:0<=a/\a<ar.length)(hl:ar.length<=1000):Y E0 (.call 213 [.agg [.sl (.sl .u8) ar,.i wr,.i cu,.i to,.b of],.i a] [])=some (.ret (.b true) []):=by
 exact tq rfl
theorem uY(old data:List UInt8)(hd:data.length<=4294900000):Y E0 (.call 154 [.sl .u8 old,.i (Ak data),.pa 0 0,.pa 1 0] [.var [.sl .u8 data],.var [.b false]])=some (.ret (.sl .u8 data) [some (.var [.sl .u8 data]),some (.var [.b false])]):=by
 rw[AP];refine tq ?_
 simp
theorem A7T(j k:Nat)(x:List UInt8)(h:ar[j]?=some x)(hj:j+(k+1)=ar.length):BB (ar.take j++List.replicate (k+1) []) (j:Int) x=ar.take (j+1)++List.replicate k []:=by
 rw[EL,List.take_add_one,h,Int.toNat_natCast,List.set_append,if_neg zaX,List.length_take,Nat.min_eq_left zaa,Nat.sub_self,List.append_assoc]
 rfl
theorem UQ(ar:List (List UInt8))(hl:ar.length<=1000)(wr cu to a n e:Int)(of b:Bool)(data:List UInt8):∀(k j:Nat),j+k=ar.length ->
  Y E0 (.loop 153 0 2 5 [(1,.i a),(3,.fn 154 [] [.pa 0 0,.pa 1 0]),(4,.pa 2 0),(8,.pa 3 0),(10,.i n),(11,.i e),(12,.nm 4),(51,.i (ar.length:Int)),(52,.i (j:Int))] [(0,some (.var [.sl .u8 data])),(1,some (.var [.b b])),(2,some (.var [.sl (.sl .u8) ar,.i wr,.i cu,.i to,.b of])),(3,some (.var [.nil,.i 0,.i 0,.i 0,.b false])),(4,some (.row 22 (.sl .u8) (ar.take j++List.replicate k [])))])
   = some (.fin (.exit 1) 5 [(1,.i a),(3,.fn 154 [] [.pa 0 0,.pa 1 0]),(4,.pa 2 0),(8,.pa 3 0),(10,.i n),(11,.i e),(12,.nm 4)] [(0,some (.var [.sl .u8 data])),(1,some (.var [.b b])),(2,some (.var [.sl (.sl .u8) ar,.i wr,.i cu,.i to,.b of])),(3,some (.var [.nil,.i 0,.i 0,.i 0,.b false])),(4,some (.row 22 (.sl .u8) ar))])
 | 0,j,hj=>by
  obtain rfl:j=ar.length:=zaa
  rw[List.take_length,List.replicate_zero,List.append_nil]
  exact tq rfl
 | k+1,j,hj=>by
  obtain⟨x,hx⟩:∃ x,ar[j]?=some x:=⟨ar[j]'zaa,List.getElem?_eq_getElem zaa⟩
  have hg:Ap ar (j:Int)=some x:=by rw[DU];exact hx
  have ih:=UQ ar hl wr cu to a n e of b data k (j+1) zaa
  rw[show((j+1:Nat):Int)=(j:Int)+1 from by omega,<-A7T ar j k x hx hj] at ih
  rw[AL];conv=>lhs;whnf
  rw[Dl zaa]
  conv=>lhs;whnf
  rw[hg];refine tq ?_;exact ih
theorem A7U(data:List UInt8)(hl:ar.length<=1000)(ha:0<=a/\a<ar.length)(hw:0<=wr/\wr<=1000000)(hd:data.length<=65536):Y E0 (.call 153 [.agg [.sl (.sl .u8) ar,.i wr,.i 0,.i to,.b false],.i a,.sl .u8 data,.fn 154 [] [.pa 0 0,.pa 1 0]] [.var [.sl .u8 data],.var [.b false]])=some (.ret (.tup [.agg [.sl (.sl .u8) (BB ar a data),.i (wr+1),.i 0,.i to,.b false],.i 0]) [some (.var [.sl .u8 data]),some (.var [.b false])]):=by
 have h1:Ak (BU (Ak ar) ([]:List UInt8))=(ar.length:Int):=by rw[Ea,AP,AP];simp
 have he:BU (Ak ar) ([]:List UInt8)=ar.take 0++List.replicate ar.length []:=by rw[Ea,AP];simp
 have hl:=UQ ar hl (wr+1) 0 to a (Ak data) 0 false false data ar.length 0 zaa
 rw[show((0:Nat):Int)=0 from rfl,<-he] at hl;refine tq ?_;rw[bD _ _ _ _ _ _ AA AA];refine tq ?_;rw[h1,hl]
 conv=>lhs;whnf
 rw[Bv zaa]
 conv=>lhs;whnf
 try dsimp -iota -beta -eta -zeta only
 rw[AX];rw[uY _ _ AA]
 conv=>lhs;whnf
 rw[H6 zaa]
 conv=>lhs;whnf
 rw[Bv zaa]
 conv=>lhs;whnf
theorem A0e(data:List UInt8)(hl:ar.length<=1000)(ha:0<=a/\a<ar.length)(hw:0<=wr/\wr<=1000000)(hd:data.length<=65536):Y E0 (.call 102 [.agg [.sl (.sl .u8) ar,.i wr,.i 0,.i to,.b false],.i a,.sl .u8 data] [])=some (.ret (.tup [.agg [.sl (.sl .u8) (BB ar a data),.i (wr+1),.i 0,.i to,.b false],.i 0]) []):=by
 have h0:ED (wr+1) 0=false:=Aa zaa
 rw[AL]
 conv=>lhs;whnf
 rw[DW];conv=>lhs;whnf
 try dsimp -iota -beta -eta -zeta only
 rw[Bj zaa];rw[AX];rw[h0,A7U _ _ _ _ _ hl ha hw hd];exact tq rfl
theorem nI(hp:p.length<=1000000):Y E0 (.call 101 [.i q,.sl .u8 p] [])=some (.ret (.sl .u8 (Ym q p)) []):=by
 refine tq ?_;rw[Dy _ _ _ AA];refine tq ?_;rw[Fe _ _ AA AA];refine tq ?_;rw[Ym,<-List.nil_append (n8 q),<-Lm]
theorem VX:Y E0 (.call 99 [.i 0] [])=some (.ret (.b true) []):=by
 exact tq rfl
theorem Yn(q:Int)(p:List UInt8)(hl:ar.length<=1000)(ha:2<=ar.length)(hw:0<=wr/\wr<=1000000)(hp:p.length<=60000)(hq:1<=q/\q<=1000000):Y E0 (.call 60 [.agg [.sl (.sl .u8) ar,.i wr,.i 0,.i to,.b false],.i 0,.i q,.sl .u8 p] [])=some (.ret (.tup [.agg [.sl (.sl .u8) (BB ar (q%2) (Sz q p)),.i (wr+1),.i 0,.i to,.b false],.i 0]) []):=by
 refine tq ?_;rw[VX];refine tq ?_;rw[nI _ _ AA];refine tq ?_;rw[Dy _ _ _ zaT];refine tq ?_;rw[Dy _ _ _ zaT]
 conv=>lhs;whnf
 try dsimp -iota -beta -eta -zeta only
 rw[Aa zaa]
 conv=>lhs;whnf
 rw[Dk zaT]
 conv=>lhs;whnf
 try dsimp -iota -beta -eta -zeta only
 rw[Ew zaa];rw[Bj zaa];rw[AX];rw[A0e _ _ _ _ _ zaa zaa zaa zaT];refine tq ?_;rw[Int.zero_add,Sz,Lm,A7R,Ac,AP]
theorem A0f(q w:Int)(hb:b.length<=1000000)(hq:1<=q/\q<=1000000)(hw:q%2=w){n:Nat}(g0:lw b 0 0 32=(Ym q p,32,0))(g1:Dt b 32 0 8=(q,40,0))(g2:Dt b 40 0 4=((n:Int),44,0))(g3:lw b 44 0 (n:Int)=(p,44+n,0))(hp:p.length=n)(hn:44+n=b.length):Y E0 (.call 157 [.sl .u8 b,.i w] [])=some (.ret (.tup [.sl .u8 p,.i q,.b true]) []):=by
 have h0:=Yb b 0 0 32 zaa zaa zaa
 have h1:=Ed b 32 0 8 zaa zaa
 have h2:=Ed b 40 0 4 zaa zaa
 have h3:=Yb b 44 0 n zaa zaa zaa
 rw[g0] at h0;rw[g1] at h1;rw[g2] at h2;rw[g3] at h3;refine tq ?_;rw[LW _ AA];refine tq ?_;rw[show Y E0 (.call 214 [.pa 0 0,.i 32] [.var [.sl .u8 b,.i 0,.i 0]])=_ from h0];refine tq ?_;rw[h1];refine tq ?_;rw[h2];refine tq ?_;rw[h3];refine tq ?_;rw[Jq ..];refine tq ?_;rw[nI _ _ AA];exact tq rfl
theorem Yo(w:Int):Y E0 (.call 157 [.sl .u8 [],.i w] [])=some (.ret (.tup [.sl .u8 [],.i 0,.b false]) []):=by
 have h0:=Yb [] 0 0 32 zaj zaj zaa
 rw[show lw [] 0 0 32=([],0,2) from by decide] at h0
 have h1:=Ed [] 0 2 8 zaj zaj
 rw[show Dt [] 0 2 8=(0,0,2) from by decide] at h1
 have h2:=Ed [] 0 2 4 zaj zaj
 rw[show Dt [] 0 2 4=(0,0,2) from by decide] at h2
 have h3:=Yb [] 0 2 0 zaj zaj zaa
 rw[show lw [] 0 2 0=([],0,2) from by decide] at h3;refine tq ?_;rw[LW _ AA];refine tq ?_;rw[show Y E0 (.call 214 [.pa 0 0,.i 32] [.var [.sl .u8 [],.i 0,.i 0]])=_ from h0];refine tq ?_;rw[Ed _ _ _ _ AA AA];refine tq ?_;rw[Ed _ _ _ _ AA AA];refine tq ?_;rw[Yb _ _ _ _ AA AA AA];refine tq ?_;rw[Jq ..];exact tq rfl
theorem A0g{b p:List UInt8}{q:Int}(hb:b=Sz q p)(hp:p.length<=60000)(hq:1<=q/\q<=1000000):lw b 0 0 32=(Ym q p,32,0)/\Dt b 32 0 8=(q,40,0)/\Dt b 40 0 4=((p.length:Int),44,0)/\lw b 44 0 (p.length:Int)=(p,44+p.length,0)/\44+p.length=b.length:=by
 have hl:b.length=44+p.length:=by rw[hb,EF]
 have e0:b.drop 0=Ym q p++(n8 q++(n4 (p.length:Int)++(p++[]))):=by rw[hb,Sz];simp
 obtain⟨a0,a1,a2⟩:=y9 (n:=32) zaa e0 (Dw q p)
 obtain⟨b0,b1,b2⟩:=Oe (n:=8) (x:=q) a1 zaa a2 zaa zaa zaa
 obtain⟨c0,c1,c2⟩:=Oe (n:=4) (x:=(p.length:Int)) b1 zaa b2 zaa zaa zaD
 obtain⟨d0,d1,d2⟩:=y9 (n:=p.length) c1 c2 rfl;exact⟨a0,b0,c0,d0,by omega⟩
theorem Px(q w:Int)(hp:p.length<=60000)(hq:1<=q/\q<=1000000)(hw:q%2=w):Y E0 (.call 157 [.sl .u8 (Sz q p),.i w] [])=some (.ret (.tup [.sl .u8 p,.i q,.b true]) []):=by
 obtain⟨h0,h1,h2,h3,h4⟩:=A0g (b:=Sz q p) rfl hp hq;exact A0f (Sz q p) p q w zaa hq hw h0 h1 h2 h3 rfl h4
def PK(ar:List (List UInt8))(q:Int)(p:List UInt8):Prop:=ar.length=4/\1<=q/\q<=900000/\p.length<=60000/\ar[(q%2).toNat]?=some (Sz q p)/\(ar[((q+1)%2).toNat]?=some []\/∃ p',p'.length<=60000/\2<=q/\ar[((q+1)%2).toNat]?=some (Sz (q-1) p'))
theorem bF{x:List UInt8}(hl:ar.length<=1000)(ha:0<=a/\a<ar.length)(hg:ar[a.toNat]?=some x)(hx:x.length<=1000000):Y E0 (.call 156 [.agg [.sl (.sl .u8) ar,.i wr,.i cu,.i to,.b false],.i a] [])=some (.ret (.tup [.sl .u8 x,.i 0]) []):=by
 have hg:Ap ar a=some x:=by rw[LJ,lget0,if_pos ha.1];exact hg
 refine tq ?_;rw[bD _ _ _ _ _ _ AA AA];refine tq ?_;rw[hg];exact tq rfl
theorem Yp(hl:ar.length=4)(h0:ar[(0:Int).toNat]?=some x0)(h1:ar[(1:Int).toNat]?=some x1)(b0:x0.length<=1000000)(b1:x1.length<=1000000):Y E0 (.loop 109 0 0 2 [(1,.i 0),(2,.pa 0 0),(4,.nil),(5,.i 0),(7,.pa 1 0),(18,.i 0)] [(0,some (.var [.sl (.sl .u8) ar,.i wr,.i cu,.i to,.b false])),(1,some (.var [.nil,.nil]))])=some (.fin (.exit 0) 1 [(4,.nil),(5,.i 0),(7,.pa 0 0)] [(0,some (.var [.sl .u8 x0,.sl .u8 x1]))]):=by
 refine tq ?_;rw[bF _ _ _ _ _ AA AA AA AA];refine tq ?_;refine tq ?_;rw[bF _ _ _ _ _ AA AA AA AA];refine tq ?_;exact tq rfl
theorem nJ{o0:Bool}(e0:Y E0 (.call 157 [.sl .u8 x0,.i 0] [])=some (.ret (.tup [.sl .u8 p0,.i q0,.b o0]) []))(e1:Y E0 (.call 157 [.sl .u8 x1,.i 1] [])=some (.ret (.tup [.sl .u8 p1,.i q1,.b true]) []))(h:0<=q0/\q0<q1/\q1<=1000000)(hz:o0=true->0<q0):
  Y E0 (.loop 109 1 0 0 [(4,.nil),(5,.i 0),(9,.b false),(35,.agg [.sl .u8 x0,.sl .u8 x1]),(36,.i 0)] [])=some (.fin (.exit 2) 0 [(4,.sl .u8 p1),(5,.i q1),(9,.b true)] []):=by
 cases o0 with
 | false =>
  refine tq ?_;rw[e0];refine tq ?_;refine tq ?_;rw[show(0+1:Int)=1 from rfl,e1];refine tq ?_;exact tq rfl
 | true =>
  have hz:=hz rfl
  refine tq ?_;rw[e0];refine tq ?_;refine tq ?_;rw[show(0+1:Int)=1 from rfl,e1];refine tq ?_;exact tq rfl
theorem nK{o1:Bool}(e0:Y E0 (.call 157 [.sl .u8 x0,.i 0] [])=some (.ret (.tup [.sl .u8 p0,.i q0,.b true]) []))(e1:Y E0 (.call 157 [.sl .u8 x1,.i 1] [])=some (.ret (.tup [.sl .u8 p1,.i q1,.b o1]) []))(h:0<=q1/\q1<q0/\q0<=1000000):
  Y E0 (.loop 109 1 0 0 [(4,.nil),(5,.i 0),(9,.b false),(35,.agg [.sl .u8 x0,.sl .u8 x1]),(36,.i 0)] [])=some (.fin (.exit 2) 0 [(4,.sl .u8 p0),(5,.i q0),(9,.b true)] []):=by
 cases o1 with
 | false =>
  refine tq ?_;rw[e0];refine tq ?_;refine tq ?_;rw[show(0+1:Int)=1 from rfl,e1];refine tq ?_;exact tq rfl
 | true =>
  refine tq ?_;rw[e0];refine tq ?_;refine tq ?_;rw[show(0+1:Int)=1 from rfl,e1];refine tq ?_;exact tq rfl
theorem RU{o0:Bool}(hl:ar.length=4)(h0:ar[(0:Int).toNat]?=some x0)(h1:ar[(1:Int).toNat]?=some x1)(b0:x0.length<=1000000)(b1:x1.length<=1000000)(e0:Y E0 (.call 157 [.sl .u8 x0,.i 0] [])=some (.ret (.tup [.sl .u8 p0,.i q0,.b o0]) []))(e1:Y E0 (.call 157 [.sl .u8 x1,.i 1] [])=some (.ret (.tup [.sl .u8 p1,.i q1,.b true]) []))(h:0<=q0/\q0<q1/\q1<=1000000)(hz:o0=true->0<q0):
  Y E0 (.call 109 [.agg [.sl (.sl .u8) ar,.i wr,.i cu,.i to,.b false],.i 0] [])=some (.ret (.tup [.sl .u8 p1,.i q1,.i 0]) []):=by
 refine tq ?_;rw[VX];refine tq ?_;rw[Yp ar wr cu to hl h0 h1 b0 b1];refine tq ?_;rw[nJ e0 e1 h hz];exact tq rfl
theorem RV{o1:Bool}(hl:ar.length=4)(h0:ar[(0:Int).toNat]?=some x0)(h1:ar[(1:Int).toNat]?=some x1)(b0:x0.length<=1000000)(b1:x1.length<=1000000)(e0:Y E0 (.call 157 [.sl .u8 x0,.i 0] [])=some (.ret (.tup [.sl .u8 p0,.i q0,.b true]) []))(e1:Y E0 (.call 157 [.sl .u8 x1,.i 1] [])=some (.ret (.tup [.sl .u8 p1,.i q1,.b o1]) []))(h:0<=q1/\q1<q0/\q0<=1000000):
  Y E0 (.call 109 [.agg [.sl (.sl .u8) ar,.i wr,.i cu,.i to,.b false],.i 0] [])=some (.ret (.tup [.sl .u8 p0,.i q0,.i 0]) []):=by
 refine tq ?_;rw[VX];refine tq ?_;rw[Yp ar wr cu to hl h0 h1 b0 b1];refine tq ?_;rw[nK e0 e1 h];exact tq rfl
theorem nM(wr cu to:Int)(h:PK ar q p):Y E0 (.call 109 [.agg [.sl (.sl .u8) ar,.i wr,.i cu,.i to,.b false],.i 0] [])=some (.ret (.tup [.sl .u8 p,.i q,.i 0]) []):=by
 obtain⟨h1,h2,h3,h4,h5,h6⟩:=h
 have hp:=Px p q (q%2) h4 ⟨h2,by omega⟩ rfl
 have hr:=EF q p
 rcases(by omega:q%2=0\/q%2=1) with hm|hm
 ·rw[hm] at h5 hp;rw[show(q+1)%2=1 from by omega] at h6
  rcases h6 with h6|⟨p',h7,h8,h6⟩
  ·exact RV ar wr cu to h1 h5 h6 zaa zaj hp (Yo 1) zaa
  ·have hr':=EF (q-1) p'
   exact RV ar wr cu to h1 h5 h6 zaa zaa hp (Px p' (q-1) 1 h7 zaa zaa) zaa
 ·rw[hm] at h5 hp;rw[show(q+1)%2=0 from by omega] at h6
  rcases h6 with h6|⟨p',h7,h8,h6⟩
  ·exact RU ar wr cu to h1 h6 h5 zaj zaa (Yo 0) hp zaa (fun h=>by cases h)
  ·have hr':=EF (q-1) p'
   exact RU ar wr cu to h1 h6 h5 zaa zaa (Px p' (q-1) 0 h7 zaa zaa) hp zaa (fun _=>by omega)
theorem A0h{ar:List (List UInt8)}{q:Int}{p p':List UInt8}(h:PK ar q p)(hq:q+1<=900000)(hp:p'.length<=60000):PK (BB ar ((q+1)%2) (Sz (q+1) p')) (q+1) p':=by
 obtain⟨h1,h2,h3,h4,h5,h6⟩:=h;rw[EL]
 refine⟨by rw[List.length_set];exact h1,by omega,by omega,hp,?_,.inr ⟨p,h4,by omega,?_⟩⟩
 ·rw[List.getElem?_set_self zaa]
 ·rw[List.getElem?_set_ne zaa,show(q+1+1)%2=q%2 from by omega,h5,show q+1-1=q from by omega]
end
theorem A4K{h:List UInt8}{j:Nat}(hj:j<h.length):Pq (h.take (j+1))=Pq (h.take j)++[hiN h[j],loN h[j]]/\LY (h.take (j+1))=LY (h.take j)+(15-hiN h[j])+(15-loN h[j]):=by
 rw[List.take_succ_eq_append_getElem hj,A3m,mO];exact⟨rfl,by simp only[LY];omega⟩
theorem Oz(h:List UInt8)(hl:h.length=16):∀(k j:Nat),j+k=h.length->Y E0 (.loop 172 0 0 1 [(3,.sl .u8 h),(4,.nm 0),(5,.i (LY (h.take j))),(6,.i j)] [(0,some (.row 3 .i64 (Pq (h.take j))))])=some (.fin (.exit 0) 1 [(4,.nm 0),(5,.i (LY h))] [(0,some (.row 3 .i64 (Pq h)))])
 | 0,j,hj=>by
  rw[List.take_of_length_le zaa]
  exact tq rfl
 | k+1,j,hj=>by
  have ih:=Oz h hl k (j+1) zaa
  obtain⟨e1,e2⟩:=A4K (h:=h) (j:=j) zaa
  have hb1:=A3k (h[j]'zaa)
  have hb2:=A3l (h[j]'zaa)
  have hds:=XD (h.take j)
  have hdl:=Ee (h.take j)
  rw[List.length_take] at hds hdl;rw[e1,e2,show((j+1:Nat):Int)=(j:Int)+1 from by omega] at ih
  refine tq ?_
  refine(congrArg (Y E0) ?_).trans ih;rw[ABp,ABq,DV (a:=30) zaa,DV zaa,Bj zaa,Bj zaa,Ac,show LY (h.take j)+(30-hiN (h[j]'zaa)-loN (h[j]'zaa))=LY (h.take j)+(15-hiN (h[j]'zaa))+(15-loN (h[j]'zaa)) from by omega]
theorem uq(m:List UInt8)(hm:m.length<=1000000):Y E0 (.call 172 [.sl .u8 m] [])=some (.ret (.sl .i64 (Jy m)) []):=by
 have h0:=Oz (Za m) (EY m) _ 0 (Nat.zero_add _)
 have hds:=XD (Za m)
 have hml:=EY m
 rw[show((0:Nat):Int)=0 from rfl,List.take_zero] at h0;refine tq ?_;rw[FK _ _ zbp zat]
 refine tq ?_;rw[show List.take (Int.toNat 16) (sha256 (Az 4 [m]))=Za m from rfl];rw[show Pq []=[] from rfl,show LY []=0 from rfl] at h0;rw[h0];refine tq ?_;simp only[Ac];rfl
theorem A7X(p:Int)(x:List UInt8)(hx:x.length<=1000000):Y E0 (.call 361 [.i leaf,.i c,.i p,.sl .u8 x] [])=some (.ret (.sl .u8 (aW leaf c p x)) []):=by
 refine tq ?_;rw[Fe _ _ zbp zat]
 refine tq ?_;simp only[Dq];rfl
theorem A4L(leaf c:Int)(hx:seed.length<=1000000):Y E0 (.call 365 [.sl .u8 seed,.i leaf,.i c] [])=some (.ret (.sl .u8 (Hq seed leaf c)) []):=by
 refine tq ?_;rw[show strOf {data := #[99,104,97,105,110]}=[99,104,97,105,110] from rfl,GH _ _ _ _ zaa zaj zat];refine tq ?_;simp only[Dq];rfl
theorem bJ(leaf c:Int)(hx:seed.length<=1000000):Y E0 (.call 174 [.sl .u8 seed,.i leaf,.i c] [])=some (.ret (.sl .u8 (Hq seed leaf c)) []):=by
 refine tq ?_;rw[show strOf {data := #[99,104,97,105,110]}=[99,104,97,105,110] from rfl,Il _ _ _ _ zaa zaj zat];refine tq ?_;simp only[Dq];rfl
theorem A4M(hx:x.length<=1000000):Y E0 (.call 339 [.i leaf,.sl .u8 x] [])=some (.ret (.sl .u8 (VQ leaf x)) []):=by
 refine tq ?_;rw[Fe _ _ zbp zat]
 refine tq ?_;simp only[Dq];rfl
theorem A0k(hx:x.length<=1000000):Y E0 (.call 217 [.i leaf,.sl .u8 x] [])=some (.ret (.sl .u8 (VQ leaf x)) []):=by
 refine tq ?_;rw[FK _ _ zbp zat]
 refine tq ?_;simp only[Dq];rfl
theorem Py(leaf c t:Int)(ht:t<=100):∀(k:Nat) (p:Int) (x:List UInt8),0<=p->(t-p).toNat=k->x.length<=1000000->Y E0 (.loop 173 0 0 0 [(0,.i leaf),(1,.i c),(3,.i t),(4,.sl .u8 x),(11,.i p)] [])=some (.fin (.exit 0) 0 [(4,.sl .u8 (NY k leaf c p x))] [])
 | 0,p,x,h0,hk,hx=>by
  refine tq ?_
  rfl
 | k+1,p,x,h0,hk,hx=>by
  have hl:=EM leaf c p x
  have ih:=Py leaf c t ht k (p+1) (aW leaf c p x) zaa zaa zaa
  refine tq ?_;rw[FK _ _ zbp zat]
  refine tq ?_
  refine(congrArg (Y E0) ?_).trans ih;(try simp only[Rq.loop.injEq,Rq.call.injEq,Rq.ops.injEq,List.cons.injEq,Prod.mk.injEq,AV.i.injEq,AV.sl.injEq,AV.st.injEq,AV.b.injEq,AV.u8.injEq,AV.nm.injEq,Option.some.injEq,Rs.row.injEq,Rs.var.injEq,heq_eq_eq,true_and,and_true]);(try(repeat' apply And.intro));all_goals first|(with_reducible rfl)|omega|(rw[Bj zaa];omega)|(rw[DV zaa];omega)|(simp only[Dq];rfl)
theorem bK(f t:Int)(x:List UInt8)(hf:0<=f)(ht:t<=100)(hx:x.length<=1000000):Y E0 (.call 173 [.i leaf,.i c,.i f,.i t,.sl .u8 x] [])=some (.ret (.sl .u8 (NY (t-f).toNat leaf c f x)) []):=by
 refine tq ?_;rw[Py leaf c t ht _ f x hf rfl hx];exact tq rfl
theorem A4N(l:Int):Y E0 (.call 336 [.i l] [])=some (.ret (.b (decide (0<=l/\l<=255))) []):=by
 refine tq ?_
 rcases Gw 0 l with hc0|hc0
 ·refine tq ?_
  exact zas
 refine tq ?_
 (rw[decide_eq_false zaa])
theorem AAJ(seed:List UInt8)(hx:seed.length<=1000000):Y E0 (.call 375 [.i c,.pa 0 0,.pa 1 0] [.var [.sl .u8 seed],.var [.i leaf]])=some (.ret (.sl .u8 (Hq seed leaf c)) [some (.var [.sl .u8 seed]),some (.var [.i leaf])]):=by
 refine tq ?_;rw[A4L _ _ _ AA];exact tq rfl
theorem AAK:Y E0 (.call 376 [.i c] [])=some (.ret (.i 0) []):=by
 exact tq rfl
theorem A4O:Y E0 (.call 377 [.i c] [])=some (.ret (.i 15) []):=by
 exact tq rfl
theorem UU(leaf:Int)(seed:List UInt8)(hx:seed.length<=1000000)(acc:List UInt8)(c:Nat)(hc:c<35)(ha:acc.length<=1000):∀(k:Nat) (q:Int) (x:List UInt8),0<=q->((15:Int)-q).toNat=k->x.length<=1000000 ->
  Y E0 (.loop 340 1 2 3 [(0,.i leaf),(1,AV.fn 375 [] [.pa 0 0,.pa 1 0]),(2,AV.fn 376 [] []),(3,AV.fn 377 [] []),(9,.nm 2),(10,.i c),(11,.sl .u8 x),(12,.i q),(13,.i c)] [(0,some (Rs.var [.sl .u8 seed])),(1,some (Rs.var [.i leaf])),(2,some (.row 5 .u8 acc))])=some (.fin (.exit 2) 3 [(0,.i leaf),(1,AV.fn 375 [] [.pa 0 0,.pa 1 0]),(2,AV.fn 376 [] []),(3,AV.fn 377 [] []),(9,.nm 2),(11,.sl .u8 (NY k leaf c q x)),(13,.i c)] [(0,some (Rs.var [.sl .u8 seed])),(1,some (Rs.var [.i leaf])),(2,some (.row 5 .u8 acc))])
 | 0,q,x,h0,hk,hx'=>by
  refine tq ?_;rw[A4O _];refine tq ?_
  rfl
 | k+1,q,x,h0,hk,hx'=>by
  have ih:=UU leaf seed hx acc c hc ha k (q+1) (aW leaf c q x) zaa zaa (by rw[EM];omega)
  refine tq ?_;rw[A4O _];refine tq ?_;rw[A7X _ _ _ _ AA];refine tq ?_
  refine(congrArg (Y E0) ?_).trans ih;(try simp only[Rq.loop.injEq,Rq.call.injEq,Rq.ops.injEq,List.cons.injEq,Prod.mk.injEq,AV.i.injEq,AV.sl.injEq,AV.st.injEq,AV.b.injEq,AV.u8.injEq,AV.nm.injEq,Option.some.injEq,Rs.row.injEq,Rs.var.injEq,heq_eq_eq,true_and,and_true]);(try(repeat' apply And.intro));all_goals first|(with_reducible rfl)|omega|(rw[Bj zaa];omega)|(rw[DV zaa];omega)
theorem Pz(leaf:Int)(seed:List UInt8)(hx:seed.length<=1000000):∀(k c:Nat) (acc:List UInt8),c+k=35->acc=NL leaf (fun c=>Hq seed leaf c) (fun c=>(0:Int)) (fun c=>(15:Int)) c->acc.length<=16*c ->
  Y E0 (.loop 340 0 2 3 [(0,.i leaf),(1,AV.fn 375 [] [.pa 0 0,.pa 1 0]),(2,AV.fn 376 [] []),(3,AV.fn 377 [] []),(9,.nm 2),(13,.i c)] [(0,some (Rs.var [.sl .u8 seed])),(1,some (Rs.var [.i leaf])),(2,some (.row 5 .u8 acc))])=some (.fin (.exit 0) 2 [(9,.sl .u8 (NL leaf (fun c=>Hq seed leaf c) (fun c=>(0:Int)) (fun c=>(15:Int)) 35))] [(0,some (Rs.var [.sl .u8 seed])),(1,some (Rs.var [.i leaf]))])
 | 0,c,acc,hc,he,ha=>by
  obtain rfl:c=35:=zaa
  rw[<-he]
  exact tq rfl
 | k+1,c,acc,hc,he,ha=>by
  have hin:=UU leaf seed hx acc c zaa zaa
  have hst:(Hq seed leaf c).length=16:=by exact DZ _ _ _
  have hsl:=O5 ((15:Int)-(0:Int)).toNat leaf c ((0:Int)) _ hst
  have ih:=Pz leaf seed hx k (c+1) (acc++NY ((15:Int)-(0:Int)).toNat leaf c ((0:Int)) (Hq seed leaf c)) zaa (by rw[Oh,<-he]) zbB
  rw[show((c+1:Nat):Int)=(c:Int)+1 from by omega] at ih
  refine tq ?_;rw[AAJ _ _ _ AA];refine tq ?_;rw[AAK _];refine tq ?_;rw[hin _ _ _ zaa rfl zaa];refine tq ?_
  refine(congrArg (Y E0) ?_).trans ih;(try simp only[Rq.loop.injEq,Rq.call.injEq,Rq.ops.injEq,List.cons.injEq,Prod.mk.injEq,AV.i.injEq,AV.sl.injEq,AV.st.injEq,AV.b.injEq,AV.u8.injEq,AV.nm.injEq,Option.some.injEq,Rs.row.injEq,Rs.var.injEq,heq_eq_eq,true_and,and_true]);(try(repeat' apply And.intro));all_goals first|(with_reducible rfl)|omega|(rw[Bj zaa];omega)|(rw[DV zaa];omega)|(rw[Ac];done)|(rw[Ac];rfl)
theorem A0l(hx:seed.length<=1000000):Y E0 (.call 340 [.i leaf,AV.fn 375 [] [.pa 0 0,.pa 1 0],AV.fn 376 [] [],AV.fn 377 [] []] [Rs.var [.sl .u8 seed],Rs.var [.i leaf]])=some (.ret (.sl .u8 (NL leaf (fun c=>Hq seed leaf c) (fun c=>(0:Int)) (fun c=>(15:Int)) 35)) [some (Rs.var [.sl .u8 seed]),some (Rs.var [.i leaf])]):=by
 have h0:=Pz leaf seed hx 35 0 [] zaa rfl zat
 rw[show((0:Nat):Int)=0 from rfl] at h0;refine tq ?_;exact h0▸rfl
theorem A0m(hx:seed.length<=1000000):Y E0 (.call 370 [.sl .u8 seed,.i leaf] [])=some (.ret (.sl .u8 (IW seed leaf)) []):=by
 refine tq ?_;rw[A4N _];refine tq ?_
 rcases Decidable.em (0<=leaf/\leaf<=255) with hc0|hc0
 ·refine tq ?_;rw[A0l _ _ AA]
  conv=>lhs;whnf
  rw[Kv zbe];conv=>lhs;whnf
  try dsimp -iota -beta -eta -zeta only
  rw[AX];rw[A4M _ _ zbx]
  refine tq ?_
  exact zar
 refine tq ?_
 exact zar
theorem P5(leaf:Int)(seed:List UInt8)(hx:seed.length<=1000000):∀(k c:Nat) (acc:List UInt8),c+k=35->acc=NL leaf (fun c=>Hq seed leaf c) (fun c=>(0:Int)) (fun c=>(15:Int)) c->acc.length<=16*c ->
  Y E0 (.loop 171 0 0 1 [(0,.sl .u8 seed),(1,.i leaf),(5,.nm 0),(6,.i c)] [(0,some (.row 5 .u8 acc))])=some (.fin (.exit 0) 0 [(1,.i leaf),(5,.sl .u8 (NL leaf (fun c=>Hq seed leaf c) (fun c=>(0:Int)) (fun c=>(15:Int)) 35))] [])
 | 0,c,acc,hc,he,ha=>by
  obtain rfl:c=35:=zaa
  rw[<-he]
  exact tq rfl
 | k+1,c,acc,hc,he,ha=>by
  have hst:(Hq seed leaf c).length=16:=by exact DZ _ _ _
  have hsl:=O5 ((15:Int)-(0:Int)).toNat leaf c ((0:Int)) _ hst
  have ih:=P5 leaf seed hx k (c+1) (acc++NY ((15:Int)-(0:Int)).toNat leaf c ((0:Int)) (Hq seed leaf c)) zaa (by rw[Oh,<-he]) zbB
  rw[show((c+1:Nat):Int)=(c:Int)+1 from by omega] at ih
  skip
  refine tq ?_;rw[bJ _ _ _ AA];refine tq ?_;rw[bK _ _ _ _ _ zaa zaa zaa];refine tq ?_
  refine(congrArg (Y E0) ?_).trans ih;(try simp only[Rq.loop.injEq,Rq.call.injEq,Rq.ops.injEq,List.cons.injEq,Prod.mk.injEq,AV.i.injEq,AV.sl.injEq,AV.st.injEq,AV.b.injEq,AV.u8.injEq,AV.nm.injEq,Option.some.injEq,Rs.row.injEq,Rs.var.injEq,heq_eq_eq,true_and,and_true]);(try(repeat' apply And.intro));all_goals first|(with_reducible rfl)|omega|(rw[Bj zaa];omega)|(rw[DV zaa];omega)|(rw[Ac];done)|(rw[Ac];rfl)
theorem RX(leaf:Int)(seed:List UInt8)(d:List Int)(hx:seed.length<=1000000)(hd:d.length=35)(hdb:∀ x∈d,0<=x/\x<=15):∀(k c:Nat) (acc:List UInt8),c+k=35->acc=NL leaf (fun c=>Hq seed leaf c) (fun c=>(0:Int)) (fun c=>d.getD c 0) c->acc.length<=16*c ->
  Y E0 (.loop 122 0 0 1 [(0,.sl .u8 seed),(1,.i leaf),(7,.sl .i64 d),(8,.nm 0),(9,.i c)] [(0,some (.row 5 .u8 acc))])=some (.fin (.exit 0) 1 [(8,.nm 0)] [(0,some (.row 5 .u8 (NL leaf (fun c=>Hq seed leaf c) (fun c=>(0:Int)) (fun c=>d.getD c 0) 35)))])
 | 0,c,acc,hc,he,ha=>by
  obtain rfl:c=35:=zaa
  rw[<-he]
  exact tq rfl
 | k+1,c,acc,hc,he,ha=>by
  have hdc:=hdb _ (List.getElem_mem (l:=d) (n:=c) zaa)
  have hgd:d.getD c 0=d[c]'zaa:=by simp[List.getD,show c<d.length by omega]
  have hst:(Hq seed leaf c).length=16:=by exact DZ _ _ _
  have hsl:=O5 (d.getD c 0-(0:Int)).toNat leaf c ((0:Int)) _ hst
  have ih:=RX leaf seed d hx hd hdb k (c+1) (acc++NY (d.getD c 0-(0:Int)).toNat leaf c ((0:Int)) (Hq seed leaf c)) zaa (by rw[Oh,<-he]) zbB
  rw[show((c+1:Nat):Int)=(c:Int)+1 from by omega] at ih;rw[hgd] at ih hsl
  refine tq ?_;rw[bJ _ _ _ AA];refine tq ?_;rw[bK _ _ _ _ _ zaa zaa zaa];refine tq ?_
  refine(congrArg (Y E0) ?_).trans ih;(try simp only[Rq.loop.injEq,Rq.call.injEq,Rq.ops.injEq,List.cons.injEq,Prod.mk.injEq,AV.i.injEq,AV.sl.injEq,AV.st.injEq,AV.b.injEq,AV.u8.injEq,AV.nm.injEq,Option.some.injEq,Rs.row.injEq,Rs.var.injEq,heq_eq_eq,true_and,and_true]);(try(repeat' apply And.intro));all_goals first|(with_reducible rfl)|omega|(rw[Bj zaa];omega)|(rw[DV zaa];omega)|(rw[Ac];done)|(rw[Ac];rfl)
theorem ut(hx:seed.length<=1000000):Y E0 (.call 171 [.sl .u8 seed,.i leaf] [])=some (.ret (.sl .u8 (IW seed leaf)) []):=by
 have h0:=P5 leaf seed hx 35 0 [] zaa rfl zat
 rw[show((0:Nat):Int)=0 from rfl] at h0;refine tq ?_
 rcases Bc leaf 0 with hc0|hc0
 ·refine tq ?_
  exact zar
 refine tq ?_
 rcases Bc 255 leaf with hc1|hc1
 ·refine tq ?_
  exact zar
 refine tq ?_;rw[h0];refine tq ?_;rw[A0k _ _ zbx]
 refine tq ?_
 exact zar
theorem A4P(m:List UInt8)(hx:seed.length<=1000000)(hm:m.length<=1000000):Y E0 (.call 122 [.sl .u8 seed,.i leaf,.sl .u8 m] [])=some (.ret (.nm 0) [some (.row 5 .u8 (UJ seed leaf m))]):=by
 have h0:=RX leaf seed (Jy m) hx (A3n m) (A3o m) 35 0 [] zaa rfl zat
 rw[show((0:Nat):Int)=0 from rfl] at h0;refine tq ?_
 rcases Bc leaf 0 with hc0|hc0
 ·refine tq ?_
  unfold UJ;(repeat(first|rw[if_pos zam]|rw[if_neg zam]));try simp only[NO]
 refine tq ?_
 rcases Bc 255 leaf with hc1|hc1
 ·refine tq ?_
  unfold UJ;(repeat(first|rw[if_pos zam]|rw[if_neg zam]));try simp only[NO]
 refine tq ?_;rw[uq _ AA];refine tq ?_;rw[h0];refine tq ?_
 unfold UJ;(repeat(first|rw[if_pos zam]|rw[if_neg zam]));try simp only[NO]
theorem UW(c:Int)(b:List UInt8)(m:Nat)(hb:b.length<=1000000)(hm:m<=10)(n1 n2 n3:Int):∀(k j:Nat) (l:List Int) (p:Nat) (e:Int),j+k=m->p<=b.length->l.length+k<=20 ->
  Y E0 (.loop 85 0 0 4 [(2,.pa 0 0),(7,.i n1),(8,.i n2),(9,.i n3),(11,.pa 1 0),(12,.pa 2 0),(42,.i (m:Int)),(43,.i (j:Int))] [(0,some (.var [.i 0,.nil,.nil,.nil,.nil])),(1,some (.var [.sl .u8 b,.i (p:Int),.i e])),(2,some (.var [.i c,.nm 3,.nil,.nil,.nil])),(3,some (.row 3 .i64 l))])
   = some (.fin (.exit 0) 4 [(2,.pa 0 0),(7,.i n1),(8,.i n2),(9,.i n3),(11,.pa 1 0),(12,.pa 2 0)] [(0,some (.var [.i 0,.nil,.nil,.nil,.nil])),(1,some (.var [.sl .u8 b,.i ((P8 b k p e).2.1:Int),.i (P8 b k p e).2.2])),(2,some (.var [.i c,.nm 3,.nil,.nil,.nil])),(3,some (.row 3 .i64 (l++(P8 b k p e).1)))])
 | 0,j,l,p,e,hj,hp,hl=>by
  obtain rfl:j=m:=zaa
  rw[P8,List.append_nil]
  rw[AL];conv=>lhs;whnf
  refine tq ?_
  with_reducible rfl
 | k+1,j,l,p,e,hj,hp,hl=>by
  have g:=Ed b p e 2 zaa hp
  have hq:=FQ (e:=e) (size:=2) hp
  rw[P8]
  generalize Dt b p e 2=u at *
  obtain⟨x,q,f⟩:=u
  dsimp only at *
  have ih:=UW c b m hb hm n1 n2 n3 k (j+1) (l++[x]) q f zaa hq zaD
  rw[show((j+1:Nat):Int)=(j:Int)+1 from by omega,List.append_assoc,List.singleton_append] at ih
  rw[<-Ac l [x]] at ih
  rw[AL];conv=>lhs;whnf
  refine tq ?_
  rw[g]
  refine tq ?_
  exact ih
theorem UX(c:Int)(hs:List Int)(b:List UInt8)(m:Nat)(hb:b.length<=1000000)(hm:m<=10)(n2 n3:Int):∀(k j:Nat) (l:List (El AB)) (p:Nat) (e:Int),j+k=m->p<=b.length->l.length+k<=20 ->
  Y E0 (.loop 85 1 0 5 [(2,.pa 0 0),(8,.i n2),(9,.i n3),(11,.pa 1 0),(12,.pa 2 0),(53,.i (m:Int)),(54,.i (j:Int))] [(0,some (.var [.i 0,.nil,.nil,.nil,.nil])),(1,some (.var [.sl .u8 b,.i (p:Int),.i e])),(2,some (.var [.i c,.nm 3,.nm 4,.nil,.nil])),(3,some (.row 3 .i64 hs)),(4,some (.row 113 AB l))])
   = some (.fin (.exit 2) 5 [(2,.pa 0 0),(8,.i n2),(9,.i n3),(11,.pa 1 0),(12,.pa 2 0)] [(0,some (.var [.i 0,.nil,.nil,.nil,.nil])),(1,some (.var [.sl .u8 b,.i ((OI b k p e).2.1:Int),.i (OI b k p e).2.2])),(2,some (.var [.i c,.nm 3,.nm 4,.nil,.nil])),(3,some (.row 3 .i64 hs)),(4,some (.row 113 AB (l++(OI b k p e).1)))])
 | 0,j,l,p,e,hj,hp,hl=>by
  obtain rfl:j=m:=zaa
  rw[OI,List.append_nil]
  rw[AL];conv=>lhs;whnf
  refine tq ?_
  with_reducible rfl
 | k+1,j,l,p,e,hj,hp,hl=>by
  have g1:=Ed b p e 2 zaa hp
  have k1:=FQ (e:=e) (size:=2) hp
  have g2:=Jr b (Dt b p e 2).2.1 (Dt b p e 2).2.2 128 zaa k1
  have k2:=JB (e:=(Dt b p e 2).2.2) (most:=128) k1
  have g3:=Jr b (Fg b (Dt b p e 2).2.1 (Dt b p e 2).2.2 128).2.1 (Fg b (Dt b p e 2).2.1 (Dt b p e 2).2.2 128).2.2 128 zaa k2
  have k3:=JB (e:=(Fg b (Dt b p e 2).2.1 (Dt b p e 2).2.2 128).2.2) (most:=128) k2
  rw[OI,gA]
  dsimp only
  generalize Dt b p e 2=u at *
  obtain⟨x1,q1,f1⟩:=u
  dsimp only at *
  generalize Fg b q1 f1 128=u at *
  obtain⟨x2,q2,f2⟩:=u
  dsimp only at *
  generalize Fg b q2 f2 128=u at *
  obtain⟨x3,q3,f3⟩:=u
  dsimp only at *
  have ih:=UX c hs b m hb hm n2 n3 k (j+1) (l++[(x1,x2,x3)]) q3 f3 zaa k3 zaD
  rw[show((j+1:Nat):Int)=(j:Int)+1 from by omega,List.append_assoc,List.singleton_append] at ih
  rw[<-Ac l [(x1,x2,x3)]] at ih
  rw[AL];conv=>lhs;whnf
  refine tq ?_
  rw[g1]
  refine tq ?_
  rw[g2]
  refine tq ?_
  rw[g3]
  refine tq ?_
  exact ih
theorem ZC(c:Int)(hs:List Int)(az:List (El AB))(b:List UInt8)(m:Nat)(hb:b.length<=1000000)(hm:m<=10)(n3:Int):∀(k j:Nat) (l:List Int) (p:Nat) (e:Int),j+k=m->p<=b.length->l.length+k<=20->(OA b k p e).2.2.2=false ->
  Y E0 (.loop 85 2 0 6 [(2,.pa 0 0),(9,.i n3),(11,.pa 1 0),(12,.pa 2 0),(72,.i (m:Int)),(73,.i (j:Int))] [(0,some (.var [.i 0,.nil,.nil,.nil,.nil])),(1,some (.var [.sl .u8 b,.i (p:Int),.i e])),(2,some (.var [.i c,.nm 3,.nm 4,.nm 5,.nil])),(3,some (.row 3 .i64 hs)),(4,some (.row 113 AB az)),(5,some (.row 3 .i64 l))])
   = some (.fin (.exit 4) 6 [(2,.pa 0 0),(9,.i n3),(11,.pa 1 0),(12,.pa 2 0)] [(0,some (.var [.i 0,.nil,.nil,.nil,.nil])),(1,some (.var [.sl .u8 b,.i ((OA b k p e).2.1:Int),.i (OA b k p e).2.2.1])),(2,some (.var [.i c,.nm 3,.nm 4,.nm 5,.nil])),(3,some (.row 3 .i64 hs)),(4,some (.row 113 AB az)),(5,some (.row 3 .i64 (l++(OA b k p e).1)))])
 | 0,j,l,p,e,hj,hp,hl,hf=>by
  obtain rfl:j=m:=zaa
  rw[OA,List.append_nil]
  rw[AL];conv=>lhs;whnf
  refine tq ?_
  with_reducible rfl
 | k+1,j,l,p,e,hj,hp,hl,hf=>by
  have g:=Ed b p e 8 zaa hp
  have hq:=FQ (e:=e) (size:=8) hp
  rw[OA] at hf ⊢
  generalize Dt b p e 8=u at *
  obtain⟨x,q,f⟩:=u
  dsimp only at *
  by_cases hc:f=0/\1099511627776<x
  ·rw[if_pos hc] at hf;cases hf
  rw[if_neg hc] at hf ⊢
  have ge:=Jq b q f
  have ih:=ZC c hs az b m hb hm n3 k (j+1) (l++[x]) q f zaa hq zaD hf
  rw[show((j+1:Nat):Int)=(j:Int)+1 from by omega,List.append_assoc,List.singleton_append] at ih
  rw[<-Ac l [x]] at ih
  by_cases h0:f=0
  ·have h1:x<=1099511627776:=Int.not_lt.1 fun h=>hc ⟨h0,h⟩
   rw[AL];conv=>lhs;whnf
   refine tq ?_
   rw[g]
   refine tq ?_
   rw[ge]
   refine tq ?_
   exact ih
  ·rw[AL];conv=>lhs;whnf
   refine tq ?_
   rw[g]
   refine tq ?_
   rw[ge]
   refine tq ?_
   exact ih
theorem bi(c:Int)(hs:List Int)(az:List (El AB))(b:List UInt8)(m:Nat)(hb:b.length<=1000000)(hm:m<=10)(n3:Int):∀(k j:Nat) (l:List Int) (p:Nat) (e:Int),j+k=m->p<=b.length->l.length+k<=20->(OA b k p e).2.2.2=true->∃(l':List Int) (q:Nat),
  Y E0 (.loop 85 2 0 6 [(2,.pa 0 0),(9,.i n3),(11,.pa 1 0),(12,.pa 2 0),(72,.i (m:Int)),(73,.i (j:Int))] [(0,some (.var [.i 0,.nil,.nil,.nil,.nil])),(1,some (.var [.sl .u8 b,.i (p:Int),.i e])),(2,some (.var [.i c,.nm 3,.nm 4,.nm 5,.nil])),(3,some (.row 3 .i64 hs)),(4,some (.row 113 AB az)),(5,some (.row 3 .i64 l))])
   = some (.fin .ret 6 [(2,.pa 0 0),(3,.i 1),(9,.i n3),(11,.pa 1 0),(12,.pa 2 0)] [(0,some (.var [.i 0,.nil,.nil,.nil,.nil])),(1,some (.var [.sl .u8 b,.i (q:Int),.i 0])),(2,some (.var [.i c,.nm 3,.nm 4,.nm 5,.nil])),(3,some (.row 3 .i64 hs)),(4,some (.row 113 AB az)),(5,some (.row 3 .i64 l'))])
 | 0,j,l,p,e,hj,hp,hl,hf=>by cases hf
 | k+1,j,l,p,e,hj,hp,hl,hf=>by
  have g:=Ed b p e 8 zaa hp
  have hq:=FQ (e:=e) (size:=8) hp
  rw[OA] at hf
  generalize Dt b p e 8=u at *
  obtain⟨x,q,f⟩:=u
  dsimp only at *
  have ge:=Jq b q f
  by_cases hc:f=0/\1099511627776<x
  ·obtain⟨rfl,hx⟩:=hc
   refine⟨l,q,?_⟩
   rw[AL];conv=>lhs;whnf
   refine tq ?_
   rw[g]
   refine tq ?_
   rw[ge]
   exact tq rfl
  ·rw[if_neg hc] at hf
   obtain⟨l',q',ih⟩:=bi c hs az b m hb hm n3 k (j+1) (l++[x]) q f zaa hq zaD hf
   refine⟨l',q',?_⟩
   rw[show((j+1:Nat):Int)=(j:Int)+1 from by omega] at ih
   rw[<-Ac l [x]] at ih
   by_cases h0:f=0
   ·have h1:x<=1099511627776:=Int.not_lt.1 fun h=>hc ⟨h0,h⟩
    rw[AL];conv=>lhs;whnf
    refine tq ?_
    rw[g]
    refine tq ?_
    rw[ge]
    refine tq ?_
    exact ih
   ·rw[AL];conv=>lhs;whnf
    refine tq ?_
    rw[g]
    refine tq ?_
    rw[ge]
    refine tq ?_
    exact ih
theorem oU(c:Int)(hs:List Int)(az:List (El AB))(is:List Int)(b:List UInt8)(m:Nat)(hb:b.length<=1000000)(hm:m<=10):∀(k j:Nat) (l:List (List UInt8)) (p:Nat) (e:Int),j+k=m->p<=b.length->l.length+k<=20 ->
  Y E0 (.loop 85 3 0 7 [(2,.pa 0 0),(11,.pa 1 0),(12,.pa 2 0),(104,.i (m:Int)),(105,.i (j:Int))] [(0,some (.var [.i 0,.nil,.nil,.nil,.nil])),(1,some (.var [.sl .u8 b,.i (p:Int),.i e])),(2,some (.var [.i c,.nm 3,.nm 4,.nm 5,.nm 6])),(3,some (.row 3 .i64 hs)),(4,some (.row 113 AB az)),(5,some (.row 3 .i64 is)),(6,some (.row 22 (.sl .u8) l))])
   = some (.fin (.exit 6) 7 [(2,.pa 0 0),(11,.pa 1 0),(12,.pa 2 0)] [(0,some (.var [.i 0,.nil,.nil,.nil,.nil])),(1,some (.var [.sl .u8 b,.i ((Qm b 1024 k p e).2.1:Int),.i (Qm b 1024 k p e).2.2])),(2,some (.var [.i c,.nm 3,.nm 4,.nm 5,.nm 6])),(3,some (.row 3 .i64 hs)),(4,some (.row 113 AB az)),(5,some (.row 3 .i64 is)),(6,some (.row 22 (.sl .u8) (l++(Qm b 1024 k p e).1)))])
 | 0,j,l,p,e,hj,hp,hl=>by
  obtain rfl:j=m:=zaa
  rw[Qm,List.append_nil]
  rw[AL];conv=>lhs;whnf
  refine tq ?_
  with_reducible rfl
 | k+1,j,l,p,e,hj,hp,hl=>by
  have g:=Jr b p e 1024 zaa hp
  have hq:=JB (e:=e) (most:=1024) hp
  rw[Qm]
  generalize Fg b p e 1024=u at *
  obtain⟨x,q,f⟩:=u
  dsimp only at *
  have ih:=oU c hs az is b m hb hm k (j+1) (l++[x]) q f zaa hq zaD
  rw[show((j+1:Nat):Int)=(j:Int)+1 from by omega,List.append_assoc,List.singleton_append] at ih
  rw[<-Ac l [x]] at ih
  rw[AL];conv=>lhs;whnf
  refine tq ?_
  rw[g]
  refine tq ?_
  exact ih
theorem Va(n nb:Int):Y E0 (.call 133 [.i n,.i nb] [])=some (.ret (.b (JZ nb n)) []):=by
 by_cases h1:n=nb
 ·have e:JZ nb n=true:=by unfold JZ;exact decide_eq_true (.inl h1)
  rw[e]
  refine tq ?_
  with_reducible rfl
 ·by_cases h2:nb<0
  ·by_cases h3:n<=8
   ·have e:JZ nb n=true:=by unfold JZ;exact decide_eq_true (.inr ⟨h2,h3⟩)
    rw[e]
    refine tq ?_
    with_reducible rfl
   ·have e:JZ nb n=false:=zbf
    rw[e]
    refine tq ?_
    with_reducible rfl
  ·have e:JZ nb n=false:=zbf
   rw[e]
   refine tq ?_
   with_reducible rfl
theorem A7j(a i:Nat)(hst:Y E0 (.call 127 [.sl .u8 b] [])=some (.ret (.tup [.i c,.i 0]) []))(hx:List.take (Ak b-5).toNat (List.drop (Int.toNat 5) b)=x)(hb:5<=b.length/\b.length<=2048)(hsh:Y E0 (.call 128 [.i c] [])=some (.ret (.tup [.i (h:Int),.i (a:Int),.i (i:Int),.i nb,.b true]) []))(hl:h<=10)(hal:a<=10)(hil:i<=10)(hnb:nb<=8)(hbad:(dI x h a i).2.2.2=true):Y E0 (.call 85 [.sl .u8 b] [])=some (.ret (.tup [rq 0 [] [] [] [],.i 1]) []):=by
 have hxl:x.length<=2048:=za7
 have k1:=bZ x h
 have k2:=bf x h a
 have k3:=ZB x h a i
 have k4:=bg x h a i
 have k5:=yZ x h a i
 have hn:=A7i x h a i
 have l0:=fun n1 n2 n3=>UW c x h zaa hl n1 n2 n3 h 0 [] 0 0 zaa (Nat.zero_le _) zaD
 have l1:=fun n2 n3=>UX c (dH x h).1 x a zaa hal n2 n3 a 0 [] (dH x h).2.1 (dH x h).2.2 zaa k1 zaD
 simp only[List.nil_append,show((0:Nat):Int)=0 from rfl] at l0 l1
 rw[show P8 x h 0 0=dH x h from rfl] at l0
 rw[show OI x a (dH x h).2.1 (dH x h).2.2=dA x h a from rfl] at l1
 obtain⟨l',q',l2⟩:=bi c (dH x h).1 (dA x h a).1 x i zaa hil nb i 0 [] (dA x h a).2.1 (dA x h a).2.2 zaa k2 zaD hbad
 rw[show((0:Nat):Int)=0 from rfl] at l2
 refine tq ?_
 rw[hst]
 refine tq ?_
 rw[hsh]
 refine tq ?_
 rw[LW _ AA]
 refine tq ?_
 (simp only[hx,Nat.reduceAdd]);rw[l0]
 refine tq ?_
 (simp only[Nat.reduceAdd]);rw[l1]
 refine tq ?_
 (simp only[Nat.reduceAdd]);rw[l2]
 exact tq rfl
theorem A7k(a i:Nat)(hst:Y E0 (.call 127 [.sl .u8 b] [])=some (.ret (.tup [.i c,.i 0]) []))(hx:List.take (Ak b-5).toNat (List.drop (Int.toNat 5) b)=x)(hb:5<=b.length/\b.length<=2048)(hsh:Y E0 (.call 128 [.i c] [])=some (.ret (.tup [.i (h:Int),.i (a:Int),.i (i:Int),.i nb,.b true]) []))(hl:h<=10)(hal:a<=10)(hil:i<=10)(hnb:nb<=8)(hbad:(dI x h a i).2.2.2=false)(h0:(dN x h a i).2.2=0)(hc:JZ nb (dN x h a i).1=false):Y E0 (.call 85 [.sl .u8 b] [])=some (.ret (.tup [rq 0 [] [] [] [],.i 1]) []):=by
 have hxl:x.length<=2048:=za7
 have k1:=bZ x h
 have k2:=bf x h a
 have k3:=ZB x h a i
 have k4:=bg x h a i
 have k5:=yZ x h a i
 have hn:=A7i x h a i
 have l0:=fun n1 n2 n3=>UW c x h zaa hl n1 n2 n3 h 0 [] 0 0 zaa (Nat.zero_le _) zaD
 have l1:=fun n2 n3=>UX c (dH x h).1 x a zaa hal n2 n3 a 0 [] (dH x h).2.1 (dH x h).2.2 zaa k1 zaD
 simp only[List.nil_append,show((0:Nat):Int)=0 from rfl] at l0 l1
 rw[show P8 x h 0 0=dH x h from rfl] at l0
 rw[show OI x a (dH x h).2.1 (dH x h).2.2=dA x h a from rfl] at l1
 have l2:=fun n3=>ZC c (dH x h).1 (dA x h a).1 x i zaa hil n3 i 0 [] (dA x h a).2.1 (dA x h a).2.2 zaa k2 zaD hbad
 simp only[List.nil_append,show((0:Nat):Int)=0 from rfl] at l2
 rw[show OA x i (dA x h a).2.1 (dA x h a).2.2=dI x h a i from rfl] at l2
 have gu:=Ed x (dI x h a i).2.1 (dI x h a i).2.2.1 1 zaa k3
 rw[show Dt x (dI x h a i).2.1 (dI x h a i).2.2.1 1=dN x h a i from rfl] at gu
 have ge:=Jq x (dN x h a i).2.1 (dN x h a i).2.2
 have hct:=Va (dN x h a i).1 nb
 rw[hc] at hct
 rw[h0] at gu ge
 refine tq ?_
 rw[hst]
 refine tq ?_
 rw[hsh]
 refine tq ?_
 rw[LW _ AA]
 refine tq ?_
 (simp only[hx,Nat.reduceAdd]);rw[l0]
 refine tq ?_
 (simp only[Nat.reduceAdd]);rw[l1]
 refine tq ?_
 (simp only[Nat.reduceAdd]);rw[l2]
 refine tq ?_
 rw[gu]
 refine tq ?_
 rw[ge]
 refine tq ?_
 rw[hct]
 conv=>lhs;whnf
 rw[DW];conv=>lhs;whnf
 rw[AL]
 conv=>lhs;whnf
theorem A7l(a i:Nat)(hst:Y E0 (.call 127 [.sl .u8 b] [])=some (.ret (.tup [.i c,.i 0]) []))(hx:List.take (Ak b-5).toNat (List.drop (Int.toNat 5) b)=x)(hb:5<=b.length/\b.length<=2048)(hsh:Y E0 (.call 128 [.i c] [])=some (.ret (.tup [.i (h:Int),.i (a:Int),.i (i:Int),.i nb,.b true]) []))(hl:h<=10)(hal:a<=10)(hil:i<=10)(hnb:nb<=8)(hbad:(dI x h a i).2.2.2=false)(hc:(dN x h a i).2.2=0->JZ nb (dN x h a i).1=true):Y E0 (.call 85 [.sl .u8 b] [])=some (.ret (bif ED (PI x (dB x h a i).2.1 (dB x h a i).2.2) 0 then .tup [rq c (dH x h).1 (dA x h a).1 (dI x h a i).1 (dB x h a i).1,.i 0] else .tup [rq 0 [] [] [] [],.i (PI x (dB x h a i).2.1 (dB x h a i).2.2)]) []):=by
 have hxl:x.length<=2048:=za7
 have k1:=bZ x h
 have k2:=bf x h a
 have k3:=ZB x h a i
 have k4:=bg x h a i
 have k5:=yZ x h a i
 have hn:=A7i x h a i
 have l0:=fun n1 n2 n3=>UW c x h zaa hl n1 n2 n3 h 0 [] 0 0 zaa (Nat.zero_le _) zaD
 have l1:=fun n2 n3=>UX c (dH x h).1 x a zaa hal n2 n3 a 0 [] (dH x h).2.1 (dH x h).2.2 zaa k1 zaD
 simp only[List.nil_append,show((0:Nat):Int)=0 from rfl] at l0 l1
 rw[show P8 x h 0 0=dH x h from rfl] at l0
 rw[show OI x a (dH x h).2.1 (dH x h).2.2=dA x h a from rfl] at l1
 have l2:=fun n3=>ZC c (dH x h).1 (dA x h a).1 x i zaa hil n3 i 0 [] (dA x h a).2.1 (dA x h a).2.2 zaa k2 zaD hbad
 simp only[List.nil_append,show((0:Nat):Int)=0 from rfl] at l2
 rw[show OA x i (dA x h a).2.1 (dA x h a).2.2=dI x h a i from rfl] at l2
 have gu:=Ed x (dI x h a i).2.1 (dI x h a i).2.2.1 1 zaa k3
 rw[show Dt x (dI x h a i).2.1 (dI x h a i).2.2.1 1=dN x h a i from rfl] at gu
 have ge:=Jq x (dN x h a i).2.1 (dN x h a i).2.2
 have hn8:(dN x h a i).1<=8:=by
  by_cases h0:(dN x h a i).2.2=0
  ·have h1:=hc h0
   unfold JZ at h1
   have:=of_decide_eq_true h1
   omega
  ·rw[show(dN x h a i).1=0 from A51 h0];decide
 have l3:=oU c (dH x h).1 (dA x h a).1 (dI x h a i).1 x (dN x h a i).1.toNat zaa zaa (dN x h a i).1.toNat 0 [] (dN x h a i).2.1 (dN x h a i).2.2 zaa k4 zaD
 rw[show Qm x 1024 (dN x h a i).1.toNat (dN x h a i).2.1 (dN x h a i).2.2=dB x h a i from rfl,List.nil_append,show((dN x h a i).1.toNat:Int)=(dN x h a i).1 from by omega,show((0:Nat):Int)=0 from rfl] at l3
 have gz:=UI x (dB x h a i).2.1 (dB x h a i).2.2 zaa k5
 have hct:=Va (dN x h a i).1 nb
 by_cases hz:PI x (dB x h a i).2.1 (dB x h a i).2.2=0
 ·rw[Dz hz,cond_true]
  rw[hz] at gz
  by_cases h0:(dN x h a i).2.2=0
  ·rw[hc h0] at hct
   rw[h0] at gu ge l3
   refine tq ?_
   rw[hst]
   refine tq ?_
   rw[hsh]
   refine tq ?_
   rw[LW _ AA]
   refine tq ?_
   (simp only[hx,Nat.reduceAdd]);rw[l0]
   refine tq ?_
   (simp only[Nat.reduceAdd]);rw[l1]
   refine tq ?_
   (simp only[Nat.reduceAdd]);rw[l2]
   refine tq ?_
   rw[gu]
   refine tq ?_
   rw[ge]
   refine tq ?_
   rw[hct]
   conv=>lhs;whnf
   rw[DW];conv=>lhs;whnf
   rw[AL]
   conv=>lhs;whnf
   try dsimp -iota -beta -eta -zeta only
   rw[Du]
   (simp only[Nat.reduceAdd]);rw[l3]
   refine tq ?_
   rw[gz]
   exact tq rfl
  ·refine tq ?_
   rw[hst]
   refine tq ?_
   rw[hsh]
   refine tq ?_
   rw[LW _ AA]
   refine tq ?_
   (simp only[hx,Nat.reduceAdd]);rw[l0]
   refine tq ?_
   (simp only[Nat.reduceAdd]);rw[l1]
   refine tq ?_
   (simp only[Nat.reduceAdd]);rw[l2]
   refine tq ?_
   rw[gu]
   refine tq ?_
   rw[ge]
   refine tq ?_
   (simp only[Nat.reduceAdd]);rw[l3]
   refine tq ?_
   rw[gz]
   exact tq rfl
 ·rw[Aa hz,cond_false]
  by_cases h0:(dN x h a i).2.2=0
  ·rw[hc h0] at hct
   rw[h0] at gu ge l3
   refine tq ?_
   rw[hst]
   refine tq ?_
   rw[hsh]
   refine tq ?_
   rw[LW _ AA]
   refine tq ?_
   (simp only[hx,Nat.reduceAdd]);rw[l0]
   refine tq ?_
   (simp only[Nat.reduceAdd]);rw[l1]
   refine tq ?_
   (simp only[Nat.reduceAdd]);rw[l2]
   refine tq ?_
   rw[gu]
   refine tq ?_
   rw[ge]
   refine tq ?_
   rw[hct]
   conv=>lhs;whnf
   rw[DW];conv=>lhs;whnf
   rw[AL]
   conv=>lhs;whnf
   try dsimp -iota -beta -eta -zeta only
   rw[Du]
   (simp only[Nat.reduceAdd]);rw[l3]
   refine tq ?_
   rw[gz]
   exact tq rfl
  ·refine tq ?_
   rw[hst]
   refine tq ?_
   rw[hsh]
   refine tq ?_
   rw[LW _ AA]
   refine tq ?_
   (simp only[hx,Nat.reduceAdd]);rw[l0]
   refine tq ?_
   (simp only[Nat.reduceAdd]);rw[l1]
   refine tq ?_
   (simp only[Nat.reduceAdd]);rw[l2]
   refine tq ?_
   rw[gu]
   refine tq ?_
   rw[ge]
   refine tq ?_
   (simp only[Nat.reduceAdd]);rw[l3]
   refine tq ?_
   rw[gz]
   exact tq rfl
end Go.Proofs.YtlpkjhhfhannpaaGreatDoor
