/-
  Own texts, laid together for this claim: contracts of functions of the program and its references, used by the statements of this seat.
-/
import Derived.Test.YtnhgnfdbdflhcaaGreatDoorMse
set_option linter.all false
set_option maxHeartbeats 40000000
set_option maxRecDepth 100000
namespace Go.Ax
abbrev Qh(a:Att):List AV:=[.sl .u8 a.key,.sl .u8 a.nonce,.i a.resets,.i a.restarts,.i a.clock,.b a.safe,.i a.updates,.i a.s0,.i a.s1,.sl .u8 a.digest]
theorem Bg:OC.length=4:=rfl
end Go.Ax
namespace Go.Ax
open Go.Eng
theorem VV(a:Att)(h1:a.key.length<=10000)(h2:a.nonce.length<=10000)(h3:a.digest.length<=10000):(GV a).length<=100000:=by
 unfold GV
 simp only[AO,AP,AB,AC,List.length_append,List.length_cons,List.length_nil,OC]
 omega
end Go.Ax
namespace Go.Ax
open Go Go.Eng Go.RowKit
variable {ks:List (El Ja)}{l:List (El H5)}{ob:List (El objT)}{α:Type}{p:Pub}{a k h:Int}{s:MS}
def RI(l:List (El objT)):Prop:=l.length=3/\∀ x∈l,FZ x
def kR(l:List (El Ja)):Prop:=l.length<=8/\∀ x∈l,G6 x
theorem uT{l:List (El objT)}{n:Nat}{x:El objT}(h:RI l)(hx:FZ x):RI (l.set n x):=by
 refine⟨by simp[h.1],fun y hy=>?_⟩
 rcases List.mem_or_eq_of_mem_set hy with hy|rfl
 ·exact h.2 y hy
 ·exact hx
theorem uU{s:Sen}{bl:List (List UInt8)}(hob:RI ob)(hx:FZ (A4k p s h)):RI (IU ob p s h bl).1:=by
 unfold IU
 split
 ·exact uT hob hx
 ·exact hob
theorem A1f{s:Sen}(ho:p.policy.length<=32)(hu:p.unique.length<=32)(hh:0<=p.height/\p.height<=3)(h1:s.auth.length<=32)(h2:s.seed.length<=32)(h3:s.data.length<=128):FZ (A4k p s h):=⟨ho,hu,h1,h2,h3,hh.1,hh.2⟩
theorem A37{secret auth data:List UInt8}(he:(Bq secret p auth data).2.2=0):(Bq secret p auth data).1.policy.length<=32/\0<=(Bq secret p auth data).1.height/\(Bq secret p auth data).1.height<=3:=by
 unfold Bq at he ⊢
 split at he
 ·rename_i h;exact absurd he h
 ·rename_i h0
  rw[if_neg h0]
  have ho:=dE (Classical.not_not.1 h0)
  split at he
  ·cases he
  ·rename_i h1
   rw[if_neg h1]
   split at he
   ·cases he
   ·rename_i h2
    rw[if_neg h2]
    exact⟨ho.policy,ho.height⟩
theorem A1g{sd:List (List UInt8)}{t:Int}{o auth d:List UInt8}(hob:RI ob):RI (En sd ob h k a t o auth d).1:=by
 unfold En
 split
 ·dsimp only
  split
  ·exact hob
  ·rename_i hz
   have hl:=PU (secret:=FK (sd.getD h.toNat []) k a t o d) (auth:=auth) (data:=d) (p:=⟨k,a,t,o,[]⟩)
   have hb:=A37 (Classical.not_not.1 hz)
   exact uU hob (A1f hb.1 hl.1 hb.2 hl.2.2.1 hl.2.2.2.1 hl.2.2.2.2)
 ·exact hob
theorem A1h{b:List UInt8}(h:(Fe b).2=0):Bv (Fe b).1=0:=(A15 (p:=(Fe b).1) (Prod.ext rfl h)).2
theorem A38{par:Sen}{hier:Int}{pub priv:List UInt8}(hob:RI ob):RI (JZ ob par hier pub priv).1:=by
 unfold JZ
 split
 ·exact hob
 ·rename_i h1
  split
  ·exact hob
  ·have hl:=xO par (Fe pub).1 priv
   have ho:=dE (A1h (Classical.not_not.1 h1))
   exact uU hob (A1f ho.policy ho.unique ho.height hl.1 hl.2.1 hl.2.2)
theorem uV{u:List UInt8}(hk:kR ks)(hu:u.length<=32)(hh:0<=h/\h<=3):kR (Ee ks u h).1:=by
 unfold Ee
 split
 ·rename_i hc
  split
  ·exact hk
  ·rename_i hw
   have hm:ks.getD (keyAt u ks) ([],0)∈ks:=by simp only[List.getD,List.getElem?_eq_getElem hc,Option.getD_some];exact List.getElem_mem _
   have hx:=hk.2 _ hm
   have h8:(2:Int)^h.toNat<=8:=by
    have h3:h.toNat<=3:=zaa
    have:∀ n<=3,(2:Int)^n<=8:=zal
    exact this _ h3
   generalize ks.getD (keyAt u ks) ([],0)=x at *
   obtain⟨un,us⟩:=x
   simp only[G6,DI] at hx
   refine⟨by simp[hk.1],fun y hy=>?_⟩
   rcases List.mem_or_eq_of_mem_set hy with hy|rfl
   ·exact hk.2 y hy
   ·have hw':¬(2:Int)^h.toNat<=us:=hw
    generalize (2:Int)^h.toNat=W at h8 hw'
    have key:∀ q:Int,0<=q->¬W<=q->0<=q+1/\q+1<=1000:=fun q h1 h2=>zaa
    exact⟨hx.1,key us hx.2.1 hw'⟩
 ·split
  ·exact hk
  ·rename_i h8
   refine⟨by simp;omega,fun y hy=>?_⟩
   rcases List.mem_append.1 hy with hy|hy
   ·exact hk.2 y hy
   ·obtain rfl:=List.mem_singleton.1 hy
    exact⟨hu,by simp only;decide,by simp only;decide⟩
noncomputable def Gp(ks:List (El Ja))(p1 p2 p3:Int)(p5 s2 m:List UInt8):List (El Ja)×Ans :=
 if p1≠2 then(ks,⟨19,[],[]⟩) else if BH .and p2 4≠0 then(ks,⟨20,[],[]⟩) else if 128<m.length then(ks,⟨4,[],[]⟩)
 else if(Ee ks p5 p3).2.2≠0 then(ks,⟨(Ee ks p5 p3).2.2,[],[]⟩) else((Ee ks p5 p3).1,⟨0,[],[Ej s2 p3 (Ee ks p5 p3).2.1 m]⟩)
noncomputable def FC(ks:List (El Ja))(p1 p2 p3:Int)(p5 s2 m:List UInt8)(e:Int)(a:Att):List (El Ja)×Ans :=
 if p1≠2 then(ks,⟨19,[],[]⟩) else if BH .and p2 4=0 then(ks,⟨20,[],[]⟩) else if 128<m.length then(ks,⟨4,[],[]⟩)
 else if e≠0 then(ks,⟨e,[],[]⟩)
 else if(Ee ks p5 p3).2.2≠0 then(ks,⟨(Ee ks p5 p3).2.2,[],[]⟩) else((Ee ks p5 p3).1,⟨0,[],[GV a,Ej s2 p3 (Ee ks p5 p3).2.1 (GV a)]⟩)
theorem A1i{p1 p2 p3:Int}{p5 s2 m:List UInt8}(hk:kR ks)(hu:p5.length<=32)(hh:0<=p3/\p3<=3):kR (Gp ks p1 p2 p3 p5 s2 m).1:=by
 unfold Gp
 (repeat' split)<;>first|exact hk|exact uV hk hu hh
theorem xQ{p1 p2 p3:Int}{p5 s2 m:List UInt8}{e:Int}{a:Att}(hk:kR ks)(hu:p5.length<=32)(hh:0<=p3/\p3<=3):kR (FC ks p1 p2 p3 p5 s2 m e a).1:=by
 unfold FC
 (repeat' split)<;>first|exact hk|exact uV hk hu hh
theorem Kp.ob_{l:List (El objT)}(h:Kp a k s)(hl:RI l):Kp a k {s with ob:=l}:={h with obl:=hl.1,obm:=hl.2}
theorem Kp.ks_{l:List (El Ja)}(h:Kp a k s)(hl:kR l):Kp a k {s with ks:=l}:={h with ksl:=hl.1,ksm:=hl.2}
theorem Kp.obs(h:Kp a k s):RI s.ob:=⟨h.obl,h.obm⟩
theorem Kp.kss(h:Kp a k s):kR s.ks:=⟨h.ksl,h.ksm⟩
def A5g(c n0 n1 n2 n3:Int):Prop:=∃ a b d,shp c=some (a,b,d,n3)/\n0=(a:Nat)/\n1=(b:Nat)/\n2=(d:Nat)
theorem Wq{l:List α}{p:α->Prop}(h:∀ i:Int,0<=i->∀ x,BZ l i=some x->p x):∀ x∈l,p x:=by
 intro x hx
 obtain⟨n,hn,rfl⟩:=List.mem_iff_getElem.1 hx;exact h n zaa _ (GY hn)
theorem eQ{l:List α}{p:α->Prop}{j:Int}{x0:α}(g:BZ l j=some x0)(hx:p x0)(h:∀ i:Int,j+1<=i->∀ x,BZ l i=some x->p x):∀ i:Int,j<=i->∀ x,BZ l i=some x->p x:=by
 intro i hi x hg
 by_cases hij:i=j
 ·subst hij;rw[g] at hg;cases hg;exact hx
 ·exact h i zaa x hg
theorem eU{l:List α}{p:α->Prop}{j:Int}(hj:(l.length:Int)<=j):∀ i:Int,j<=i->∀ x,BZ l i=some x->p x:=by
 intro i hi x hg
 rw[wB (.inr zaa)] at hg
 cases hg
theorem A4s{c:Int}{hs:List Int}{az:List (El Aq)}{is:List Int}{bs:List (List UInt8)}{n0 n1 n2 n3:Int}(hf:Few hs az is bs)(h:A5g c n0 n1 n2 n3)(e0:(hs.length:Int)=n0)(e1:(az.length:Int)=n1)(e2:(is.length:Int)=n2)(e3:(bs.length:Int)=n3\/n3 = -1/\0<=(bs.length:Int)/\(bs.length:Int)<=8)(h0:∀ i:Int,0<=i->∀ x,BZ hs i=some x->0<=x/\x<=65535)(h1:∀ i:Int,0<=i->∀ x,BZ az i=some x->(0:Int)<=x.1/\(x.1:Int)<=65535)(h2:∀ i:Int,0<=i->∀ x,BZ is i=some x->0<=x/\x<=1099511627776)(h3:∀ x∈bs,x.length<=1024):Rok c hs az is bs:=by
 obtain⟨a,b,d,hq,rfl,rfl,rfl⟩:=h
 obtain rfl:hs.length=a:=zaa
 obtain rfl:az.length=b:=zaa
 obtain rfl:is.length=d:=zaa
 exact⟨hf,⟨n3,hq,by omega⟩,Wq h0,Wq h1,Wq h2,h3⟩
theorem Kp.rb_{c:List (List (List UInt8))}(h:Kp a k s)(hk:k<=900)(hr:Ox a c)(hn:s.rb≠[]->c≠[]):Kp a (k+1) {s with rb:=c,ru:=s.ru+1}:={h.up (k':=k+1) (by have:=h.kk;omega) with rb:=hr,ru:=(by show 0<=s.ru+1/\s.ru+1<=k+1;have:=h.ru;omega),st:=fun h1 h2=>hn (h.st h1 h2)}
def Yk(l:List (El H5)):Prop:=l.length<=6/\∀ x∈l,GL x
theorem Kp.ixs(h:Kp a k s):Yk s.ix:=⟨h.ixl,h.ixm⟩
theorem uX{x:El H5}(h:Yk l)(hl:(l.length:Int)<6)(hx:GL x):Yk (BI (BI [] l) [x]):=by
 rw[Aa,Aa,List.nil_append]
 refine⟨by simp;omega,fun y hy=>?_⟩
 rcases List.mem_append.1 hy with hy|hy
 ·exact h.2 y hy
 ·obtain rfl:=List.mem_singleton.1 hy;exact hx
theorem NF{i:Int}{x:El H5}(h:Yk l)(hx:GL x):Yk (Bf (BI [] l) i x):=by
 rw[Aa,List.nil_append]
 obtain⟨h1,h2⟩:=jO (i:=i) h.2 hx;exact⟨by rw[h1];exact h.1,h2⟩
theorem lH{i j n:Nat}(h:Yk l)(hij:i<=j):Yk (BI (BI [] (l.take i)) ((l.drop j).take n)):=by
 rw[Aa,Aa,List.nil_append]
 refine⟨by have:=h.1;simp;omega,fun y hy=>?_⟩
 rcases List.mem_append.1 hy with hy|hy
 ·exact h.2 y (List.mem_of_mem_take hy)
 ·exact h.2 y (List.mem_of_mem_drop (List.mem_of_mem_take hy))
theorem Kp.clear(h:Kp a k s)(hk:k<=900){x0 x1 R x2 x3:List UInt8}(f0:x0.length=32)(f1:x1.length=32)(fR:R.length=32)(f2:x2.length<=32)(f3:x3.length<=32):Kp a (k+1) {s with sd:=[x0,R,x1],au:=[x2,[],x3,[]],ix:=[],l1:=0,l2:=5,l3:=100,l4:=0,l5:=0,l6:=1000,dr:=s.dr+1,ss:=Bd 3 (0,[],[],0,0,0,0,false),ob:=Bd 3 ((0,0,0,[],[]),([],[],[]),0),rl:=[],wl:=[]}:=by
 have h0:=h.kk
 have hd:=h.dr
 have h3:=A1B (n:=3) (x:=((0,[],[],0,0,0,0,false):El sesT)) (p:=Gn) zal ⟨by decide,by decide⟩
 have h4:=A1B (n:=3) (x:=(((0,0,0,[],[]),([],[],[]),0):El objT)) (p:=FZ) zal ⟨by decide,by decide,by decide,by decide,by decide,by decide,by decide⟩
 have e3:∀ {n:Nat},(n:Int)=3->n=3:=fun h=>zaa
 exact {h.up (k':=k+1) zaa with sdl:=rfl,sdm:=(by simp only[List.forall_mem_cons,List.not_mem_nil,false_implies,implies_true,and_true];exact⟨f0,fR,f1⟩),aul:=rfl,aum:=(by simp only[List.forall_mem_cons,List.not_mem_nil,false_implies,implies_true,and_true,List.length_nil];exact⟨f2,by decide,f3,by decide⟩),ixl:=zao,ixm:=zao,lk:=(show NQ 0 5 100 0 0 1000 from by unfold NQ;decide),dr:=zay,ssl:=e3 h3.1,ssm:=h3.2,obl:=e3 h4.1,obm:=h4.2,rl:=(by simp only[List.length_nil];omega),wl:=(by simp only[List.length_nil];omega)}
end Go.Ax
namespace Go.Proofs.YtnhgnfdbdflhcaaGreatDoor
open Go Go.Ax Go.Eng
section
attribute [local irreducible] Cj Dt D9 DT DK BH Du Ey Fh FD Et D7 CV Df DX and' Dk DU CG Ba Bl CJ CS BK BM BB BG Dv G7 Dw EM Dl Bh CO Bz C9 Bo BD Bi BO Be BZ Dx Bf DL Bd BI D6 Dy fits Dz Dn AZ Ap BL
attribute [local irreducible] E5 CP Bq nameB ES Em Ar FK En FH Eu Fe CE IU Ej Gf
variable (sd au:List (List UInt8))(en:List UInt8)(ac re rs ck:Int)(od:Bool)(sb:List (List (List UInt8)))(su mc:Int)(ix:List (El H5))(l1 l2 l3 l4 l5 l6:Int)(ks:List (El Ja))(st sp:Bool)(rb:List (List (List UInt8)))(ru vc:Int)(sf:Bool)(dr:Int)(ss:List (El sesT))(ob:List (El objT))(rl wl:List Int)
theorem FV(c h:Int)(hs:List Int)(az:List (El Aq))(is:List Int)(bs:List (List UInt8))(p1 p2 p3:Int)(p4 p5 s1 s2 s3:List UInt8)(hr:Int)(hl:ob.length<=1000)(hhs:hs.length<=100)(hx:GK ob h=some ((p1,p2,p3,p4,p5),(s1,s2,s3),hr)):
  Y E0 (.call 52 [(sX sd au en ac re rs ck od sb su mc ix l1 l2 l3 l4 l5 l6 ks st sp rb ru vc sf dr ss ob rl wl),.agg [.i c,.sl .i64 (h::hs),.sl Aq az,.sl .i64 is,.sl (.sl .u8) bs]] [])=some (.ret (.agg [.i p1,.i p2,.i p3,.sl .u8 p4,.sl .u8 p5,.sl .u8 s1,.sl .u8 s2,.sl .u8 s3,.i hr]) []):=by
 have hi:MP h ob=h-512:=by unfold MP;rw[if_neg (by rw[hx];simp)]
 have hlt:=SL h ob
 have h0:0<=MP h ob:=by
  rw[hi]
  unfold GK at hx
  split at hx
  ·omega
  ·cases hx
 obtain⟨x,e1,_,hg⟩:=QZ h0;rw[hx] at e1
 obtain rfl:=Option.some.inj e1
 refine tq ?_;rw[Hq (hl:=A8) ..];refine tq ?_;rw[hg];exact tq rfl
theorem Yg(n:Int)(hen:en.length<=100000):Y E0 (.call 129 [(sX sd au en ac re rs ck od sb su mc ix l1 l2 l3 l4 l5 l6 ks st sp rb ru vc sf dr ss ob rl wl),.i n] [])=some (.ret (.tup [(sX sd au en ac re rs ck od sb su mc ix l1 l2 l3 l4 l5 l6 ks st sp rb ru vc sf (Cj dr 1) ss ob rl wl),.sl .u8 (Vt en re rs dr n)]) []):=by
 refine tq ?_;rw[CQ _ _ _ A8];refine tq ?_;rw[CQ _ _ _ A8];refine tq ?_;rw[CQ _ _ _ A8];refine tq ?_;rw[show strOf {data := #[114,97,110,100,111,109]}=uJ from rfl,EZ _ _ _ _ zaa zal (by simp only[AP,List.length_nil];omega)]
 refine tq ?_
 rfl
theorem oL(c h k a t:Int)(hs:List Int)(az:List (El Aq))(o u d:List UInt8)(p1 p2 p3:Int)(p4 p5 s1 s2 s3:List UInt8)(hr:Int)(hl:ob.length<=1000)(hhs:hs.length<=100)(hx:GK ob h=some ((p1,p2,p3,p4,p5),(s1,s2,s3),hr))(h1:p1=1)(ho:o.length<=50000)(hd:d.length<=50000)(h2:s2.length<=1000)(hen:en.length<=1000)(hdr:0<=dr/\dr<=1000000):
  Y E0 (.call 62 [(sX sd au en ac re rs ck od sb su mc ix l1 l2 l3 l4 l5 l6 ks st sp rb ru vc sf dr ss ob rl wl),.agg [.i c,.sl .i64 (h::hs),.sl Aq az,.sl .i64 [k,a,t],.sl (.sl .u8) [o,u,d]]] [])=some (.ret (.tup [(sX sd au en ac re rs ck od sb su mc ix l1 l2 l3 l4 l5 l6 ks st sp rb ru vc sf ((JL ⟨s1,s2,s3⟩ en re rs dr k a t o u d).1) ss ob rl wl),.agg (wW (JL ⟨s1,s2,s3⟩ en re rs dr k a t o u d).2)]) []):=by
 have hR:(Vt en re rs dr 32).length=32:=by unfold Vt;rw[Fq zaa];rfl
 unfold JL
 generalize hRR:Vt en re rs dr 32=R at *
 have hlen:=PU (secret:=R) (auth:=u) (data:=d) (p:=⟨k,a,t,o,[]⟩)
 have em:=SE R k a t o [] u d zaa
 generalize Bq R ⟨k,a,t,o,[]⟩ u d=M at *
 obtain⟨⟨qk,qa,qt,qo,qu⟩,⟨qx,qy,qz⟩,e⟩:=M
 dsimp only[Yu,dG] at *
 by_cases he:e=0
 ·subst he;rw[if_neg zao];refine tq ?_;rw[FV _ _ _ _ _ _ _ _ _ _ _ _ _ _ _ _ _ _ _ _ _ _ _ _ _ _ _ _ _ _ _ _ _ _ _ _ _ _ _ _ _ _ _ _ _ hl hhs hx];refine tq ?_;rw[Yg _ _ _ _ _ _ _ _ _ _ _ _ _ _ _ _ _ _ _ _ _ _ _ _ _ _ _ _ _ _ _ zaa,hRR];refine tp ?_;rw[Nv (hl:=A8) ..];refine tp ?_;rw[em];refine tp ?_;rw[I8 _ _ _ _ _ A8 A8];refine tp ?_;rw[YT _ _ _ _ _ _ _ _ _ _ _ A8 A8 A8];exact tq rfl
 ·rw[if_pos he];refine tq ?_;rw[FV _ _ _ _ _ _ _ _ _ _ _ _ _ _ _ _ _ _ _ _ _ _ _ _ _ _ _ _ _ _ _ _ _ _ _ _ _ _ _ _ _ _ _ _ _ hl hhs hx];refine tq ?_;rw[Yg _ _ _ _ _ _ _ _ _ _ _ _ _ _ _ _ _ _ _ _ _ _ _ _ _ _ _ _ _ _ _ zaa,hRR];refine tp ?_;rw[Nv (hl:=A8) ..];refine tp ?_;rw[em];refine tp ?_;rw[EI ..];exact tq rfl
theorem dn(c h:Int)(hs:List Int)(az:List (El Aq))(is:List Int)(bs:List (List UInt8))(p1 p2 p3:Int)(p4 p5 s1 s2 s3:List UInt8)(hr:Int)(hl:ob.length<=1000)(hhs:hs.length<=100)(hx:GK ob h=some ((p1,p2,p3,p4,p5),(s1,s2,s3),hr))(h1:p1≠1):
  Y E0 (.call 62 [(sX sd au en ac re rs ck od sb su mc ix l1 l2 l3 l4 l5 l6 ks st sp rb ru vc sf dr ss ob rl wl),.agg [.i c,.sl .i64 (h::hs),.sl Aq az,.sl .i64 is,.sl (.sl .u8) bs]] [])=some (.ret (.tup [(sX sd au en ac re rs ck od sb su mc ix l1 l2 l3 l4 l5 l6 ks st sp rb ru vc sf dr ss ob rl wl),.agg [.i 19,.sl .i64 [],.sl (.sl .u8) [],.sl (.sl .u8) []]]) []):=by
 refine tq ?_;rw[FV _ _ _ _ _ _ _ _ _ _ _ _ _ _ _ _ _ _ _ _ _ _ _ _ _ _ _ _ _ _ _ _ _ _ _ _ _ _ _ _ _ _ _ _ _ hl hhs hx];refine tq ?_;rw[EI ..];exact tq rfl
theorem A1d(c h:Int)(hs:List Int)(az:List (El Aq))(is:List Int)(bp bq:List UInt8)(p1 p2 p3:Int)(p4 p5 s1 s2 s3:List UInt8)(hr:Int)(hl:ob.length<=1000)(hhs:hs.length<=100)(hx:GK ob h=some ((p1,p2,p3,p4,p5),(s1,s2,s3),hr))(h1:p1=1)(hb:bp.length<=100000)(hq:bq.length<=100000)(h2:s2.length<=1000):
  Y E0 (.call 64 [(sX sd au en ac re rs ck od sb su mc ix l1 l2 l3 l4 l5 l6 ks st sp rb ru vc sf dr ss ob rl wl),.agg [.i c,.sl .i64 (h::hs),.sl Aq az,.sl .i64 is,.sl (.sl .u8) [bp,bq]]] [])=some (.ret (.tup [(sX sd au en ac re rs ck od sb su mc ix l1 l2 l3 l4 l5 l6 ks st sp rb ru vc sf dr ss ((JZ ob ⟨s1,s2,s3⟩ hr bp bq).1) rl wl),.agg (wW (JZ ob ⟨s1,s2,s3⟩ hr bp bq).2)]) []):=by
 have ed:=VM bp zaa
 have hdl:=uM bp
 unfold JZ
 generalize Fe bp=D at *
 obtain⟨⟨qk,qa,qt,qo,qu⟩,e⟩:=D
 dsimp only[Yu] at *
 by_cases he:e=0
 ·subst he;rw[if_neg zao]
  have eo:=oK s1 s2 s3 qk qa qt qo qu bq zaa zaa zaa zaa
  generalize Eu ⟨s1,s2,s3⟩ ⟨qk,qa,qt,qo,qu⟩ bq=O at *
  obtain⟨⟨qx,qy,qz⟩,e⟩:=O
  dsimp only[dG] at *
  by_cases he:e=0
  ·subst he;rw[if_neg zao]
   unfold IU
   have hfl:=VJ ob
   by_cases hf:EK ob<ob.length
   ·rw[if_pos hf];refine tq ?_;rw[FV _ _ _ _ _ _ _ _ _ _ _ _ _ _ _ _ _ _ _ _ _ _ _ _ _ _ _ _ _ _ _ _ _ _ _ _ _ _ _ _ _ _ _ _ _ hl hhs hx];refine tq ?_;rw[ed];refine tq ?_;rw[eo];refine tq ?_;rw[UQ _ _ _ _ _ _ _ _ _ _ _ _ _ _ _ _ _ _ _ _ _ _ _ _ _ _ _ _ _ _ hl,if_pos hf];refine tq ?_;rw[di (hl:=A8) (hk:=A8) ..];refine tp ?_;rw[Ff _ _ _ _ _ A8 A8];refine tq ?_
    rfl
   ·rw[if_neg hf];refine tq ?_;rw[FV _ _ _ _ _ _ _ _ _ _ _ _ _ _ _ _ _ _ _ _ _ _ _ _ _ _ _ _ _ _ _ _ _ _ _ _ _ _ _ _ _ _ _ _ _ hl hhs hx];refine tq ?_;rw[ed];refine tq ?_;rw[eo];refine tq ?_;rw[UQ _ _ _ _ _ _ _ _ _ _ _ _ _ _ _ _ _ _ _ _ _ _ _ _ _ _ _ _ _ _ hl,if_neg hf];refine tq ?_;rw[EI ..];exact tq rfl
  ·rw[if_pos he];refine tq ?_;rw[FV _ _ _ _ _ _ _ _ _ _ _ _ _ _ _ _ _ _ _ _ _ _ _ _ _ _ _ _ _ _ _ _ _ _ _ _ _ _ _ _ _ _ _ _ _ hl hhs hx];refine tq ?_;rw[ed];refine tq ?_;rw[eo];refine tq ?_;rw[EI ..];exact tq rfl
 ·rw[if_pos he];refine tq ?_;rw[FV _ _ _ _ _ _ _ _ _ _ _ _ _ _ _ _ _ _ _ _ _ _ _ _ _ _ _ _ _ _ _ _ _ _ _ _ _ _ _ _ _ _ _ _ _ hl hhs hx];refine tq ?_;rw[ed];refine tq ?_;rw[EI ..];exact tq rfl
theorem oM(c h:Int)(hs:List Int)(az:List (El Aq))(is:List Int)(bs:List (List UInt8))(p1 p2 p3:Int)(p4 p5 s1 s2 s3:List UInt8)(hr:Int)(hl:ob.length<=1000)(hhs:hs.length<=100)(hx:GK ob h=some ((p1,p2,p3,p4,p5),(s1,s2,s3),hr))(h1:p1≠1):
  Y E0 (.call 64 [(sX sd au en ac re rs ck od sb su mc ix l1 l2 l3 l4 l5 l6 ks st sp rb ru vc sf dr ss ob rl wl),.agg [.i c,.sl .i64 (h::hs),.sl Aq az,.sl .i64 is,.sl (.sl .u8) bs]] [])=some (.ret (.tup [(sX sd au en ac re rs ck od sb su mc ix l1 l2 l3 l4 l5 l6 ks st sp rb ru vc sf dr ss ob rl wl),.agg [.i 19,.sl .i64 [],.sl (.sl .u8) [],.sl (.sl .u8) []]]) []):=by
 refine tq ?_;rw[FV _ _ _ _ _ _ _ _ _ _ _ _ _ _ _ _ _ _ _ _ _ _ _ _ _ _ _ _ _ _ _ _ _ _ _ _ _ _ _ _ _ _ _ _ _ hl hhs hx];refine tq ?_;rw[EI ..];exact tq rfl
theorem dw(c h:Int)(hs:List Int)(az:List (El Aq))(is:List Int)(bs:List (List UInt8))(p1 p2 p3:Int)(p4 p5 s1 s2 s3:List UInt8)(hr:Int)(hl:ob.length<=1000)(hhs:hs.length<=100)(hx:GK ob h=some ((p1,p2,p3,p4,p5),(s1,s2,s3),hr))(h3:p1=3)(hs3:s3.length<=100000):
  Y E0 (.call 67 [(sX sd au en ac re rs ck od sb su mc ix l1 l2 l3 l4 l5 l6 ks st sp rb ru vc sf dr ss ob rl wl),.agg [.i c,.sl .i64 (h::hs),.sl Aq az,.sl .i64 is,.sl (.sl .u8) bs]] [])=some (.ret (.tup [(sX sd au en ac re rs ck od sb su mc ix l1 l2 l3 l4 l5 l6 ks st sp rb ru vc sf dr ss ob rl wl),.agg [.i 0,.sl .i64 [],.sl (.sl .u8) [s3],.sl (.sl .u8) []]]) []):=by
 refine tq ?_;rw[FV _ _ _ _ _ _ _ _ _ _ _ _ _ _ _ _ _ _ _ _ _ _ _ _ _ _ _ _ _ _ _ _ _ _ _ _ _ _ _ _ _ _ _ _ _ hl hhs hx];refine tq ?_;rw[Hg _ A8];exact tq rfl
theorem eF(c h:Int)(hs:List Int)(az:List (El Aq))(is:List Int)(bs:List (List UInt8))(p1 p2 p3:Int)(p4 p5 s1 s2 s3:List UInt8)(hr:Int)(hl:ob.length<=1000)(hhs:hs.length<=100)(hx:GK ob h=some ((p1,p2,p3,p4,p5),(s1,s2,s3),hr))(h3:p1≠3):
  Y E0 (.call 67 [(sX sd au en ac re rs ck od sb su mc ix l1 l2 l3 l4 l5 l6 ks st sp rb ru vc sf dr ss ob rl wl),.agg [.i c,.sl .i64 (h::hs),.sl Aq az,.sl .i64 is,.sl (.sl .u8) bs]] [])=some (.ret (.tup [(sX sd au en ac re rs ck od sb su mc ix l1 l2 l3 l4 l5 l6 ks st sp rb ru vc sf dr ss ob rl wl),.agg [.i 19,.sl .i64 [],.sl (.sl .u8) [],.sl (.sl .u8) []]]) []):=by
 refine tq ?_;rw[FV _ _ _ _ _ _ _ _ _ _ _ _ _ _ _ _ _ _ _ _ _ _ _ _ _ _ _ _ _ _ _ _ _ _ _ _ _ _ _ _ _ _ _ _ _ hl hhs hx];refine tq ?_;rw[EI ..];exact tq rfl
theorem xP(x:Int)(h0:0<=x)(h1:x<=1000):Cj x 1=x+1:=Aw zaa
theorem Yh(sd au:List (List UInt8))(en:List UInt8)(ac re rs ck:Int)(od:Bool)(sb:List (List (List UInt8)))(su mc:Int)(ix:List (El H5))(l1 l2 l3 l4 l5 l6:Int)(ks:List (El Ja))(st sp:Bool)(rb:List (List (List UInt8)))(ru vc:Int)(sf:Bool)(dr:Int)(ss:List (El sesT))(ob:List (El objT))(rl wl:List Int)(p1 p2 p3:Int)(p4 p5 s1 s2 s3:List UInt8)(hr:Int)(hl:ks.length<=1000)(hh:0<=p3/\p3<=3)(hu:∀ x∈ks,G6 x):∀(n j:Nat),j+n=ks.length->keyAt p5 ks=j+keyAt p5 (ks.drop j)->Y E0 (.loop 115 0 0 3 [(2,.pa 0 0),(3,.pa 1 0),(4,.pa 2 0),(7,.i (j:Int))] [(0,some (.var (sC sd au en ac re rs ck od sb su mc ix l1 l2 l3 l4 l5 l6 ks st sp rb ru vc sf dr ss ob rl wl))),(1,some (.var [.i p1,.i p2,.i p3,.sl .u8 p4,.sl .u8 p5,.sl .u8 s1,.sl .u8 s2,.sl .u8 s3,.i hr])),(2,some (.var [.nil,.nil,.nil,.i 0,.i 0,.i 0,.i 0,.b false,.nil,.i 0,.i 0,.nil,.i 0,.i 0,.i 0,.i 0,.i 0,.i 0,.nil,.b false,.b false,.nil,.i 0,.i 0,.b false,.i 0,.nil,.nil,.nil,.nil]))])=if keyAt p5 ks<ks.length then(if(Ee ks p5 p3).2.2=0 then some (.fin .ret 4 [(2,.pa 0 0),(3,.pa 1 0),(4,.pa 2 0),(5,.i (Ee ks p5 p3).2.1),(6,.i (Ee ks p5 p3).2.2)] [(0,some (.var [.sl (.sl .u8) sd,.sl (.sl .u8) au,.sl .u8 en,.i ac,.i re,.i rs,.i ck,.b od,.sl (.sl (.sl .u8)) sb,.i su,.i mc,.sl H5 ix,.i l1,.i l2,.i l3,.i l4,.i l5,.i l6,.nm 3,.b st,.b sp,.sl (.sl (.sl .u8)) rb,.i ru,.i vc,.b sf,.i dr,.sl sesT ss,.sl objT ob,.sl .i64 rl,.sl .i64 wl])),(1,some (.var [.i p1,.i p2,.i p3,.sl .u8 p4,.sl .u8 p5,.sl .u8 s1,.sl .u8 s2,.sl .u8 s3,.i hr])),(2,some (.var [.sl (.sl .u8) sd,.sl (.sl .u8) au,.sl .u8 en,.i ac,.i re,.i rs,.i ck,.b od,.sl (.sl (.sl .u8)) sb,.i su,.i mc,.sl H5 ix,.i l1,.i l2,.i l3,.i l4,.i l5,.i l6,.nm 3,.b st,.b sp,.sl (.sl (.sl .u8)) rb,.i ru,.i vc,.b sf,.i dr,.sl sesT ss,.sl objT ob,.sl .i64 rl,.sl .i64 wl])),(3,some (.row 190 Ja (Ee ks p5 p3).1))]) else some (.fin .ret 3 [(2,.pa 0 0),(3,.pa 1 0),(4,.pa 2 0),(5,.i (Ee ks p5 p3).2.1),(6,.i (Ee ks p5 p3).2.2)] [(0,some (.var (sC sd au en ac re rs ck od sb su mc ix l1 l2 l3 l4 l5 l6 ks st sp rb ru vc sf dr ss ob rl wl))),(1,some (.var [.i p1,.i p2,.i p3,.sl .u8 p4,.sl .u8 p5,.sl .u8 s1,.sl .u8 s2,.sl .u8 s3,.i hr])),(2,some (.var (sC sd au en ac re rs ck od sb su mc ix l1 l2 l3 l4 l5 l6 ks st sp rb ru vc sf dr ss ob rl wl)))])) else some (.fin (.exit 0) 3 [(2,.pa 0 0),(3,.pa 1 0),(4,.pa 2 0)] [(0,some (.var (sC sd au en ac re rs ck od sb su mc ix l1 l2 l3 l4 l5 l6 ks st sp rb ru vc sf dr ss ob rl wl))),(1,some (.var [.i p1,.i p2,.i p3,.sl .u8 p4,.sl .u8 p5,.sl .u8 s1,.sl .u8 s2,.sl .u8 s3,.i hr])),(2,some (.var [.nil,.nil,.nil,.i 0,.i 0,.i 0,.i 0,.b false,.nil,.i 0,.i 0,.nil,.i 0,.i 0,.i 0,.i 0,.i 0,.i 0,.nil,.b false,.b false,.nil,.i 0,.i 0,.b false,.i 0,.nil,.nil,.nil,.nil]))])
 | 0,j,hj,hf=>by
  rw[if_neg (by rw[List.drop_eq_nil_of_le zaa,keyAt] at hf;omega)]
  exact tq rfl
 | n+1,j,hj,hf=>by
  have hp:D7 1 (Bh p3).toNat=(2:Int)^p3.toNat:=Xk zaa
  have hd:=List.drop_eq_getElem_cons (l:=ks) (i:=j) zaa
  have hg:BZ ks (j:Int)=some (ks[j]'zaa):=GY zaa
  have hm:=hu (ks[j]'zaa) (List.getElem_mem zaa)
  have hgd:ks.getD j ([],0)=ks[j]'zaa:=by simp[List.getD,List.getElem?_eq_getElem (show j<ks.length by omega)]
  have hs:∀ x,Bf ks (j:Int) x=ks.set j x:=fun x=>by rw[G5];simp
  rw[hd] at hf
  generalize ks[j]'zaa=x at *
  obtain⟨un,us⟩:=x;simp only[G6,DI] at hm
  have hs1:=xP us hm.2.1 hm.2.2
  by_cases hk:un=p5
  ·subst hk;rw[keyAt,if_pos rfl] at hf
   have hU:Ee ks un p3=if(2:Int)^p3.toNat<=us then(ks,0,26) else(ks.set j (un,us+1),us,0):=by
    rw[Ee,if_pos zaa,show keyAt un ks=j from hf,hgd]
   rw[if_pos zaa]
   generalize Ee ks un p3=U at *
   generalize (2:Int)^p3.toNat=W at *
   by_cases hw:W<=us
   ·rw[if_pos hw] at hU;subst hU;rw[if_neg zao]
    refine to ?_;rw[hg];refine tq ?_;rw[CY _ _ A8]
    conv=>lhs;whnf
    rw[EN];conv=>lhs;whnf
    rw[decide_eq_true rfl];conv=>lhs;whnf
    rw[hp];exact tq rfl
   ·rw[if_neg hw] at hU;subst hU;rw[if_pos rfl]
    have hn:BI [] ks=ks:=by rw[Aa];rfl
    refine to ?_;rw[hg];refine tq ?_;rw[CY _ _ A8]
    conv=>lhs;whnf
    rw[EN];conv=>lhs;whnf
    rw[decide_eq_true rfl];conv=>lhs;whnf
    rw[hp];rw[Ql zaa]
    conv=>lhs;whnf
    rw[hn];refine to ?_;rw[hg]
    conv=>lhs;whnf
    try dsimp -iota -beta -eta -zeta only
    rw[Gy zaa]
    conv=>lhs;whnf
    rw[hg]
    conv=>lhs;whnf
    try dsimp -iota -beta -eta -zeta only
    rw[hs];exact tq rfl
  ·have ih:=Yh sd au en ac re rs ck od sb su mc ix l1 l2 l3 l4 l5 l6 ks st sp rb ru vc sf dr ss ob rl wl p1 p2 p3 p4 p5 s1 s2 s3 hr hl hh hu n (j+1) zaa (by rw[hf,keyAt,if_neg hk];omega)
   rw[show((j+1:Nat):Int)=(j:Int)+1 from by omega] at ih
   have hkd:decide (un=p5)=false:=decide_eq_false hk
   refine to ?_;rw[hg];refine tq ?_;rw[CY _ _ A8]
   conv=>lhs;whnf
   rw[hkd];refine tq ?_;exact ih
theorem A1e(p1 p2 p3:Int)(p4 p5 s1 s2 s3:List UInt8)(hr:Int)(hl:ks.length<=1000)(hh:0<=p3/\p3<=3)(hu:∀ x∈ks,G6 x):Y E0 (.call 115 [(sX sd au en ac re rs ck od sb su mc ix l1 l2 l3 l4 l5 l6 ks st sp rb ru vc sf dr ss ob rl wl),.agg [.i p1,.i p2,.i p3,.sl .u8 p4,.sl .u8 p5,.sl .u8 s1,.sl .u8 s2,.sl .u8 s3,.i hr]] [])=some (.ret (.tup [(sX sd au en ac re rs ck od sb su mc ix l1 l2 l3 l4 l5 l6 ((Ee ks p5 p3).1) st sp rb ru vc sf dr ss ob rl wl),.i (Ee ks p5 p3).2.1,.i (Ee ks p5 p3).2.2]) []):=by
 have e:=Yh sd au en ac re rs ck od sb su mc ix l1 l2 l3 l4 l5 l6 ks st sp rb ru vc sf dr ss ob rl wl p1 p2 p3 p4 p5 s1 s2 s3 hr hl hh hu ks.length 0 zaa zao
 rw[show((0:Nat):Int)=0 from rfl] at e
 by_cases hc:keyAt p5 ks<ks.length
 ·rw[if_pos hc] at e
  have hk:=aC (ks:=ks) (u:=p5) (h:=p3)
  generalize Ee ks p5 p3=U at *
  obtain⟨kk,n,er⟩:=U
  dsimp only at *
  by_cases h:er=0
  ·subst h;rw[if_pos rfl] at e;refine tq ?_;rw[e];exact tq rfl
  ·rw[if_neg h] at e;rw[hk h];refine tq ?_;rw[e];exact tq rfl
 ·rw[if_neg hc] at e;rw[Ee,if_neg hc]
  by_cases h8:8<=ks.length
  ·rw[if_pos h8];refine tq ?_;rw[e];exact tq rfl
  ·rw[if_neg h8];refine tq ?_;rw[e];refine tq ?_
   simp only[NO];try with_reducible rfl
theorem Yi(p1 p2 p3:Int)(p4 p5 s1 s2 s3:List UInt8)(hr:Int)(m:List UInt8)(hl:ks.length<=1000)(hh:0<=p3/\p3<=3)(hu:∀ x∈ks,G6 x)(h2:s2.length<=1000)(hm:m.length<=100000):Y E0 (.call 56 [(sX sd au en ac re rs ck od sb su mc ix l1 l2 l3 l4 l5 l6 ks st sp rb ru vc sf dr ss ob rl wl),.agg [.i p1,.i p2,.i p3,.sl .u8 p4,.sl .u8 p5,.sl .u8 s1,.sl .u8 s2,.sl .u8 s3,.i hr],.sl .u8 m] [])=some (.ret (if(Ee ks p5 p3).2.2=0 then .tup [(sX sd au en ac re rs ck od sb su mc ix l1 l2 l3 l4 l5 l6 ((Ee ks p5 p3).1) st sp rb ru vc sf dr ss ob rl wl),.sl .u8 (Ej s2 p3 (Ee ks p5 p3).2.1 m),.i 0] else .tup [(sX sd au en ac re rs ck od sb su mc ix l1 l2 l3 l4 l5 l6 ks st sp rb ru vc sf dr ss ob rl wl),.sl .u8 [],.i (Ee ks p5 p3).2.2]) []):=by
 have e:=A1e sd au en ac re rs ck od sb su mc ix l1 l2 l3 l4 l5 l6 ks st sp rb ru vc sf dr ss ob rl wl p1 p2 p3 p4 p5 s1 s2 s3 hr hl hh hu
 have hk:=aC (ks:=ks) (u:=p5) (h:=p3)
 generalize Ee ks p5 p3=U at *
 obtain⟨kk,n,er⟩:=U
 dsimp only at *
 by_cases h:er=0
 ·subst h;rw[if_pos rfl];refine tq ?_;rw[e];refine tq ?_;rw[VL _ _ _ _ A8 A8];exact tq rfl
 ·rw[if_neg h];refine tq ?_;rw[e];exact tq rfl
end
section
attribute [local irreducible] Cj Dt D9 DT DK BH Du Ey Fh FD Et D7 CV Df DX and' Dk DU CG Ba Bl CJ CS BK BM BB BG Dv G7 Dw EM Dl Bh CO Bz C9 Bo BD Bi BO Be BZ Dx Bf DL Bd BI D6 Dy fits Dz Dn AZ Ap BL
attribute [local irreducible] E5 CP Bq nameB ES Em Ar FK En FH Eu Fe CE IU
variable (sd au:List (List UInt8))(en:List UInt8)(ac re rs ck:Int)(od:Bool)(sb:List (List (List UInt8)))(su mc:Int)(ix:List (El H5))(l1 l2 l3 l4 l5 l6:Int)(ks:List (El Ja))(st sp:Bool)(rb:List (List (List UInt8)))(ru vc:Int)(sf:Bool)(dr:Int)(ss:List (El sesT))(ob:List (El objT))(rl wl:List Int)
end
end Go.Proofs.YtnhgnfdbdflhcaaGreatDoor
namespace Go.Proofs.YtnhgnfdbdflhcaaGreatDoor
open Go Go.Ax
variable (a:Att)
section
attribute [local irreducible] Cj Dt D9 DT DK BH Du Ey Fh FD Et D7 CV Df DX and' Dk DU CG Ba Bl CJ CS BK BM BB BG Dv G7 Dw EM Dl Bh CO Bz C9 Bo BD Bi BO Be BZ Dx Bf DL Bd BI D6 Dy fits Dz Dn AZ Ap BL
theorem Yj:Y E0 (.call 109 [] [])=some (.ret (.sl .u8 OC) []):=by
 refine tq ?_
 rfl
theorem MN(b:List UInt8)(a:Att)(s0 s1:Int)(hb:b.length<=1000000):Y E0 (.loop 47 0 0 2 [(1,.pa 0 0),(3,.nm 1),(37,.agg [.i s0,.i s1]),(38,.i 0)] [(0,some (.var (Qh a))),(1,some (.row 5 .u8 b))])=some (.fin (.exit 0) 2 [(1,.pa 0 0),(3,.nm 1)] [(0,some (.var (Qh a))),(1,some (.row 5 .u8 (CE (CE b 2 s0) 2 s1)))]):=by
 dsimp only[Qh]
 refine tq ?_;rw[Ho _ _ _ A8];refine tq ?_;refine tq ?_;rw[Ho _ _ _ zaf];refine tq ?_;exact tq rfl
theorem Z4(hk:a.key.length<=100000)(hn:a.nonce.length<=100000)(hd:a.digest.length<=100000):Y E0 (.call 47 [.agg (Qh a)] [])=some (.ret (.sl .u8 (GV a)) []):=by
 obtain⟨key,nonce,resets,restarts,clock,safe,updates,s0,s1,digest⟩:=a
 simp only at hk hn hd
 dsimp only[Qh]
 cases safe
 ·have hlp:=fun b hb=>MN b ⟨key,nonce,resets,restarts,clock,false,updates,s0,s1,digest⟩ s0 s1 hb
  dsimp only[Qh] at hlp
  refine tq ?_;rw[QW _ _ A8];refine tq ?_;rw[QW _ _ zaf];refine tq ?_;rw[Ho _ _ _ zaf];refine tq ?_;rw[Ho _ _ _ zaf];refine tq ?_;rw[Ho _ _ _ zaf];refine tq ?_;rw[Ho _ _ _ zaf];refine tq ?_;rw[Ho _ _ _ zaf];refine tq ?_
  rw[hlp _ zaP]
  conv=>lhs;whnf
  rw[DY zaf]
  conv=>lhs;whnf
  rw[Aa];rfl
 ·have hlp:=fun b hb=>MN b ⟨key,nonce,resets,restarts,clock,true,updates,s0,s1,digest⟩ s0 s1 hb
  dsimp only[Qh] at hlp
  refine tq ?_;rw[QW _ _ A8];refine tq ?_;rw[QW _ _ zaf];refine tq ?_;rw[Ho _ _ _ zaf];refine tq ?_;rw[Ho _ _ _ zaf];refine tq ?_;rw[Ho _ _ _ zaf];refine tq ?_;rw[Ho _ _ _ zaf];refine tq ?_;rw[Ho _ _ _ zaf];refine tq ?_
  rw[hlp _ zaP]
  conv=>lhs;whnf
  rw[DY zaf]
  conv=>lhs;whnf
  rw[Aa];rfl
theorem Z5(hk:a.key.length<=100000)(hn:a.nonce.length<=100000)(hd:a.digest.length<=100000):Y E0 (.call 55 [.agg (Qh a)] [])=some (.ret (.nm 0) [some (.row 5 .u8 (GV a))]):=by
 obtain⟨key,nonce,resets,restarts,clock,safe,updates,s0,s1,digest⟩:=a
 simp only at hk hn hd
 dsimp only[Qh]
 cases safe
 ·refine tq ?_;rw[Yj];refine tq ?_;rw[Fb _ _ A8];refine tq ?_;rw[Fb _ _ zaf];refine tq ?_;rw[CQ _ _ _ zaf];refine tq ?_;rw[CQ _ _ _ zaf];refine tq ?_;rw[CQ _ _ _ zaf]
  conv=>lhs;whnf
  try dsimp -iota -beta -eta -zeta only
  rw[drw zas];conv=>lhs;whnf
  rw[Ae]
  conv=>lhs;whnf
  rw[DY zaf]
  conv=>lhs;whnf
  try dsimp -iota -beta -eta -zeta only
  rw[AU];rw[CQ _ _ _ zaf];refine tq ?_;rw[CQ _ _ _ zaf];refine tq ?_;rw[CQ _ _ _ zaf]
  conv=>lhs;whnf
  rw[DY zaf]
  conv=>lhs;whnf
  try dsimp -iota -beta -eta -zeta only
  rw[drw zas];conv=>lhs;whnf
  simp only[Aa,GV,cond_false,cond_true,A0F,A0E,F5];rfl
 ·refine tq ?_;rw[Yj];refine tq ?_;rw[Fb _ _ A8];refine tq ?_;rw[Fb _ _ zaf];refine tq ?_;rw[CQ _ _ _ zaf];refine tq ?_;rw[CQ _ _ _ zaf];refine tq ?_;rw[CQ _ _ _ zaf]
  conv=>lhs;whnf
  try dsimp -iota -beta -eta -zeta only
  rw[drw zas];conv=>lhs;whnf
  rw[Ae]
  conv=>lhs;whnf
  rw[DY zaf]
  conv=>lhs;whnf
  try dsimp -iota -beta -eta -zeta only
  rw[AU];rw[CQ _ _ _ zaf];refine tq ?_;rw[CQ _ _ _ zaf];refine tq ?_;rw[CQ _ _ _ zaf]
  conv=>lhs;whnf
  rw[DY zaf]
  conv=>lhs;whnf
  try dsimp -iota -beta -eta -zeta only
  rw[drw zas];conv=>lhs;whnf
  simp only[Aa,GV,cond_false,cond_true,A0F,A0E,F5];rfl
end
end Go.Proofs.YtnhgnfdbdflhcaaGreatDoor
namespace Go.Proofs.YtnhgnfdbdflhcaaGreatDoor
open Go Go.Ax Go.Eng
variable {a k:Int}
section
attribute [local irreducible] Cj Dt D9 DT DK BH Du Ey Fh FD Et D7 CV Df DX and' Dk DU CG Ba Bl CJ CS BK BM BB BG Dv G7 Dw EM Dl Bh CO Bz C9 Bo BD Bi BO Be BZ Dx Bf DL Bd BI D6 Dy fits Dz Dn AZ Ap BL
attribute [local irreducible] E5 CP Bq nameB ES Em Ar FK En FH Eu Fe CE IU Ej Gf GV
variable (sd au:List (List UInt8))(en:List UInt8)(ac re rs ck:Int)(od:Bool)(sb:List (List (List UInt8)))(su mc:Int)(ix:List (El H5))(l1 l2 l3 l4 l5 l6:Int)(ks:List (El Ja))(st sp:Bool)(rb:List (List (List UInt8)))(ru vc:Int)(sf:Bool)(dr:Int)(ss:List (El sesT))(ob:List (El objT))(rl wl:List Int)
end
section
attribute [local irreducible] Cj Dt D9 DT DK BH Du Ey Fh FD Et D7 CV Df DX and' Dk DU CG Ba Bl CJ CS BK BM BB BG Dv G7 Dw EM Dl Bh CO Bz C9 Bo BD Bi BO Be BZ Dx Bf DL Bd BI D6 Dy fits Dz Dn AZ Ap BL
attribute [local irreducible] E5 CP Bq nameB ES Em Ar FK En FH Eu Fe CE IU Ej Gf GV JL JZ
variable (sd au:List (List UInt8))(en:List UInt8)(ac re rs ck:Int)(od:Bool)(sb:List (List (List UInt8)))(su mc:Int)(ix:List (El H5))(l1 l2 l3 l4 l5 l6:Int)(ks:List (El Ja))(st sp:Bool)(rb:List (List (List UInt8)))(ru vc:Int)(sf:Bool)(dr:Int)(ss:List (El sesT))(ob:List (El objT))(rl wl:List Int)
theorem eG(c h q0 q1:Int)(hs:List Int)(az:List (El Aq))(m:List UInt8)(bs:List (List UInt8))(p1 p2 p3:Int)(p4 p5 s1 s2 s3:List UInt8)(hr:Int)(d:List UInt8)(hl:ob.length<=1000)(hhs:hs.length<=100)(hbs:bs.length<=100)(hx:GK ob h=some ((p1,p2,p3,p4,p5),(s1,s2,s3),hr))(h1:p1=2)(ha:BH .and p2 4≠0)(hm:m.length<=128)(hkl:ks.length<=100)(hh:0<=p3/\p3<=3)(hu:∀ x∈ks,0<=x.2/\x.2<=1000)(h2:s2.length<=1000)(h4:p4.length<=1000)(h5:p5.length<=1000)(he:(Ee ks p5 p3).2.2=0)(hd:d.length<=1000)
  (hD:Y E0 (.call 46 [.agg [.sl (.sl (.sl .u8)) rb,.i ru],.agg [.i q0,.i q1]] [])=some (.ret (.tup [.sl .u8 d,.i 0]) [])) :
  Y E0 (.call 13 [(sX sd au en ac re rs ck od sb su mc ix l1 l2 l3 l4 l5 l6 ks st sp rb ru vc sf dr ss ob rl wl),.agg [.i c,.sl .i64 (h::hs),.sl Aq az,.sl .i64 [q0,q1],.sl (.sl .u8) (m::bs)]] [])=some (.ret (.tup [(sX sd au en ac re rs ck od sb su mc ix l1 l2 l3 l4 l5 l6 ((Ee ks p5 p3).1) st sp rb ru vc sf dr ss ob rl wl),.agg [.i 0,.sl .i64 [],.sl (.sl .u8) [GV ⟨nameB ⟨p1,p2,p3,p4,p5⟩,m,re,rs,vc,sf,ru,q0,q1,d⟩,Ej s2 p3 (Ee ks p5 p3).2.1 (GV ⟨nameB ⟨p1,p2,p3,p4,p5⟩,m,re,rs,vc,sf,ru,q0,q1,d⟩)],.sl (.sl .u8) []]]) []):=by
 have e1:=Yz sd au en ac re rs ck od sb su mc ix l1 l2 l3 l4 l5 l6 ks st sp rb ru vc sf dr ss ob rl wl c h hs az [q0,q1] m bs p1 p2 p3 p4 p5 s1 s2 s3 hr true hl hhs hbs hx h1 (by rw[decide_eq_false ha];rfl) hm
 have hn:=Ac ⟨p1,p2,p3,p4,p5⟩
 have ea:=Z4 ⟨nameB ⟨p1,p2,p3,p4,p5⟩,m,re,rs,vc,sf,ru,q0,q1,d⟩ zay zay zay
 have el:=VV ⟨nameB ⟨p1,p2,p3,p4,p5⟩,m,re,rs,vc,sf,ru,q0,q1,d⟩ zay zay zay
 dsimp only[Qh] at ea
 generalize GV ⟨nameB ⟨p1,p2,p3,p4,p5⟩,m,re,rs,vc,sf,ru,q0,q1,d⟩=Q at *
 have e2:=xN sd au en ac re rs ck od sb su mc ix l1 l2 l3 l4 l5 l6 ks st sp rb ru vc sf dr ss ob rl wl p1 p2 p3 p4 p5 s1 s2 s3 hr Q hkl hh hu h2 zaa he
 refine tq ?_;rw[e1];refine tq ?_;rw[kM (hl:=A8) ..];refine tq ?_;rw[kN (hl:=A8) ..];refine tq ?_;rw[hD];refine tq ?_;rw[jW _ _ _ _ _ A8 A8];refine tq ?_;rw[Qa (hl:=A8) ..];refine tq ?_;rw[ea];refine tq ?_;rw[e2];exact tq rfl
end
section
attribute [local irreducible] Cj Dt D9 DT DK BH Du Ey Fh FD Et D7 CV Df DX and' Dk DU CG Ba Bl CJ CS BK BM BB BG Dv G7 Dw EM Dl Bh CO Bz C9 Bo BD Bi BO Be BZ Dx Bf DL Bd BI D6 Dy fits Dz Dn AZ Ap BL
attribute [local irreducible] E5 CP Bq nameB ES Em Ar FK En FH Eu Fe CE IU Ej Gf GV Ee
variable (sd au:List (List UInt8))(en:List UInt8)(ac re rs ck:Int)(od:Bool)(sb:List (List (List UInt8)))(su mc:Int)(ix:List (El H5))(l1 l2 l3 l4 l5 l6:Int)(ks:List (El Ja))(st sp:Bool)(rb:List (List (List UInt8)))(ru vc:Int)(sf:Bool)(dr:Int)(ss:List (El sesT))(ob:List (El objT))(rl wl:List Int)
theorem A1j(c h:Int)(hs:List Int)(az:List (El Aq))(is:List Int)(m:List UInt8)(bs:List (List UInt8))(p1 p2 p3:Int)(p4 p5 s1 s2 s3:List UInt8)(hr:Int)(hl:ob.length<=1000)(hhs:hs.length<=100)(hbs:bs.length<=100)(hx:GK ob h=some ((p1,p2,p3,p4,p5),(s1,s2,s3),hr))(hkl:ks.length<=1000)(hh:0<=p3/\p3<=3)(hu:∀ x∈ks,G6 x)(h2:s2.length<=1000)(hm:m.length<=100000):
  Y E0 (.call 69 [(sX sd au en ac re rs ck od sb su mc ix l1 l2 l3 l4 l5 l6 ks st sp rb ru vc sf dr ss ob rl wl),.agg [.i c,.sl .i64 (h::hs),.sl Aq az,.sl .i64 is,.sl (.sl .u8) (m::bs)]] [])=some (.ret (.tup [(sX sd au en ac re rs ck od sb su mc ix l1 l2 l3 l4 l5 l6 ((Gp ks p1 p2 p3 p5 s2 m).1) st sp rb ru vc sf dr ss ob rl wl),.agg (wW (Gp ks p1 p2 p3 p5 s2 m).2)]) []):=by
 have e:=Yi sd au en ac re rs ck od sb su mc ix l1 l2 l3 l4 l5 l6 ks st sp rb ru vc sf dr ss ob rl wl p1 p2 p3 p4 p5 s1 s2 s3 hr m hkl hh hu h2 hm
 unfold Gp
 generalize Ee ks p5 p3=U at *
 obtain⟨kk,n,er⟩:=U
 dsimp only at *
 by_cases h1:p1=2
 ·rw[if_neg (fun q=>q h1)]
  by_cases ha:BH .and p2 4=0
  ·rw[if_neg (fun q=>q ha)]
   by_cases hz:128<m.length
   ·rw[if_pos hz];refine tq ?_;rw[FV _ _ _ _ _ _ _ _ _ _ _ _ _ _ _ _ _ _ _ _ _ _ _ _ _ _ _ _ _ _ _ _ _ _ _ _ _ _ _ _ _ _ _ _ _ hl hhs hx]
    conv=>lhs;whnf
    rw[EC zaa]
    conv=>lhs;whnf
    rw[ha];refine tq ?_;rw[EI ..];exact tq rfl
   ·rw[if_neg hz]
    by_cases he:er=0
    ·subst he;rw[if_pos rfl] at e;rw[if_neg zao];refine tq ?_;rw[FV _ _ _ _ _ _ _ _ _ _ _ _ _ _ _ _ _ _ _ _ _ _ _ _ _ _ _ _ _ _ _ _ _ _ _ _ _ _ _ _ _ _ _ _ _ hl hhs hx]
     conv=>lhs;whnf
     rw[EC zaa]
     conv=>lhs;whnf
     rw[ha];refine tq ?_;rw[e];exact tq rfl
    ·rw[if_neg he] at e;rw[if_pos he];refine tq ?_;rw[FV _ _ _ _ _ _ _ _ _ _ _ _ _ _ _ _ _ _ _ _ _ _ _ _ _ _ _ _ _ _ _ _ _ _ _ _ _ _ _ _ _ _ _ _ _ hl hhs hx]
     conv=>lhs;whnf
     rw[EC zaa]
     conv=>lhs;whnf
     rw[ha];refine tq ?_;rw[e];refine tq ?_;rw[EI ..];exact tq rfl
  ·rw[if_pos ha];refine tq ?_;rw[FV _ _ _ _ _ _ _ _ _ _ _ _ _ _ _ _ _ _ _ _ _ _ _ _ _ _ _ _ _ _ _ _ _ _ _ _ _ _ _ _ _ _ _ _ _ hl hhs hx]
   conv=>lhs;whnf
   rw[EC zaa]
   conv=>lhs;whnf
   rw[Fa ha];refine tq ?_;rw[EI ..];exact tq rfl
 ·rw[if_pos h1];refine tq ?_;rw[FV _ _ _ _ _ _ _ _ _ _ _ _ _ _ _ _ _ _ _ _ _ _ _ _ _ _ _ _ _ _ _ _ _ _ _ _ _ _ _ _ _ _ _ _ _ hl hhs hx];refine tq ?_;rw[EI ..];exact tq rfl
theorem aF(c h q0 q1:Int)(hs:List Int)(az:List (El Aq))(m:List UInt8)(bs:List (List UInt8))(p1 p2 p3:Int)(p4 p5 s1 s2 s3:List UInt8)(hr:Int)(d:List UInt8)(er:Int)(hl:ob.length<=1000)(hhs:hs.length<=100)(hbs:bs.length<=100)(hx:GK ob h=some ((p1,p2,p3,p4,p5),(s1,s2,s3),hr))(hkl:ks.length<=1000)(hh:0<=p3/\p3<=3)(hu:∀ x∈ks,G6 x)(h2:s2.length<=1000)(h4:p4.length<=1000)(h5:p5.length<=1000)(hm:m.length<=100000)(hd:d.length<=1000)
  (hD:Y E0 (.call 54 [.agg [.sl (.sl (.sl .u8)) rb,.i ru],.agg [.i q0,.i q1]] [])=some (.ret (.tup [.sl .u8 d,.i er]) [])) :
  Y E0 (.call 15 [(sX sd au en ac re rs ck od sb su mc ix l1 l2 l3 l4 l5 l6 ks st sp rb ru vc sf dr ss ob rl wl),.agg [.i c,.sl .i64 (h::hs),.sl Aq az,.sl .i64 [q0,q1],.sl (.sl .u8) (m::bs)]] [])=some (.ret (.tup [(sX sd au en ac re rs ck od sb su mc ix l1 l2 l3 l4 l5 l6 ((FC ks p1 p2 p3 p5 s2 m er ⟨nameB ⟨p1,p2,p3,p4,p5⟩,m,re,rs,vc,sf,ru,q0,q1,d⟩).1) st sp rb ru vc sf dr ss ob rl wl),.agg (wW (FC ks p1 p2 p3 p5 s2 m er ⟨nameB ⟨p1,p2,p3,p4,p5⟩,m,re,rs,vc,sf,ru,q0,q1,d⟩).2)]) []):=by
 have hn:=Ac ⟨p1,p2,p3,p4,p5⟩
 unfold FC
 by_cases h1:p1=2
 ·rw[if_neg (fun q=>q h1)]
  by_cases ha:BH .and p2 4=0
  ·rw[if_pos ha];refine tq ?_;rw[FV _ _ _ _ _ _ _ _ _ _ _ _ _ _ _ _ _ _ _ _ _ _ _ _ _ _ _ _ _ _ _ _ _ _ _ _ _ _ _ _ _ _ _ _ _ hl hhs hx]
   conv=>lhs;whnf
   rw[EC zaa]
   conv=>lhs;whnf
   rw[ha];refine tq ?_;rw[EI ..];exact tq rfl
  ·rw[if_neg ha]
   by_cases hz:128<m.length
   ·rw[if_pos hz];refine tq ?_;rw[FV _ _ _ _ _ _ _ _ _ _ _ _ _ _ _ _ _ _ _ _ _ _ _ _ _ _ _ _ _ _ _ _ _ _ _ _ _ _ _ _ _ _ _ _ _ hl hhs hx]
    conv=>lhs;whnf
    rw[EC zaa]
    conv=>lhs;whnf
    rw[AA ha];refine tq ?_;rw[EI ..];exact tq rfl
   ·rw[if_neg hz]
    by_cases hy:er=0
    ·subst hy;rw[if_neg zao]
     have el:=VV ⟨nameB ⟨p1,p2,p3,p4,p5⟩,m,re,rs,vc,sf,ru,q0,q1,d⟩ zay zay zay
     have ea:=Z5 ⟨nameB ⟨p1,p2,p3,p4,p5⟩,m,re,rs,vc,sf,ru,q0,q1,d⟩ zay zay zay
     dsimp only[Qh] at ea
     generalize GV ⟨nameB ⟨p1,p2,p3,p4,p5⟩,m,re,rs,vc,sf,ru,q0,q1,d⟩=Q at *
     have e:=Yi sd au en ac re rs ck od sb su mc ix l1 l2 l3 l4 l5 l6 ks st sp rb ru vc sf dr ss ob rl wl p1 p2 p3 p4 p5 s1 s2 s3 hr Q hkl hh hu h2 zaa
     generalize Ee ks p5 p3=U at *
     obtain⟨kk,n,er⟩:=U
     dsimp only at *
     by_cases he:er=0
     ·subst he;rw[if_pos rfl] at e;rw[if_neg zao];refine tq ?_;rw[FV _ _ _ _ _ _ _ _ _ _ _ _ _ _ _ _ _ _ _ _ _ _ _ _ _ _ _ _ _ _ _ _ _ _ _ _ _ _ _ _ _ _ _ _ _ hl hhs hx]
      conv=>lhs;whnf
      rw[EC zaa]
      conv=>lhs;whnf
      rw[AA ha];refine tq ?_;rw[Ff _ _ _ _ _ A8 A8];refine tq ?_;rw[hD];refine tq ?_;rw[ea];refine tq ?_;rw[e];exact tq rfl
     ·rw[if_neg he] at e;rw[if_pos he];refine tq ?_;rw[FV _ _ _ _ _ _ _ _ _ _ _ _ _ _ _ _ _ _ _ _ _ _ _ _ _ _ _ _ _ _ _ _ _ _ _ _ _ _ _ _ _ _ _ _ _ hl hhs hx]
      conv=>lhs;whnf
      rw[EC zaa]
      conv=>lhs;whnf
      rw[AA ha];refine tq ?_;rw[Ff _ _ _ _ _ A8 A8];refine tq ?_;rw[hD];refine tq ?_;rw[ea];refine tq ?_;rw[e];refine tq ?_;rw[EI ..];exact tq rfl
    ·rw[if_pos hy];refine tq ?_;rw[FV _ _ _ _ _ _ _ _ _ _ _ _ _ _ _ _ _ _ _ _ _ _ _ _ _ _ _ _ _ _ _ _ _ _ _ _ _ _ _ _ _ _ _ _ _ hl hhs hx]
     conv=>lhs;whnf
     rw[EC zaa]
     conv=>lhs;whnf
     rw[AA ha];refine tq ?_;rw[Ff _ _ _ _ _ A8 A8];refine tq ?_;rw[hD];refine tq ?_;rw[EI ..];exact tq rfl
 ·rw[if_pos h1];refine tq ?_;rw[FV _ _ _ _ _ _ _ _ _ _ _ _ _ _ _ _ _ _ _ _ _ _ _ _ _ _ _ _ _ _ _ _ _ _ _ _ _ _ _ _ _ _ _ _ _ hl hhs hx];refine tq ?_;rw[EI ..];exact tq rfl
end
section
attribute [local irreducible] Cj Dt D9 DT DK BH Du Ey Fh FD Et D7 CV Df DX and' Dk DU CG Ba Bl CJ CS BK BM BB BG Dv G7 Dw EM Dl Bh CO Bz C9 Bo BD Bi BO Be BZ Dx Bf DL Bd BI D6 Dy fits Dz Dn AZ Ap BL
attribute [local irreducible] E5 CP Bq nameB ES Em Ar FK En FH Eu Fe CE IU Ej Gf GV Ee Gp FC JL JZ
theorem A39(par:Sen)(en:List UInt8)(re rs dr k a t:Int)(o auth data:List UInt8):dr<=(JL par en re rs dr k a t o auth data).1/\(JL par en re rs dr k a t o auth data).1<=dr+1:=by
 unfold JL
 dsimp only
 split
 ·exact⟨Int.le_refl _,by simp only;omega⟩
 ·exact⟨by simp only;omega,Int.le_refl _⟩
theorem Z7(s:MS)(c h i1 i2 i3:Int)(hs:List Int)(az:List (El Aq))(o u d:List UInt8)(hi:Kp a k s)(hk:k<=900)(hz:0<=h/\h<=2)(hhs:hs.length<=100)(ho:o.length<=2000)(hd:d.length<=2000):Ah E0 (.call 60 [av s,rq c (h::hs) az [i1,i2,i3] [o,u,d]] []) fun r=>∃(t:MS) (e:Int) (is':List Int) (bs':List (List UInt8)),Kp a (k+1) t/\r=some (.ret (.tup [av t,rp e is' bs' []]) []):=by
 have hol:=hi.obl
 have hsl:=hi.sdl
 have hup:=hi.up (k':=k+1) zaw
 exact⟨{s with ob:=(En s.sd s.ob h i1 i2 i3 o u d).1},(En s.sd s.ob h i1 i2 i3 o u d).2.err,(En s.sd s.ob h i1 i2 i3 o u d).2.ints,(En s.sd s.ob h i1 i2 i3 o u d).2.blobs,hup.ob_ (A1g hi.obs),A1Z _ _ _ _ _ _ _ _ _ _ _ _ _ _ _ _ _ _ _ _ _ _ _ _ _ _ _ _ _ _ _ _ _ _ _ _ _ _ _ _ zaa zaa (fun l hl=>by have:=hi.sdm l hl;omega) hhs zaa zaa zaa⟩
theorem eH(s:MS)(c h i1 i2 i3:Int)(hs:List Int)(az:List (El Aq))(o u d:List UInt8)(hi:Kp a k s)(hk:k<=900)(hz:0<=MP h s.ob)(hhs:hs.length<=100)(ho:o.length<=2000)(hd:d.length<=2000):Ah E0 (.call 62 [av s,rq c (h::hs) az [i1,i2,i3] [o,u,d]] []) fun r=>∃(t:MS) (e:Int) (is':List Int) (bs':List (List UInt8)),Kp a (k+1) t/\r=some (.ret (.tup [av t,rp e is' bs' []]) []):=by
 obtain⟨x,hx,hmem,_⟩:=QZ hz
 obtain⟨⟨p1,p2,p3,p4,p5⟩,⟨s1,s2,s3⟩,hr⟩:=x
 have hb:=hi.obm _ hmem
 simp only[FZ,D8] at hb
 have hol:=hi.obl
 have hup:=hi.up (k':=k+1) zaw
 have hen:=hi.en
 have hdr:=hi.dr
 by_cases h1:p1=1
 ·have hq:=A39 ⟨s1,s2,s3⟩ s.en s.re s.rs s.dr i1 i2 i3 o u d
  exact⟨{s with dr:=(JL ⟨s1,s2,s3⟩ s.en s.re s.rs s.dr i1 i2 i3 o u d).1},(JL ⟨s1,s2,s3⟩ s.en s.re s.rs s.dr i1 i2 i3 o u d).2.err,(JL ⟨s1,s2,s3⟩ s.en s.re s.rs s.dr i1 i2 i3 o u d).2.ints,(JL ⟨s1,s2,s3⟩ s.en s.re s.rs s.dr i1 i2 i3 o u d).2.blobs,{hup with dr:=⟨Int.le_trans hdr.1 hq.1,Int.le_trans hq.2 zaa⟩},oL _ _ _ _ _ _ _ _ _ _ _ _ _ _ _ _ _ _ _ _ _ _ _ _ _ _ _ _ _ _ _ _ _ _ _ _ _ _ _ _ _ _ _ _ _ _ _ _ _ zaa hhs hx h1 zaa zaa zaa zaa zaw⟩
 ·exact⟨s,19,[],[],hup,dn _ _ _ _ _ _ _ _ _ _ _ _ _ _ _ _ _ _ _ _ _ _ _ _ _ _ _ _ _ _ _ _ _ _ _ _ _ _ _ _ _ _ _ _ _ zaa hhs hx h1⟩
theorem oN(s:MS)(c h:Int)(hs:List Int)(az:List (El Aq))(is:List Int)(o u:List UInt8)(hi:Kp a k s)(hk:k<=900)(hz:0<=MP h s.ob)(hhs:hs.length<=100)(ho:o.length<=2000)(hd:u.length<=2000):Ah E0 (.call 64 [av s,rq c (h::hs) az is [o,u]] []) fun r=>∃(t:MS) (e:Int) (is':List Int) (bs':List (List UInt8)),Kp a (k+1) t/\r=some (.ret (.tup [av t,rp e is' bs' []]) []):=by
 obtain⟨x,hx,hmem,_⟩:=QZ hz
 obtain⟨⟨p1,p2,p3,p4,p5⟩,⟨s1,s2,s3⟩,hr⟩:=x
 have hb:=hi.obm _ hmem
 simp only[FZ,D8] at hb
 have hol:=hi.obl
 have hup:=hi.up (k':=k+1) zaw
 by_cases h1:p1=1
 ·exact⟨{s with ob:=(JZ s.ob ⟨s1,s2,s3⟩ hr o u).1},(JZ s.ob ⟨s1,s2,s3⟩ hr o u).2.err,(JZ s.ob ⟨s1,s2,s3⟩ hr o u).2.ints,(JZ s.ob ⟨s1,s2,s3⟩ hr o u).2.blobs,hup.ob_ (A38 hi.obs),A1d _ _ _ _ _ _ _ _ _ _ _ _ _ _ _ _ _ _ _ _ _ _ _ _ _ _ _ _ _ _ _ _ _ _ _ _ _ _ _ _ _ _ _ _ _ _ zaa hhs hx h1 zaa zaa zaa⟩
 ·exact⟨s,19,[],[],hup,oM _ _ _ _ _ _ _ _ _ _ _ _ _ _ _ _ _ _ _ _ _ _ _ _ _ _ _ _ _ _ _ _ _ _ _ _ _ _ _ _ _ _ _ _ _ zaa hhs hx h1⟩
theorem eP(s:MS)(c h:Int)(hs:List Int)(az:List (El Aq))(is:List Int)(bs:List (List UInt8))(hi:Kp a k s)(hk:k<=900)(hz:0<=MP h s.ob)(hhs:hs.length<=100):Ah E0 (.call 67 [av s,rq c (h::hs) az is bs] []) fun r=>∃(t:MS) (e:Int) (is':List Int) (bs':List (List UInt8)),Kp a (k+1) t/\r=some (.ret (.tup [av t,rp e is' bs' []]) []):=by
 obtain⟨x,hx,hmem,_⟩:=QZ hz
 obtain⟨⟨p1,p2,p3,p4,p5⟩,⟨s1,s2,s3⟩,hr⟩:=x
 have hb:=hi.obm _ hmem
 simp only[FZ,D8] at hb
 have hol:=hi.obl
 have hup:=hi.up (k':=k+1) zaw
 by_cases h1:p1=3
 ·exact⟨s,0,[],[s3],hup,dw _ _ _ _ _ _ _ _ _ _ _ _ _ _ _ _ _ _ _ _ _ _ _ _ _ _ _ _ _ _ _ _ _ _ _ _ _ _ _ _ _ _ _ _ _ zaa hhs hx h1 zaa⟩
 ·exact⟨s,19,[],[],hup,eF _ _ _ _ _ _ _ _ _ _ _ _ _ _ _ _ _ _ _ _ _ _ _ _ _ _ _ _ _ _ _ _ _ _ _ _ _ _ _ _ _ _ _ _ _ zaa hhs hx h1⟩
theorem oO(s:MS)(c h:Int)(hs:List Int)(az:List (El Aq))(is:List Int)(m:List UInt8)(bs:List (List UInt8))(hi:Kp a k s)(hk:k<=900)(hz:0<=MP h s.ob)(hhs:hs.length<=100)(hm:m.length<=2000)(hbs:bs.length<=100):Ah E0 (.call 69 [av s,rq c (h::hs) az is (m::bs)] []) fun r=>∃(t:MS) (e:Int) (is':List Int) (bs':List (List UInt8)),Kp a (k+1) t/\r=some (.ret (.tup [av t,rp e is' bs' []]) []):=by
 obtain⟨x,hx,hmem,_⟩:=QZ hz
 obtain⟨⟨p1,p2,p3,p4,p5⟩,⟨s1,s2,s3⟩,hr⟩:=x
 have hb:=hi.obm _ hmem
 simp only[FZ,D8] at hb
 have hol:=hi.obl
 have hup:=hi.up (k':=k+1) zaw
 have hkl:=hi.ksl
 exact⟨{s with ks:=(Gp s.ks p1 p2 p3 p5 s2 m).1},(Gp s.ks p1 p2 p3 p5 s2 m).2.err,(Gp s.ks p1 p2 p3 p5 s2 m).2.ints,(Gp s.ks p1 p2 p3 p5 s2 m).2.blobs,hup.ks_ (A1i hi.kss zaa zaa),A1j _ _ _ _ _ _ _ _ _ _ _ _ _ _ _ _ _ _ _ _ _ _ _ _ _ _ _ _ _ _ _ _ _ _ _ _ _ _ _ _ _ _ _ _ _ _ zaa hhs hbs hx zaa zaa hi.ksm zaa zaa⟩
theorem kS(s:MS)(c h q0 q1:Int)(hs:List Int)(az:List (El Aq))(m:List UInt8)(bs:List (List UInt8))(hi:Kp a k s)(hk:k<=900)(hz:0<=MP h s.ob)(hhs:hs.length<=100)(hm:m.length<=2000)(hbs:bs.length<=100):Ah E0 (.call 15 [av s,rq c (h::hs) az [q0,q1] (m::bs)] []) fun r=>∃(t:MS) (e:Int) (is':List Int) (bs':List (List UInt8)),Kp a (k+1) t/\r=some (.ret (.tup [av t,rp e is' bs' []]) []):=by
 obtain⟨x,hx,hmem,_⟩:=QZ hz
 obtain⟨⟨p1,p2,p3,p4,p5⟩,⟨s1,s2,s3⟩,hr⟩:=x
 have hb:=hi.obm _ hmem
 simp only[FZ,D8] at hb
 have hol:=hi.obl
 have hup:=hi.up (k':=k+1) zaw
 have hkl:=hi.ksl
 obtain⟨d,er,hd,hD⟩:=Yb a s.rb s.ru q0 q1 hi.rb
 have hok:=xQ (p1:=p1) (p2:=p2) (p3:=p3) (p5:=p5) (s2:=s2) (m:=m) (e:=er) (a:=⟨nameB ⟨p1,p2,p3,p4,p5⟩,m,s.re,s.rs,s.vc,s.sf,s.ru,q0,q1,d⟩) hi.kss zaa zaa
 have hv:=aF s.sd s.au s.en s.ac s.re s.rs s.ck s.od s.sb s.su s.mc s.ix s.l1 s.l2 s.l3 s.l4 s.l5 s.l6 s.ks s.st s.sp s.rb s.ru s.vc s.sf s.dr s.ss s.ob s.rl s.wl c h q0 q1 hs az m bs p1 p2 p3 p4 p5 s1 s2 s3 hr d er zaa hhs hbs hx zaa zaa hi.ksm zaa zaa zaa zaa zaa hD
 generalize FC s.ks p1 p2 p3 p5 s2 m er ⟨nameB ⟨p1,p2,p3,p4,p5⟩,m,s.re,s.rs,s.vc,s.sf,s.ru,q0,q1,d⟩=Q at *
 exact⟨{s with ks:=Q.1},Q.2.err,Q.2.ints,Q.2.blobs,hup.ks_ hok,hv⟩
theorem kT(s:MS)(c i1:Int)(hs:List Int)(az:List (El Aq))(is:List Int)(bs:List (List UInt8))(hi:Kp a k s)(hk:k<=900)(h1:0<=i1/\i1<=1099511627776)(hil:is.length<=100):Ah E0 (.call 66 [av s,rq c hs az (i1::is) bs] []) fun r=>∃(t:MS) (e:Int) (is':List Int) (bs':List (List UInt8)),Kp a (k+1) t/\r=some (.ret (.tup [av t,rp e is' bs' []]) []):=by
 have hol:=hi.obl
 have hsl:=SL i1 s.ob
 have hup:=hi.up (k':=k+1) zaw
 refine CU fun P hP=>tw ?_
 rw[Hq (hl:=A8) ..];refine tw ?_
 rcases DD 0 (MP i1 s.ob) with hc0|hc0
 ·refine tw ?_;rw[di (hl:=A8) (hk:=A8) ..];refine tw ?_;refine hP _ ⟨{s with ob:=s.ob.set (MP i1 s.ob).toNat ((0,0,0,[],[]),([],[],[]),0)},0,[],[],?_,rfl⟩;exact hup.ob_ (uT hi.obs ⟨by decide,by decide,by decide,by decide,by decide,by decide,by decide⟩)
 refine tw ?_;obtain⟨e1,t1_1,h1_2,yy1⟩:=jY s i1 hup A8;refine Am yy1 ?_
 rcases AX e1 0 with hc2|hc2
 ·refine tw ?_;rw[EI ..];refine tw ?_;exact hP _ ⟨s,7,[],[],A8,rfl⟩
 subst hc2
 replace h1_2:=h1_2 rfl
 refine tw ?_;refine hP _ ⟨t1_1,0,[],[],?_,rfl⟩;exact h1_2.1
end
section
attribute [local irreducible] Cj Dt D9 DT DK BH Du Ey Fh FD Et D7 CV Df DX and' Dk DU CG Ba Bl CJ CS BK BM BB BG Dv G7 Dw EM Dl Bh CO Bz C9 Bo BD Bi BO Be BZ Dx Bf DL Bd BI D6 Dy fits Dz Dn AZ Ap BL
theorem BJ:Y E0 (.call 181 [] [])=some (.ret (.agg [.i (-2),.i 0,.i 0,.i 0,.i 0,.i 0,.i 1,.i 0,.i 0,.i 0,.i 1,.i 0,.i (-2),.i 0,.i 0,.i 0,.i 0,.i 0,.i 0,.i 0,.i 0,.i 0,.i 2,.i 0,.i 0,.i 0,.i 1,.i 2,.i 0,.i 0,.i 1,.i 1,.i 0,.i 0,.i 1,.i 0,.i 1,.i 1,.i 3,.i 3,.i 1,.i 1,.i 3,.i 3,.i 1,.i 1,.i 0,.i 2,.i 0,.i 0,.i 1,.i 0,.i 1,.i 1,.i 0,.i 0,.i 1,.i 1,.i 0,.i 1,.i 1,.i 1,.i 2,.i 1,.i 0,.i 0,.i 1,.i 0,.i 0,.i 0,.i 6,.i (-1),.i 1,.i 1,.i 2,.i 1,.i 0,.i 0,.i 1,.i 3,.i 0,.i 0,.i 1,.i 0,.i 1,.i 1,.i 4,.i 2,.i 1,.i 1,.i 1,.i 0,.i 2,.i 1,.i 1,.i 1,.i 2,.i 1,.i 2,.i 0,.i 2,.i 1,.i 0,.i 0,.i 2,.i 1,.i 0,.i 1,.i 2,.i 1,.i 0,.i 1,.i 2,.i 1,.i 0,.i 0,.i 2,.i 1,.i 0,.i 0,.i 1,.i 1,.i 0,.i 1,.i 1,.i 1,.i 0,.i 0,.i 1,.i 1,.i 0,.i 0,.i 1,.i 1,.i 3,.i 0]) []):=by
 rw[Ae]
 kernel_rfl
theorem kU(c:Int):Ah E0 (.call 117 [.i c] []) fun r=>∃(n0 n1 n2 n3:Int) (b:Bool),(b=true->A5g c n0 n1 n2 n3)/\r=some (.ret (.tup [.agg [.i n0,.i n1,.i n2,.i n3],.b b]) []):=by
 refine CU fun P hP=>?_
 rcases(by omega:c=0\/c=1\/c=2\/c=3\/c=4\/c=5\/c=6\/c=7\/c=8\/c=9\/c=10\/c=11\/c=12\/c=13\/c=14\/c=15\/c=16\/c=17\/c=18\/c=19\/c=20\/c=21\/c=22\/c=23\/c=24\/c=25\/c=26\/c=27\/c=28\/c=29\/c=30\/c=31\/c=32\/c=33\/¬(0<=c/\c<34)) with rfl|rfl|rfl|rfl|rfl|rfl|rfl|rfl|rfl|rfl|rfl|rfl|rfl|rfl|rfl|rfl|rfl|rfl|rfl|rfl|rfl|rfl|rfl|rfl|rfl|rfl|rfl|rfl|rfl|rfl|rfl|rfl|rfl|rfl|hc
 ·refine tw ?_;rw[BJ];refine tw ?_;refine hP _ ⟨0,0,0,0,false,?_,rfl⟩;(intro h;exact absurd h zal)
 ·refine tw ?_;rw[BJ];refine tw ?_;refine hP _ ⟨0,0,1,0,true,?_,rfl⟩;(intro h;exact⟨_,_,_,rfl,rfl,rfl,rfl⟩)
 ·refine tw ?_;rw[BJ];refine tw ?_;refine hP _ ⟨0,0,1,0,true,?_,rfl⟩;(intro h;exact⟨_,_,_,rfl,rfl,rfl,rfl⟩)
 ·refine tw ?_;rw[BJ];refine tw ?_;refine hP _ ⟨0,0,0,0,false,?_,rfl⟩;(intro h;exact absurd h zal)
 ·refine tw ?_;rw[BJ];refine tw ?_;refine hP _ ⟨0,0,0,0,true,?_,rfl⟩;(intro h;exact⟨_,_,_,rfl,rfl,rfl,rfl⟩)
 ·refine tw ?_;rw[BJ];refine tw ?_;refine hP _ ⟨0,0,2,0,true,?_,rfl⟩;(intro h;exact⟨_,_,_,rfl,rfl,rfl,rfl⟩)
 ·refine tw ?_;rw[BJ];refine tw ?_;refine hP _ ⟨0,0,1,2,true,?_,rfl⟩;(intro h;exact⟨_,_,_,rfl,rfl,rfl,rfl⟩)
 ·refine tw ?_;rw[BJ];refine tw ?_;refine hP _ ⟨0,0,1,1,true,?_,rfl⟩;(intro h;exact⟨_,_,_,rfl,rfl,rfl,rfl⟩)
 ·refine tw ?_;rw[BJ];refine tw ?_;refine hP _ ⟨0,0,1,0,true,?_,rfl⟩;(intro h;exact⟨_,_,_,rfl,rfl,rfl,rfl⟩)
 ·refine tw ?_;rw[BJ];refine tw ?_;refine hP _ ⟨1,1,3,3,true,?_,rfl⟩;(intro h;exact⟨_,_,_,rfl,rfl,rfl,rfl⟩)
 ·refine tw ?_;rw[BJ];refine tw ?_;refine hP _ ⟨1,1,3,3,true,?_,rfl⟩;(intro h;exact⟨_,_,_,rfl,rfl,rfl,rfl⟩)
 ·refine tw ?_;rw[BJ];refine tw ?_;refine hP _ ⟨1,1,0,2,true,?_,rfl⟩;(intro h;exact⟨_,_,_,rfl,rfl,rfl,rfl⟩)
 ·refine tw ?_;rw[BJ];refine tw ?_;refine hP _ ⟨0,0,1,0,true,?_,rfl⟩;(intro h;exact⟨_,_,_,rfl,rfl,rfl,rfl⟩)
 ·refine tw ?_;rw[BJ];refine tw ?_;refine hP _ ⟨1,1,0,0,true,?_,rfl⟩;(intro h;exact⟨_,_,_,rfl,rfl,rfl,rfl⟩)
 ·refine tw ?_;rw[BJ];refine tw ?_;refine hP _ ⟨1,1,0,1,true,?_,rfl⟩;(intro h;exact⟨_,_,_,rfl,rfl,rfl,rfl⟩)
 ·refine tw ?_;rw[BJ];refine tw ?_;refine hP _ ⟨1,1,2,1,true,?_,rfl⟩;(intro h;exact⟨_,_,_,rfl,rfl,rfl,rfl⟩)
 ·refine tw ?_;rw[BJ];refine tw ?_;refine hP _ ⟨0,0,1,0,true,?_,rfl⟩;(intro h;exact⟨_,_,_,rfl,rfl,rfl,rfl⟩)
 ·refine tw ?_;rw[BJ];refine tw ?_;refine hP _ ⟨0,0,6,-1,true,?_,rfl⟩;(intro h;exact⟨_,_,_,rfl,rfl,rfl,rfl⟩)
 ·refine tw ?_;rw[BJ];refine tw ?_;refine hP _ ⟨1,1,2,1,true,?_,rfl⟩;(intro h;exact⟨_,_,_,rfl,rfl,rfl,rfl⟩)
 ·refine tw ?_;rw[BJ];refine tw ?_;refine hP _ ⟨0,0,1,3,true,?_,rfl⟩;(intro h;exact⟨_,_,_,rfl,rfl,rfl,rfl⟩)
 ·refine tw ?_;rw[BJ];refine tw ?_;refine hP _ ⟨0,0,1,0,true,?_,rfl⟩;(intro h;exact⟨_,_,_,rfl,rfl,rfl,rfl⟩)
 ·refine tw ?_;rw[BJ];refine tw ?_;refine hP _ ⟨1,1,4,2,true,?_,rfl⟩;(intro h;exact⟨_,_,_,rfl,rfl,rfl,rfl⟩)
 ·refine tw ?_;rw[BJ];refine tw ?_;refine hP _ ⟨1,1,1,0,true,?_,rfl⟩;(intro h;exact⟨_,_,_,rfl,rfl,rfl,rfl⟩)
 ·refine tw ?_;rw[BJ];refine tw ?_;refine hP _ ⟨2,1,1,1,true,?_,rfl⟩;(intro h;exact⟨_,_,_,rfl,rfl,rfl,rfl⟩)
 ·refine tw ?_;rw[BJ];refine tw ?_;refine hP _ ⟨2,1,2,0,true,?_,rfl⟩;(intro h;exact⟨_,_,_,rfl,rfl,rfl,rfl⟩)
 ·refine tw ?_;rw[BJ];refine tw ?_;refine hP _ ⟨2,1,0,0,true,?_,rfl⟩;(intro h;exact⟨_,_,_,rfl,rfl,rfl,rfl⟩)
 ·refine tw ?_;rw[BJ];refine tw ?_;refine hP _ ⟨2,1,0,1,true,?_,rfl⟩;(intro h;exact⟨_,_,_,rfl,rfl,rfl,rfl⟩)
 ·refine tw ?_;rw[BJ];refine tw ?_;refine hP _ ⟨2,1,0,1,true,?_,rfl⟩;(intro h;exact⟨_,_,_,rfl,rfl,rfl,rfl⟩)
 ·refine tw ?_;rw[BJ];refine tw ?_;refine hP _ ⟨2,1,0,0,true,?_,rfl⟩;(intro h;exact⟨_,_,_,rfl,rfl,rfl,rfl⟩)
 ·refine tw ?_;rw[BJ];refine tw ?_;refine hP _ ⟨2,1,0,0,true,?_,rfl⟩;(intro h;exact⟨_,_,_,rfl,rfl,rfl,rfl⟩)
 ·refine tw ?_;rw[BJ];refine tw ?_;refine hP _ ⟨1,1,0,1,true,?_,rfl⟩;(intro h;exact⟨_,_,_,rfl,rfl,rfl,rfl⟩)
 ·refine tw ?_;rw[BJ];refine tw ?_;refine hP _ ⟨1,1,0,0,true,?_,rfl⟩;(intro h;exact⟨_,_,_,rfl,rfl,rfl,rfl⟩)
 ·refine tw ?_;rw[BJ];refine tw ?_;refine hP _ ⟨1,1,0,0,true,?_,rfl⟩;(intro h;exact⟨_,_,_,rfl,rfl,rfl,rfl⟩)
 ·refine tw ?_;rw[BJ];refine tw ?_;refine hP _ ⟨1,1,3,0,true,?_,rfl⟩;(intro h;exact⟨_,_,_,rfl,rfl,rfl,rfl⟩)
 ·refine tw ?_;rw[BJ];refine tw ?_
  rcases AY c 0 with hc0|hc0
  ·refine tw ?_;refine hP _ ⟨0,0,0,0,false,?_,rfl⟩;(intro h;exact absurd h zal)
  refine tw ?_;refine hP _ ⟨0,0,0,0,false,?_,rfl⟩;(intro h;exact absurd h zal)
theorem oP(w n:Int):Ah E0 (.call 118 [.i w,.i n] []) fun r=>∃ b:Bool,(b=true->n=w\/w = -1/\0<=n/\n<=8)/\r=some (.ret (.b b) []):=by
 refine CU fun P hP=>tw ?_
 rcases AL n w with hc0|hc0
 ·subst hc0;refine tw ?_;exact hP _ ⟨true,A8,rfl⟩
 refine tw ?_
 rcases AL w (-1) with hc1|hc1
 ·subst hc1;refine tw ?_
  rcases DD 0 n with hc2|hc2
  ·refine tw ?_
   refine hP _ ⟨Et n 8,?_,rfl⟩;(intro hz;simp only[Es,FB,decide_eq_true_eq,Bool.false_eq_true] at hz<;>omega)
  refine tw ?_
  refine hP _ ⟨false,?_,rfl⟩;(intro hz;simp only[Es,FB,decide_eq_true_eq,Bool.false_eq_true] at hz<;>omega)
 refine tw ?_
 refine hP _ ⟨false,?_,rfl⟩;(intro hz;simp only[Es,FB,decide_eq_true_eq,Bool.false_eq_true] at hz<;>omega)
theorem UR(h:Int):Ah E0 (.call 119 [.i h] []) fun r=>∃ b:Bool,(b=true->0<=h/\h<=65535)/\r=some (.ret (.b b) []):=by
 refine CU fun P hP=>tw ?_
 rcases DD 0 h with hc0|hc0
 ·refine tw ?_
  refine hP _ ⟨Et h 65535,?_,rfl⟩;(intro hz;simp only[Es,FB,decide_eq_true_eq,Bool.false_eq_true] at hz<;>omega)
 refine tw ?_
 refine hP _ ⟨false,?_,rfl⟩;(intro hz;simp only[Es,FB,decide_eq_true_eq,Bool.false_eq_true] at hz<;>omega)
theorem RJ(c:Int)(hs:List Int)(az:List (El Aq))(is:List Int)(bs:List (List UInt8))(hf:Few hs az is bs):∀(n:Nat) (j:Int) (b:List UInt8),0<=j->j+n=hs.length->5<=b.length->(b.length:Int)<=5+2*j->Ah E0 (.loop 182 0 0 2 [(1,.pa 0 0),(3,.nm 1),(4,.i j)] [(0,some (.var [.i c,.sl .i64 hs,.sl Aq az,.sl .i64 is,.sl (.sl .u8) bs])),(1,some (.row 5 .u8 b))]) fun r=>∃ b:List UInt8,(5<=b.length/\b.length<=25)/\r=some (.fin (.exit 0) 2 [(1,.pa 0 0),(3,.nm 1)] [(0,some (.var [.i c,.sl .i64 hs,.sl Aq az,.sl .i64 is,.sl (.sl .u8) bs])),(1,some (.row 5 .u8 b))])
 | 0,j,b,h0,hj,h5,hb=>by
  have hl:=hf.hl
  refine CU fun P hP=>?_
  refine tw ?_;exact hP _ ⟨b,A8,rfl⟩
 | n+1,j,b,h0,hj,h5,hb=>by
  have hl:=hf.hl
  have ih:=fun b=>RJ c hs az is bs hf n (j+1) b zaa zaa
  refine CU fun P hP=>?_
  refine tw ?_;obtain⟨x0,m0,g0⟩:=EL (l:=hs) (i:=j) zaa;rw[g0];refine tw ?_;rw[CQ _ _ _ A8];refine tw ?_;exact hP _ (ih _ zaN zaN)
theorem RN(c:Int)(hs:List Int)(az:List (El Aq))(is:List Int)(bs:List (List UInt8))(hf:Few hs az is bs):∀(n:Nat) (j:Int) (b:List UInt8),0<=j->j+n=az.length->5<=b.length->(b.length:Int)<=25+2010*j->Ah E0 (.loop 182 1 0 2 [(1,.pa 0 0),(3,.nm 1),(5,.i j)] [(0,some (.var [.i c,.sl .i64 hs,.sl Aq az,.sl .i64 is,.sl (.sl .u8) bs])),(1,some (.row 5 .u8 b))]) fun r=>∃ b:List UInt8,(5<=b.length/\b.length<=20125)/\r=some (.fin (.exit 2) 2 [(1,.pa 0 0),(3,.nm 1)] [(0,some (.var [.i c,.sl .i64 hs,.sl Aq az,.sl .i64 is,.sl (.sl .u8) bs])),(1,some (.row 5 .u8 b))])
 | 0,j,b,h0,hj,h5,hb=>by
  have hl:=hf.al
  refine CU fun P hP=>?_
  refine tw ?_;exact hP _ ⟨b,A8,rfl⟩
 | n+1,j,b,h0,hj,h5,hb=>by
  have hl:=hf.al
  have hm:=hf.am
  have ih:=fun b=>RN c hs az is bs hf n (j+1) b zaa zaa
  refine CU fun P hP=>?_
  refine tw ?_;obtain⟨⟨x0a,x0b,x0c⟩,f0,g0⟩:=DF hm (i:=j) A8;simp only[GL,G6,Gn,FZ,CX,DI,DJ,D8] at f0;rw[g0];refine tw ?_;rw[CQ _ _ _ A8];refine tw ?_;rw[g0];refine tw ?_;rw[Fb _ _ A8];refine tw ?_;rw[g0];refine tw ?_;rw[Fb _ _ A8];refine tw ?_;exact hP _ (ih _ zaN zaN)
theorem RP(c:Int)(hs:List Int)(az:List (El Aq))(is:List Int)(bs:List (List UInt8))(hf:Few hs az is bs):∀(n:Nat) (j:Int) (b:List UInt8),0<=j->j+n=is.length->5<=b.length->(b.length:Int)<=20125+8*j->Ah E0 (.loop 182 2 0 2 [(1,.pa 0 0),(3,.nm 1),(6,.i j)] [(0,some (.var [.i c,.sl .i64 hs,.sl Aq az,.sl .i64 is,.sl (.sl .u8) bs])),(1,some (.row 5 .u8 b))]) fun r=>∃ b:List UInt8,(5<=b.length/\b.length<=20205)/\r=some (.fin (.exit 4) 2 [(1,.pa 0 0),(3,.nm 1)] [(0,some (.var [.i c,.sl .i64 hs,.sl Aq az,.sl .i64 is,.sl (.sl .u8) bs])),(1,some (.row 5 .u8 b))])
 | 0,j,b,h0,hj,h5,hb=>by
  have hl:=hf.il
  refine CU fun P hP=>?_
  refine tw ?_;exact hP _ ⟨b,A8,rfl⟩
 | n+1,j,b,h0,hj,h5,hb=>by
  have hl:=hf.il
  have ih:=fun b=>RP c hs az is bs hf n (j+1) b zaa zaa
  refine CU fun P hP=>?_
  refine tw ?_;obtain⟨x0,m0,g0⟩:=EL (l:=is) (i:=j) zaa;rw[g0];refine tw ?_;rw[CQ _ _ _ A8];refine tw ?_;exact hP _ (ih _ zaN zaN)
theorem RQ(c:Int)(hs:List Int)(az:List (El Aq))(is:List Int)(bs:List (List UInt8))(hf:Few hs az is bs):∀(n:Nat) (j:Int) (b:List UInt8),0<=j->j+n=bs.length->5<=b.length->(b.length:Int)<=20206+2004*j->Ah E0 (.loop 182 3 0 2 [(1,.pa 0 0),(3,.nm 1),(7,.i j)] [(0,some (.var [.i c,.sl .i64 hs,.sl Aq az,.sl .i64 is,.sl (.sl .u8) bs])),(1,some (.row 5 .u8 b))]) fun r=>∃ b:List UInt8,(5<=b.length/\b.length<=40246)/\r=some (.fin (.exit 6) 1 [(3,.nm 0)] [(0,some (.row 5 .u8 b))])
 | 0,j,b,h0,hj,h5,hb=>by
  have hl:=hf.bl
  refine CU fun P hP=>?_
  refine tw ?_;exact hP _ ⟨b,A8,rfl⟩
 | n+1,j,b,h0,hj,h5,hb=>by
  have hl:=hf.bl
  have hm:=hf.bm
  have ih:=fun b=>RQ c hs az is bs hf n (j+1) b zaa zaa
  refine CU fun P hP=>?_
  refine tw ?_;obtain⟨x0,f0,g0⟩:=DF hm (i:=j) A8;rw[g0];refine tw ?_;rw[Fb _ _ A8];refine tw ?_;exact hP _ (ih _ zaN zaN)
theorem oQ(c:Int)(hs:List Int)(az:List (El Aq))(is:List Int)(bs:List (List UInt8))(hf:Few hs az is bs):Ah E0 (.call 182 [rq c hs az is bs] []) fun r=>∃ l:List UInt8,(l.length<=100000)/\r=some (.ret (.sl .u8 l) []):=by
 refine CU fun P hP=>tw ?_
 obtain⟨b0,⟨h0_1,h0_2⟩,yy0⟩:=RJ c hs az is bs A8 (Int.toNat (↑hs.length-(0))) 0 [UInt8.ofNat 83,UInt8.ofNat 87,UInt8.ofNat 0,UInt8.ofNat 0,EM c] A8 zaa A8 A8;refine Am yy0 ?_;obtain⟨b1,⟨h1_1,h1_2⟩,yy1⟩:=RN c hs az is bs A8 (Int.toNat (↑az.length-(0))) 0 b0 A8 zaa A8 A8;refine Am yy1 ?_;obtain⟨b2,⟨h2_1,h2_2⟩,yy2⟩:=RP c hs az is bs A8 (Int.toNat (↑is.length-(0))) 0 b1 A8 zaa A8 A8;refine Am yy2 ?_;obtain⟨b3,⟨h3_1,h3_2⟩,yy3⟩:=RQ c hs az is bs A8 (Int.toNat (↑bs.length-(0))) 0 (BI b2 [EM (Be bs)]) A8 zaa A8 A8;refine Am yy3 ?_;obtain⟨x4,m4,g4⟩:=EL (l:=b3) (i:=2) zaa;rw[g4];refine tw ?_;obtain⟨x5,m5,g5⟩:=EL (l:=Bf b3 2 (EM (CV (Be b3) (UInt64.ofNat 8).toNat))) (i:=3) zaD;rw[g5];refine tw ?_;exact hP _ ⟨Bf (Bf b3 2 (EM (CV (Be b3) (UInt64.ofNat 8).toNat))) 3 (EM (Be b3)),A8,rfl⟩
theorem RU(c:Int)(hs:List Int)(az:List (El Aq))(is:List Int)(bs:List (List UInt8))(hf:Few hs az is bs):∀(n:Nat) (j:Int),0<=j->j+n=az.length->Ah E0 (.loop 120 0 0 1 [(1,.pa 0 0),(3,.i j)] [(0,some (.var [.i c,.sl .i64 hs,.sl Aq az,.sl .i64 is,.sl (.sl .u8) bs]))]) fun r=>r=some (.fin .ret 1 [(1,.pa 0 0),(2,.b true)] [(0,some (.var [.i c,.sl .i64 hs,.sl Aq az,.sl .i64 is,.sl (.sl .u8) bs]))])\/r=some (.fin (.exit 0) 1 [(1,.pa 0 0)] [(0,some (.var [.i c,.sl .i64 hs,.sl Aq az,.sl .i64 is,.sl (.sl .u8) bs]))])
 | 0,j,h0,hj=>by
  have hl:=hf.al
  refine CU fun P hP=>?_
  refine tw ?_;exact hP _ (Or.inr rfl)
 | n+1,j,h0,hj=>by
  have hl:=hf.al
  have hm:=hf.am
  have ih:=RU c hs az is bs hf n (j+1) zaa zaa
  refine CU fun P hP=>?_
  refine tw ?_;obtain⟨⟨x0a,x0b,x0c⟩,f0,g0⟩:=DF hm (i:=j) A8;simp only[GL,G6,Gn,FZ,CX,DI,DJ,D8] at f0;rw[g0];refine tw ?_
  rcases AY 128 (↑(List.length x0b)) with hc1|hc1
  ·refine tw ?_;exact hP _ (Or.inl rfl)
  refine tw ?_;rw[g0];refine tw ?_
  rcases AY 128 (↑(List.length x0c)) with hc2|hc2
  ·refine tw ?_;exact hP _ (Or.inl rfl)
  refine tw ?_;exact hP _ ih
theorem RV(c:Int)(hs:List Int)(az:List (El Aq))(is:List Int)(bs:List (List UInt8))(hf:Few hs az is bs):∀(n:Nat) (j:Int),0<=j->j+n=bs.length->Ah E0 (.loop 120 1 0 1 [(1,.pa 0 0),(4,.i j)] [(0,some (.var [.i c,.sl .i64 hs,.sl Aq az,.sl .i64 is,.sl (.sl .u8) bs]))]) fun r=>r=some (.fin .ret 1 [(1,.pa 0 0),(2,.b true)] [(0,some (.var [.i c,.sl .i64 hs,.sl Aq az,.sl .i64 is,.sl (.sl .u8) bs]))])\/(∀ i:Int,j<=i->∀ x,BZ bs i=some x->x.length<=1024)/\r=some (.fin (.exit 2) 1 [(1,.pa 0 0)] [(0,some (.var [.i c,.sl .i64 hs,.sl Aq az,.sl .i64 is,.sl (.sl .u8) bs]))])
 | 0,j,h0,hj=>by
  have hl:=hf.bl
  refine CU fun P hP=>?_
  refine tw ?_;refine hP _ (Or.inr ⟨?_,rfl⟩);exact eU zaa
 | n+1,j,h0,hj=>by
  have hl:=hf.bl
  have hm:=hf.bm
  have ih:=RV c hs az is bs hf n (j+1) zaa zaa
  refine CU fun P hP=>?_
  refine tw ?_;obtain⟨x0,f0,g0⟩:=DF hm (i:=j) A8;rw[g0];refine tw ?_
  rcases AY 1024 (↑x0.length) with hc1|hc1
  ·refine tw ?_;exact hP _ (Or.inl rfl)
  refine tw ?_;exact hP _ (ih.imp id fun h=>⟨eQ (p:=fun x:List UInt8=>x.length<=1024) zat zaa h.1,h.2⟩)
theorem oU(c:Int)(hs:List Int)(az:List (El Aq))(is:List Int)(bs:List (List UInt8))(hf:Few hs az is bs):Ah E0 (.call 120 [rq c hs az is bs] []) fun r=>∃ b:Bool,(b=false->∀ x∈bs,x.length<=1024)/\r=some (.ret (.b b) []):=by
 refine CU fun P hP=>tw ?_
 obtain(yy0|yy0):=RU c hs az is bs A8 (Int.toNat (↑az.length-(0))) 0 A8 zaa
 ·refine Am yy0 ?_;refine hP _ ⟨true,?_,rfl⟩;(intro h;cases h)
 refine Am yy0 ?_
 obtain(yy1|⟨h1_0,yy1⟩):=RV c hs az is bs A8 (Int.toNat (↑bs.length-(0))) 0 A8 zaa
 ·refine Am yy1 ?_;refine hP _ ⟨true,?_,rfl⟩;(intro h;cases h)
 refine Am yy1 ?_;obtain⟨l2,h2_1,yy2⟩:=oQ c hs az is bs A8;refine Am yy2 ?_;refine hP _ ⟨FD 2048 (Be l2),?_,rfl⟩;exact fun _=>Wq zat
theorem UT(c:Int)(hs:List Int)(az:List (El Aq))(is:List Int)(bs:List (List UInt8))(hf:Few hs az is bs):∀(n:Nat) (j:Int),0<=j->j+n=hs.length->Ah E0 (.loop 58 0 0 1 [(1,.pa 0 0),(5,.i j)] [(0,some (.var [.i c,.sl .i64 hs,.sl Aq az,.sl .i64 is,.sl (.sl .u8) bs]))]) fun r=>(∃ e:Int,(e≠0)/\r=some (.fin .ret 1 [(1,.pa 0 0),(2,.i e)] [(0,some (.var [.i c,.sl .i64 hs,.sl Aq az,.sl .i64 is,.sl (.sl .u8) bs]))]))\/(∀ i:Int,j<=i->∀ x,BZ hs i=some x->0<=x/\x<=65535)/\r=some (.fin (.exit 0) 1 [(1,.pa 0 0)] [(0,some (.var [.i c,.sl .i64 hs,.sl Aq az,.sl .i64 is,.sl (.sl .u8) bs]))])
 | 0,j,h0,hj=>by
  have hl:=hf.hl
  refine CU fun P hP=>?_
  refine tw ?_;refine hP _ (Or.inr ⟨?_,rfl⟩);exact eU zaa
 | n+1,j,h0,hj=>by
  have hl:=hf.hl
  have ih:=UT c hs az is bs hf n (j+1) zaa zaa
  refine CU fun P hP=>?_
  refine tw ?_;obtain⟨x0,m0,g0⟩:=EL (l:=hs) (i:=j) zaa;rw[g0];refine tw ?_;obtain⟨b1,h1_1,yy1⟩:=UR x0;refine Am yy1 ?_
  rcases bo b1 with rfl|rfl
  ·replace h1_1:=h1_1 rfl
   refine tw ?_;exact hP _ (ih.imp id fun h=>⟨eQ zat zaV h.1,h.2⟩)
  refine tw ?_;exact hP _ (Or.inl ⟨1,A8,rfl⟩)
theorem UU(c:Int)(hs:List Int)(az:List (El Aq))(is:List Int)(bs:List (List UInt8))(hf:Few hs az is bs):∀(n:Nat) (j:Int),0<=j->j+n=az.length->Ah E0 (.loop 58 1 0 1 [(1,.pa 0 0),(6,.i j)] [(0,some (.var [.i c,.sl .i64 hs,.sl Aq az,.sl .i64 is,.sl (.sl .u8) bs]))]) fun r=>(∃ e:Int,(e≠0)/\r=some (.fin .ret 1 [(1,.pa 0 0),(2,.i e)] [(0,some (.var [.i c,.sl .i64 hs,.sl Aq az,.sl .i64 is,.sl (.sl .u8) bs]))]))\/(∀ i:Int,j<=i->∀ x,BZ az i=some x->(0:Int)<=x.1/\(x.1:Int)<=65535)/\r=some (.fin (.exit 2) 1 [(1,.pa 0 0)] [(0,some (.var [.i c,.sl .i64 hs,.sl Aq az,.sl .i64 is,.sl (.sl .u8) bs]))])
 | 0,j,h0,hj=>by
  have hl:=hf.al
  refine CU fun P hP=>?_
  refine tw ?_;refine hP _ (Or.inr ⟨?_,rfl⟩);exact eU zaa
 | n+1,j,h0,hj=>by
  have hl:=hf.al
  have ih:=UU c hs az is bs hf n (j+1) zaa zaa
  refine CU fun P hP=>?_
  refine tw ?_;obtain⟨x0,m0,g0⟩:=EL (l:=az) (i:=j) zaa
  obtain⟨x0a,x0b,x0c⟩:=x0;rw[g0];refine tw ?_;obtain⟨b1,h1_1,yy1⟩:=UR x0a;refine Am yy1 ?_
  rcases bo b1 with rfl|rfl
  ·replace h1_1:=h1_1 rfl
   refine tw ?_;exact hP _ (ih.imp id fun h=>⟨eQ zat zaV h.1,h.2⟩)
  refine tw ?_;exact hP _ (Or.inl ⟨1,A8,rfl⟩)
theorem UV(c:Int)(hs:List Int)(az:List (El Aq))(is:List Int)(bs:List (List UInt8))(hf:Few hs az is bs):∀(n:Nat) (j:Int),0<=j->j+n=is.length->Ah E0 (.loop 58 2 0 1 [(1,.pa 0 0),(7,.i j)] [(0,some (.var [.i c,.sl .i64 hs,.sl Aq az,.sl .i64 is,.sl (.sl .u8) bs]))]) fun r=>(∃ e:Int,(e≠0)/\r=some (.fin .ret 1 [(1,.pa 0 0),(2,.i e)] [(0,some (.var [.i c,.sl .i64 hs,.sl Aq az,.sl .i64 is,.sl (.sl .u8) bs]))]))\/(∀ i:Int,j<=i->∀ x,BZ is i=some x->0<=x/\x<=1099511627776)/\r=some (.fin (.exit 4) 1 [(1,.pa 0 0)] [(0,some (.var [.i c,.sl .i64 hs,.sl Aq az,.sl .i64 is,.sl (.sl .u8) bs]))])
 | 0,j,h0,hj=>by
  have hl:=hf.il
  refine CU fun P hP=>?_
  refine tw ?_;refine hP _ (Or.inr ⟨?_,rfl⟩);exact eU zaa
 | n+1,j,h0,hj=>by
  have hl:=hf.il
  have ih:=UV c hs az is bs hf n (j+1) zaa zaa
  refine CU fun P hP=>?_
  refine tw ?_;obtain⟨x0,m0,g0⟩:=EL (l:=is) (i:=j) zaa;rw[g0];refine tw ?_
  rcases AY x0 0 with hc1|hc1
  ·refine tw ?_;exact hP _ (Or.inl ⟨1,A8,rfl⟩)
  refine tw ?_;rw[g0];refine tw ?_
  rcases AY 1099511627776 x0 with hc2|hc2
  ·refine tw ?_;exact hP _ (Or.inl ⟨1,A8,rfl⟩)
  refine tw ?_;exact hP _ (ih.imp id fun h=>⟨eQ (p:=fun x:Int=>0<=x/\x<=1099511627776) zat zaV h.1,h.2⟩)
theorem kV(c:Int)(hs:List Int)(az:List (El Aq))(is:List Int)(bs:List (List UInt8))(hf:Few hs az is bs):Ah E0 (.call 58 [rq c hs az is bs] []) fun r=>∃ e:Int,(e=0->Rok c hs az is bs)/\r=some (.ret (.i e) []):=by
 refine CU fun P hP=>tw ?_
 obtain⟨n00,n10_1,n20_2,n30_3,b0_4,h0_5,yy0⟩:=kU c;refine Am yy0 ?_
 rcases bo b0_4 with rfl|rfl
 ·replace h0_5:=h0_5 rfl
  refine tw ?_
  rcases AX (↑hs.length) n00 with hc2|hc2
  ·refine tw ?_;exact hP _ ⟨1,A8,rfl⟩
  subst hc2;refine tw ?_
  rcases AX (↑az.length) n10_1 with hc3|hc3
  ·refine tw ?_;exact hP _ ⟨1,A8,rfl⟩
  subst hc3;refine tw ?_
  rcases AX (↑is.length) n20_2 with hc4|hc4
  ·refine tw ?_;exact hP _ ⟨1,A8,rfl⟩
  subst hc4;refine tw ?_;obtain⟨b5,h5_1,yy5⟩:=oP n30_3 (Be bs);refine Am yy5 ?_
  rcases bo b5 with rfl|rfl
  ·replace h5_1:=h5_1 rfl
   refine tw ?_
   obtain(⟨e7,h7_1,yy7⟩|⟨h7_2,yy7⟩):=UT c hs az is bs A8 (Int.toNat (↑hs.length-(0))) 0 A8 zaa
   ·refine Am yy7 ?_;exact hP _ ⟨e7,A8,rfl⟩
   refine Am yy7 ?_
   obtain(⟨e8,h8_1,yy8⟩|⟨h8_2,yy8⟩):=UU c hs az is bs A8 (Int.toNat (↑az.length-(0))) 0 A8 zaa
   ·refine Am yy8 ?_;exact hP _ ⟨e8,A8,rfl⟩
   refine Am yy8 ?_
   obtain(⟨e9,h9_1,yy9⟩|⟨h9_2,yy9⟩):=UV c hs az is bs A8 (Int.toNat (↑is.length-(0))) 0 A8 zaa
   ·refine Am yy9 ?_;exact hP _ ⟨e9,A8,rfl⟩
   refine Am yy9 ?_;obtain⟨b10,h10_1,yy10⟩:=oU c hs az is bs A8;refine Am yy10 ?_
   rcases bo b10 with rfl|rfl
   ·refine tw ?_;exact hP _ ⟨4,A8,rfl⟩
   replace h10_1:=h10_1 rfl
   refine tw ?_;refine hP _ ⟨0,?_,rfl⟩;exact fun _=>A4s hf zat zaa zaa zaa (by simp only[BF] at *;omega) zat zat zat zat
  refine tw ?_;exact hP _ ⟨1,A8,rfl⟩
 refine tw ?_;exact hP _ ⟨6,A8,rfl⟩
end
section
attribute [local irreducible] Cj Dt D9 DT DK BH Du Ey Fh FD Et D7 CV Df DX and' Dk DU CG Ba Bl CJ CS BK BM BB BG Dv G7 Dw EM Dl Bh CO Bz C9 Bo BD Bi BO Be BZ Dx Bf DL Bd BI D6 Dy fits Dz Dn AZ Ap BL
attribute [local irreducible] E5 CP Bq nameB ES Em Ar FK En FH Eu Fe CE IU Ej Gf GV Ee Gp FC JL JZ Ed
theorem oV(s:MS)(c:Int)(az:List (El Aq))(is:List Int)(bs:List (List UInt8))(hi:Kp a k s)(hk:k<=900):Ah E0 (.call 206 [av s,rq c [] az is bs] []) fun r=>r=some (.ret (.b true) []):=by
 refine CU fun P hP=>tw ?_
 exact hP _ rfl
theorem oW(s:MS)(c h:Int)(az:List (El Aq))(is:List Int)(bs:List (List UInt8))(hi:Kp a k s)(hc:c=9\/c=10\/c=11\/c=13\/c=14\/c=15\/c=18\/c=21\/c=22\/c=30\/c=31\/c=32\/c=33):Ah E0 (.call 206 [av s,rq c [h] az is bs] []) fun r=>∃ b:Bool,(b=true->(c=9->0<=h/\h<=2)/\(c=10\/c=11\/c=13\/c=14\/c=15->0<=MP h s.ob)/\(c=30->0<=h/\h<=3))/\r=some (.ret (.b b) []):=by
 have hol:=hi.obl
 have hxl:=hi.ixl
 have hxm:=hi.ixm
 refine CU fun P hP=>tw ?_
 rcases AL c 9 with hc0|hc0
 ·subst hc0;refine tw ?_
  rcases DD 0 h with hc1|hc1
  ·refine tw ?_
   refine hP _ ⟨Et h 2,?_,rfl⟩;(intro hz;simp only[Es,FB,decide_eq_true_eq,Bool.false_eq_true] at hz<;>omega)
  refine tw ?_
  refine hP _ ⟨false,?_,rfl⟩;(intro hz;simp only[Es,FB,decide_eq_true_eq,Bool.false_eq_true] at hz<;>omega)
 refine tw ?_
 rcases AL c 10 with hc2|hc2
 ·subst hc2;refine tw ?_;rw[Hq (hl:=A8) ..];refine tw ?_
  refine hP _ ⟨Et 0 (MP h s.ob),?_,rfl⟩;(intro hz;simp only[Es,FB,decide_eq_true_eq,Bool.false_eq_true] at hz<;>omega)
 refine tw ?_
 rcases AL c 11 with hc3|hc3
 ·subst hc3;refine tw ?_;rw[Hq (hl:=A8) ..];refine tw ?_
  refine hP _ ⟨Et 0 (MP h s.ob),?_,rfl⟩;(intro hz;simp only[Es,FB,decide_eq_true_eq,Bool.false_eq_true] at hz<;>omega)
 refine tw ?_
 rcases AL c 13 with hc4|hc4
 ·subst hc4;refine tw ?_;rw[Hq (hl:=A8) ..];refine tw ?_
  refine hP _ ⟨Et 0 (MP h s.ob),?_,rfl⟩;(intro hz;simp only[Es,FB,decide_eq_true_eq,Bool.false_eq_true] at hz<;>omega)
 refine tw ?_
 rcases AL c 14 with hc5|hc5
 ·subst hc5;refine tw ?_;rw[Hq (hl:=A8) ..];refine tw ?_
  refine hP _ ⟨Et 0 (MP h s.ob),?_,rfl⟩;(intro hz;simp only[Es,FB,decide_eq_true_eq,Bool.false_eq_true] at hz<;>omega)
 refine tw ?_
 rcases AL c 15 with hc6|hc6
 ·subst hc6;refine tw ?_;rw[Hq (hl:=A8) ..];refine tw ?_
  refine hP _ ⟨Et 0 (MP h s.ob),?_,rfl⟩;(intro hz;simp only[Es,FB,decide_eq_true_eq,Bool.false_eq_true] at hz<;>omega)
 refine tw ?_
 rcases AL c 18 with hc7|hc7
 ·subst hc7;refine tw ?_;obtain⟨b8,yy8⟩:=dI s h hi;refine Am yy8 ?_;exact hP _ ⟨b8,A8,rfl⟩
 refine tw ?_
 rcases AL c 21 with hc9|hc9
 ·subst hc9;refine tw ?_
  rcases AL h 1 with hc10|hc10
  ·subst hc10;refine tw ?_;exact hP _ ⟨true,A8,rfl⟩
  refine tw ?_;exact hP _ ⟨Ey h 2,A8,rfl⟩
 refine tw ?_
 rcases AL c 22 with hc11|hc11
 ·subst hc11;refine tw ?_
  rcases AL h 1 with hc12|hc12
  ·subst hc12;refine tw ?_;exact hP _ ⟨true,A8,rfl⟩
  refine tw ?_;exact hP _ ⟨Ey h 2,A8,rfl⟩
 refine tw ?_
 rcases AL c 30 with hc13|hc13
 ·subst hc13;refine tw ?_
  rcases DD 0 h with hc14|hc14
  ·refine tw ?_
   refine hP _ ⟨Et h 3,?_,rfl⟩;(intro hz;simp only[Es,FB,decide_eq_true_eq,Bool.false_eq_true] at hz<;>omega)
  refine tw ?_
  refine hP _ ⟨false,?_,rfl⟩;(intro hz;simp only[Es,FB,decide_eq_true_eq,Bool.false_eq_true] at hz<;>omega)
 refine tw ?_
 rcases AL c 31 with hc15|hc15
 ·subst hc15;refine tw ?_
  rcases AL h 2 with hc16|hc16
  ·subst hc16;refine tw ?_;exact hP _ ⟨true,A8,rfl⟩
  refine tw ?_;exact hP _ ⟨Ey h 3,A8,rfl⟩
 refine tw ?_
 rcases AL c 32 with hc17|hc17
 ·subst hc17;refine tw ?_;exact hP _ ⟨Ey h 3,A8,rfl⟩
 refine tw ?_;exact hP _ ⟨Ey h 3,A8,rfl⟩
theorem oZ(s:MS)(c h h2:Int)(az:List (El Aq))(is:List Int)(bs:List (List UInt8))(hi:Kp a k s)(hc:23<=c/\c<=29):Ah E0 (.call 206 [av s,rq c [h,h2] az is bs] []) fun r=>∃ b:Bool,(b=true->0<=L9 h2 s.ix)/\r=some (.ret (.b b) []):=by
 have hol:=hi.obl
 have hxl:=hi.ixl
 have hxm:=hi.ixm
 refine CU fun P hP=>tw ?_
 rw[Ea (hl:=A8) (hx:=A8) ..];refine tw ?_
 rcases DD 0 (L9 h2 s.ix) with hc0|hc0
 ·refine tw ?_
  rcases AL h 1 with hc1|hc1
  ·subst hc1;refine tw ?_;exact hP _ ⟨true,A8,rfl⟩
  refine tw ?_;exact hP _ ⟨Ey h h2,A8,rfl⟩
 refine tw ?_
 refine hP _ ⟨false,?_,rfl⟩;(intro hz;simp only[Es,FB,decide_eq_true_eq,Bool.false_eq_true] at hz<;>omega)
variable (sd au:List (List UInt8))(en:List UInt8)(ac re rs ck:Int)(od:Bool)(sb:List (List (List UInt8)))(su mc:Int)(ix:List (El H5))(l1 l2 l3 l4 l5 l6:Int)(ks:List (El Ja))(st sp:Bool)(rb:List (List (List UInt8)))(ru vc:Int)(sf:Bool)(dr:Int)(ss:List (El sesT))(ob:List (El objT))(rl wl:List Int)
theorem BA(e:Int):Y E0 (.call 205 [(sX sd au en ac re rs ck od sb su mc ix l1 l2 l3 l4 l5 l6 ks st sp rb ru vc sf dr ss ob rl wl),.i e] [])=some (.ret (.tup [(sX sd au en ac re rs ck od sb su mc ix l1 l2 l3 l4 l5 l6 ks st sp rb ru vc sf dr ss ob rl wl),.agg [.i e,.sl .i64 [],.sl (.sl .u8) [],.sl (.sl .u8) []]]) []):=by
 exact tq rfl
theorem EO(s t:MS)(e:Int):Ah E0 (.call 251 [av s,av t,.i e] []) fun r=>(e=0/\r=some (.ret (.tup [av t,rp 0 [] [] []]) []))\/(e≠0/\r=some (.ret (.tup [av s,rp e [] [] []]) [])):=by
 refine CU fun P hP=>tw ?_
 rcases AX e 0 with hc0|hc0
 ·refine tw ?_;rw[BA ..];refine tw ?_;exact hP _ (Or.inr ⟨A8,rfl⟩)
 subst hc0;refine tw ?_;exact hP _ (Or.inl ⟨A8,rfl⟩)
theorem kW(s:MS)(hi:Kp a k s)(hk:k<=900):Ah E0 (.call 253 [av s] []) fun r=>∃(t:MS) (e:Int) (is':List Int) (bs':List (List UInt8)),Kp a (k+1) t/\r=some (.ret (.tup [av t,rp e is' bs' []]) []):=by
 have hup:=hi.up (k':=k+1) zaw
 refine CU fun P hP=>tw ?_
 rcases bo (s.sf) with hc0|hc0
 ·rw[hc0];refine tw ?_;refine hP _ ⟨{s with sf:=true},0,[s.vc,s.re,s.rs,1],[],?_,rfl⟩;exact Kp.sf_ hup
 rw[hc0];refine tw ?_;refine hP _ ⟨{s with sf:=false},0,[s.vc,s.re,s.rs,0],[],?_,rfl⟩;exact Kp.sf_ hup
theorem kX(s:MS)(lo i1 i2:Int)(hs:List Int)(az:List (El Aq))(bs:List (List UInt8))(hi:Kp a k s)(hk:k<=900):Ah E0 (.call 254 [av s,.i lo,rq 5 hs az [i1,i2] bs] []) fun r=>∃(t:MS) (e:Int) (is':List Int) (bs':List (List UInt8)),Kp a (k+1) t/\r=some (.ret (.tup [av t,rp e is' bs' []]) []):=by
 have hup:=hi.up (k':=k+1) zaw
 have hrb:=hi.rb
 have hru:=hi.ru
 refine CU fun P hP=>tw ?_
 obtain⟨l0,e0_1,yy0⟩:=oC a s.rb s.ru i1 i2 hrb;refine Am yy0 ?_
 rcases AX e0_1 0 with hc1|hc1
 ·refine tw ?_;rw[BA ..];refine tw ?_;exact hP _ ⟨s,e0_1,[],[],A8,rfl⟩
 subst hc1;refine tw ?_;exact hP _ ⟨s,0,[s.ru],[l0],A8,rfl⟩
theorem kY(s:MS)(lo i1:Int)(hs:List Int)(az:List (El Aq))(b1 b2:List UInt8)(hi:Kp a k s)(hk:k<=900)(h1:b1.length<=1024)(h2:b2.length<=1024):Ah E0 (.call 254 [av s,.i lo,rq 6 hs az [i1] [b1,b2]] []) fun r=>∃(t:MS) (e:Int) (is':List Int) (bs':List (List UInt8)),Kp a (k+1) t/\r=some (.ret (.tup [av t,rp e is' bs' []]) []):=by
 have hup:=hi.up (k':=k+1) zaw
 have hrb:=hi.rb
 have hru:=hi.ru
 refine CU fun P hP=>tw ?_
 obtain(⟨c0,⟨h0_1,h0_2⟩,yy0⟩|⟨e0_3,h0_4,yy0⟩):=kF a s.rb s.ru lo i1 [b1,b2] hrb A8 A8
 ·refine Am yy0 ?_;refine hP _ ⟨{s with rb:=c0,ru:=s.ru+1},0,[],[],?_,rfl⟩;exact Kp.rb_ hi hk zat zat
 refine Am yy0 ?_;rw[BA ..];refine tw ?_;exact hP _ ⟨s,e0_3,[],[],A8,rfl⟩
theorem kZ(s:MS)(lo i1:Int)(hs:List Int)(az:List (El Aq))(b1:List UInt8)(hi:Kp a k s)(hk:k<=900)(h1:b1.length<=1024):Ah E0 (.call 254 [av s,.i lo,rq 7 hs az [i1] [b1]] []) fun r=>∃(t:MS) (e:Int) (is':List Int) (bs':List (List UInt8)),Kp a (k+1) t/\r=some (.ret (.tup [av t,rp e is' bs' []]) []):=by
 have hup:=hi.up (k':=k+1) zaw
 have hrb:=hi.rb
 have hru:=hi.ru
 refine CU fun P hP=>tw ?_
 obtain⟨l0,h0_1,yy0⟩:=aB a s.rb s.ru b1 hrb A8;refine Am yy0 ?_
 obtain(⟨c1,⟨h1_1,h1_2⟩,yy1⟩|⟨e1_3,h1_4,yy1⟩):=o8 a s.rb s.ru lo i1 b1 hrb A8
 ·refine Am yy1 ?_;refine hP _ ⟨{s with rb:=c1,ru:=s.ru+1},0,[],l0,?_,rfl⟩;exact Kp.rb_ hi hk zat zat
 refine Am yy1 ?_;rw[BA ..];refine tw ?_;exact hP _ ⟨s,e1_3,[],[],A8,rfl⟩
theorem kw(s:MS)(lo i1:Int)(hs:List Int)(az:List (El Aq))(bs:List (List UInt8))(hi:Kp a k s)(hk:k<=900):Ah E0 (.call 254 [av s,.i lo,rq 8 hs az [i1] bs] []) fun r=>∃(t:MS) (e:Int) (is':List Int) (bs':List (List UInt8)),Kp a (k+1) t/\r=some (.ret (.tup [av t,rp e is' bs' []]) []):=by
 have hup:=hi.up (k':=k+1) zaw
 have hrb:=hi.rb
 have hru:=hi.ru
 refine CU fun P hP=>tw ?_
 obtain(⟨c0,⟨h0_1,h0_2⟩,yy0⟩|⟨e0_3,h0_4,yy0⟩):=o9 a s.rb s.ru lo i1 hrb
 ·refine Am yy0 ?_;refine hP _ ⟨{s with rb:=c0,ru:=s.ru+1},0,[],[],?_,rfl⟩;exact Kp.rb_ hi hk zat zat
 refine Am yy0 ?_;rw[BA ..];refine tw ?_;exact hP _ ⟨s,e0_3,[],[],A8,rfl⟩
theorem eX(s:MS)(i1 i2 i3 i4 i5 i6:Int)(hs:List Int)(az:List (El Aq))(bs:List (List UInt8))(hi:Kp a k s)(hk:k<=900)(h1:0<=i1/\i1<=1099511627776)(hb:bs.length<=8)(hm:∀ x∈bs,x.length<=2000):Ah E0 (.call 291 [av s,rq 17 hs az [i1,i2,i3,i4,i5,i6] bs] []) fun r=>∃(t:MS) (e:Int) (is':List Int) (bs':List (List UInt8)),Kp a (k+1) t/\r=some (.ret (.tup [av t,rp e is' bs' []]) []):=by
 have hup:=hi.up (k':=k+1) zaw
 have hxl:=hi.ixl
 have hxm:=hi.ixm
 have hax:Qg [] [] [] [] bs:=⟨by simp,by simp,by simp,by simp,by omega,hm⟩
 refine CU fun P hP=>tw ?_
 obtain⟨x0,m0,g0⟩:=EL (l:=[i1,i2,i3,i4,i5,i6]) (i:=3) zah;rw[g0];refine tw ?_;obtain⟨x1,m1,g1⟩:=EL (l:=[i1,i2,i3,i4,i5,i6]) (i:=4) zah;rw[g1];refine tw ?_;obtain⟨x2,m2,g2⟩:=EL (l:=[i1,i2,i3,i4,i5,i6]) (i:=5) zah;rw[g2];refine tw ?_
 rcases AL i2 1 with hc3|hc3
 ·subst hc3;refine tw ?_
  rcases AX (↑bs.length) 1 with hc4|hc4
  ·refine tw ?_;rw[BA ..];refine tw ?_;exact hP _ ⟨s,1,[],[],A8,rfl⟩
  refine tw ?_;obtain⟨x5,f5,g5⟩:=DF hm (i:=0) A8;rw[g5];refine tw ?_
  obtain(⟨t6,h6_1,yy6⟩|⟨t6_2,e6_3,h6_4,yy6⟩):=LU s i1 1 i3 x0 x5 x1 x2 [] [] [] [] hup A8 (by(refine⟨?_,?_,?_,?_,?_,?_⟩<;>first|omega|(simp;done)|assumption))
  ·refine Am yy6 ?_
   obtain(⟨h7_0,yy7⟩|⟨h7_1,yy7⟩):=EO s t6 0
   ·refine Am yy7 ?_;exact hP _ ⟨t6,0,[],[],A8,rfl⟩
   refine Am yy7 ?_;exact hP _ ⟨s,0,[],[],A8,rfl⟩
  refine Am yy6 ?_
  obtain(⟨h8_0,yy8⟩|⟨h8_1,yy8⟩):=EO s t6_2 e6_3
  ·refine Am yy8 ?_;exact hP _ ⟨t6_2,0,[],[],A8,rfl⟩
  refine Am yy8 ?_;exact hP _ ⟨s,e6_3,[],[],A8,rfl⟩
 refine tw ?_
 rcases AL i2 4 with hc9|hc9
 ·subst hc9;refine tw ?_
  rcases AX (↑bs.length) 1 with hc10|hc10
  ·refine tw ?_;rw[BA ..];refine tw ?_;exact hP _ ⟨s,1,[],[],A8,rfl⟩
  refine tw ?_;rw[Ea (hl:=A8) (hx:=A8) ..];refine tw ?_
  rcases AY (L9 x1 s.ix) 0 with hc11|hc11
  ·refine tw ?_;rw[BA ..];refine tw ?_;exact hP _ ⟨s,7,[],[],A8,rfl⟩
  refine tw ?_;obtain⟨l12,h12_1,yy12⟩:=SH s x1 hup;refine Am yy12 ?_;obtain⟨x13,f13,g13⟩:=DF hm (i:=0) A8;rw[g13];refine tw ?_
  obtain(⟨t14,h14_1,yy14⟩|⟨t14_2,e14_3,h14_4,yy14⟩):=LU s i1 4 i3 x0 [] x1 x2 x13 l12 [] [] hup A8 (by(refine⟨?_,?_,?_,?_,?_,?_⟩<;>first|omega|(simp;done)|assumption))
  ·refine Am yy14 ?_
   obtain(⟨h15_0,yy15⟩|⟨h15_1,yy15⟩):=EO s t14 0
   ·refine Am yy15 ?_;exact hP _ ⟨t14,0,[],[],A8,rfl⟩
   refine Am yy15 ?_;exact hP _ ⟨s,0,[],[],A8,rfl⟩
  refine Am yy14 ?_
  obtain(⟨h16_0,yy16⟩|⟨h16_1,yy16⟩):=EO s t14_2 e14_3
  ·refine Am yy16 ?_;exact hP _ ⟨t14_2,0,[],[],A8,rfl⟩
  refine Am yy16 ?_;exact hP _ ⟨s,e14_3,[],[],A8,rfl⟩
 refine tw ?_
 rcases AX i2 8 with hc17|hc17
 ·refine tw ?_
  rcases AY 0 (↑bs.length) with hc18|hc18
  ·refine tw ?_;rw[BA ..];refine tw ?_;exact hP _ ⟨s,1,[],[],A8,rfl⟩
  refine tw ?_
  obtain(⟨t19,h19_1,yy19⟩|⟨t19_2,e19_3,h19_4,yy19⟩):=LU s i1 i2 i3 x0 [] x1 x2 [] [] [] [] hup A8 (by(refine⟨?_,?_,?_,?_,?_,?_⟩<;>first|omega|(simp;done)|assumption))
  ·refine Am yy19 ?_
   obtain(⟨h20_0,yy20⟩|⟨h20_1,yy20⟩):=EO s t19 0
   ·refine Am yy20 ?_;exact hP _ ⟨t19,0,[],[],A8,rfl⟩
   refine Am yy20 ?_;exact hP _ ⟨s,0,[],[],A8,rfl⟩
  refine Am yy19 ?_
  obtain(⟨h21_0,yy21⟩|⟨h21_1,yy21⟩):=EO s t19_2 e19_3
  ·refine Am yy21 ?_;exact hP _ ⟨t19_2,0,[],[],A8,rfl⟩
  refine Am yy21 ?_;exact hP _ ⟨s,e19_3,[],[],A8,rfl⟩
 subst hc17;refine tw ?_
 obtain(⟨t22,h22_1,yy22⟩|⟨t22_2,e22_3,h22_4,yy22⟩):=LU s i1 8 i3 x0 [] x1 x2 [] [] [] bs hup A8 A8
 ·refine Am yy22 ?_
  obtain(⟨h23_0,yy23⟩|⟨h23_1,yy23⟩):=EO s t22 0
  ·refine Am yy23 ?_;exact hP _ ⟨t22,0,[],[],A8,rfl⟩
  refine Am yy23 ?_;exact hP _ ⟨s,0,[],[],A8,rfl⟩
 refine Am yy22 ?_
 obtain(⟨h24_0,yy24⟩|⟨h24_1,yy24⟩):=EO s t22_2 e22_3
 ·refine Am yy24 ?_;exact hP _ ⟨t22_2,0,[],[],A8,rfl⟩
 refine Am yy24 ?_;exact hP _ ⟨s,e22_3,[],[],A8,rfl⟩
end
section
attribute [local irreducible] Cj Dt D9 DT DK BH Du Ey Fh FD Et D7 CV Df DX and' Dk DU CG Ba Bl CJ CS BK BM BB BG Dv G7 Dw EM Dl Bh CO Bz C9 Bo BD Bi BO Be BZ Dx Bf DL Bd BI D6 Dy fits Dz Dn AZ Ap BL
attribute [local irreducible] E5 CP Bq nameB ES Em Ar FK En FH Eu Fe CE IU Ej Gf GV Ee Gp FC JL JZ Ed
theorem kz(s:MS)(i1:Int)(hs:List Int)(az:List (El Aq))(bs:List (List UInt8))(hi:Kp a k s)(hk:k<=900)(h1:0<=i1/\i1<=1099511627776):Ah E0 (.call 256 [av s,rq 16 hs az [i1] bs] []) fun r=>∃(t:MS) (e:Int) (is':List Int) (bs':List (List UInt8)),Kp a (k+1) t/\r=some (.ret (.tup [av t,rp e is' bs' []]) []):=by
 refine CU fun P hP=>tw ?_
 obtain(⟨t0,h0_1,⟨h0_2,h0_3,h0_4⟩,yy0⟩|⟨t0_5,h0_6,e0_7,h0_8,yy0⟩):=oH s i1 hi A8
 ·refine Am yy0 ?_;obtain⟨e1,c1_1,n1_2,d1_3,u1_4,l1_5,m1_6,t1_7,b1_8,⟨h1_9,h1_10,h1_11⟩,yy1⟩:=IV t0 h0_1 h0_2 A8;refine Am yy1 ?_;exact hP _ ⟨t0,0,[h0_1],[n1_2],A8,rfl⟩
 refine Am yy0 ?_;rw[BA ..];refine tw ?_;exact hP _ ⟨s,e0_7,[],[],clo,rfl⟩
theorem lC(s:MS)(i1 i2 i3 i4 i5 i6:Int)(hs:List Int)(az:List (El Aq))(bs:List (List UInt8))(hi:Kp a k s)(hk:k<=900)(h1:0<=i1/\i1<=1099511627776)(hb:bs.length<=8)(hm:∀ x∈bs,x.length<=2000):Ah E0 (.call 256 [av s,rq 17 hs az [i1,i2,i3,i4,i5,i6] bs] []) fun r=>∃(t:MS) (e:Int) (is':List Int) (bs':List (List UInt8)),Kp a (k+1) t/\r=some (.ret (.tup [av t,rp e is' bs' []]) []):=by
 refine CU fun P hP=>tw ?_
 obtain⟨t0,e0_1,is'0_2,bs'0_3,h0_4,yy0⟩:=eX s i1 i2 i3 i4 i5 i6 hs az bs hi A8 A8 A8 A8;refine Am yy0 ?_;exact hP _ ⟨t0,e0_1,is'0_2,bs'0_3,A8,rfl⟩
theorem lD(s:MS)(h i1 i2 y1:Int)(y2 y3 b1:List UInt8)(hi:Kp a k s)(hk:k<=900)(h1:0<=i1/\i1<=1099511627776)(hb:b1.length<=1024):Ah E0 (.call 256 [av s,rq 18 [h] [(y1,y2,y3)] [i1,i2] [b1]] []) fun r=>∃(t:MS) (e:Int) (is':List Int) (bs':List (List UInt8)),Kp a (k+1) t/\r=some (.ret (.tup [av t,rp e is' bs' []]) []):=by
 have hup:=hi.up (k':=k+1) zaw
 refine CU fun P hP=>tw ?_
 rcases AL i1 y1 with hc0|hc0
 ·subst hc0;refine tw ?_;rw[BA ..];refine tw ?_;exact hP _ ⟨s,8,[],[],A8,rfl⟩
 refine tw ?_;obtain⟨l1,h1_1,yy1⟩:=SH s h hup;refine Am yy1 ?_
 obtain(⟨t2,h2_1,yy2⟩|⟨t2_2,e2_3,h2_4,yy2⟩):=dX s i1 l1 b1 i2 hup A8 A8 A8
 ·refine Am yy2 ?_
  obtain(⟨h3_0,yy3⟩|⟨h3_1,yy3⟩):=EO s t2 0
  ·refine Am yy3 ?_;exact hP _ ⟨t2,0,[],[],A8,rfl⟩
  refine Am yy3 ?_;exact hP _ ⟨s,0,[],[],A8,rfl⟩
 refine Am yy2 ?_
 obtain(⟨h4_0,yy4⟩|⟨h4_1,yy4⟩):=EO s t2_2 e2_3
 ·refine Am yy4 ?_;exact hP _ ⟨t2_2,0,[],[],A8,rfl⟩
 refine Am yy4 ?_;exact hP _ ⟨s,e2_3,[],[],A8,rfl⟩
theorem lF(s:MS)(i1:Int)(hs:List Int)(az:List (El Aq))(b1 b2 b3:List UInt8)(hi:Kp a k s)(hk:k<=900)(h1:0<=i1/\i1<=1099511627776)(hb1:b1.length<=1024)(hb2:b2.length<=1024)(hb3:b3.length<=1024):Ah E0 (.call 256 [av s,rq 19 hs az [i1] [b1,b2,b3]] []) fun r=>∃(t:MS) (e:Int) (is':List Int) (bs':List (List UInt8)),Kp a (k+1) t/\r=some (.ret (.tup [av t,rp e is' bs' []]) []):=by
 have hup:=hi.up (k':=k+1) zaw
 have hdl:=uM b1
 refine CU fun P hP=>tw ?_
 (rw[VM b1 zaa];generalize Fe b1=D at *;obtain⟨⟨qk,qa,qt,qo,qu⟩,er⟩:=D;dsimp only[Yu] at *)
 refine tw ?_
 rcases AX er 0 with hc0|hc0
 ·refine tw ?_;rw[BA ..];refine tw ?_;exact hP _ ⟨s,er,[],[],A8,rfl⟩
 subst hc0;refine tw ?_
 obtain(⟨t1,h1_1,yy1⟩|⟨t1_2,e1_3,h1_4,yy1⟩):=Yx s i1 qk qa qt qo qu b2 b3 hup A8 A8 A8 A8 A8
 ·refine Am yy1 ?_
  obtain(⟨h2_0,yy2⟩|⟨h2_1,yy2⟩):=EO s t1 0
  ·refine Am yy2 ?_;exact hP _ ⟨t1,0,[],[],A8,rfl⟩
  refine Am yy2 ?_;exact hP _ ⟨s,0,[],[],A8,rfl⟩
 refine Am yy1 ?_
 obtain(⟨h3_0,yy3⟩|⟨h3_1,yy3⟩):=EO s t1_2 e1_3
 ·refine Am yy3 ?_;exact hP _ ⟨t1_2,0,[],[],A8,rfl⟩
 refine Am yy3 ?_;exact hP _ ⟨s,e1_3,[],[],A8,rfl⟩
theorem lG(s:MS)(i1:Int)(hs:List Int)(az:List (El Aq))(bs:List (List UInt8))(hi:Kp a k s)(hk:k<=900)(h1:0<=i1/\i1<=1099511627776):Ah E0 (.call 256 [av s,rq 20 hs az [i1] bs] []) fun r=>∃(t:MS) (e:Int) (is':List Int) (bs':List (List UInt8)),Kp a (k+1) t/\r=some (.ret (.tup [av t,rp e is' bs' []]) []):=by
 have hup:=hi.up (k':=k+1) zaw
 refine CU fun P hP=>tw ?_
 obtain⟨e0,c0_1,n0_2,d0_3,u0_4,l0_5,m0_6,t0_7,b0_8,⟨h0_9,h0_10,h0_11⟩,yy0⟩:=IV s i1 hup A8;refine Am yy0 ?_
 rcases AX e0 0 with hc1|hc1
 ·refine tw ?_;rw[BA ..];refine tw ?_;exact hP _ ⟨s,8,[],[],A8,rfl⟩
 subst hc1
 replace h0_9:=h0_9 rfl
 refine tw ?_
 rcases AL c0_1 1 with hc2|hc2
 ·subst hc2;refine tw ?_;rw[BA ..];refine tw ?_;exact hP _ ⟨s,8,[],[],A8,rfl⟩
 refine tw ?_;exact hP _ ⟨s,0,[],[d0_3],A8,rfl⟩
theorem xR(s:MS)(h i1 i2 i3 i4:Int)(az:List (El Aq))(b1 b2:List UInt8)(hi:Kp a k s)(hk:k<=900):Ah E0 (.call 257 [av s,rq 21 [h] az [i1,i2,i3,i4] [b1,b2]] []) fun r=>∃(t:MS) (e:Int) (is':List Int) (bs':List (List UInt8)),Kp a (k+1) t/\r=some (.ret (.tup [av t,rp e is' bs' []]) []):=by
 have hup:=hi.up (k':=k+1) zaw
 have hxl:=hi.ixl
 have hxm:=hi.ixm
 refine CU fun P hP=>tw ?_
 obtain⟨x0,m0,g0⟩:=EL (l:=[i1,i2,i3,i4]) (i:=3) zah;rw[g0];refine tw ?_
 obtain(⟨d1,h1_1,yy1⟩|⟨e1_2,h1_3,yy1⟩):=xI i1 i2 i3 x0 b1 b2
 ·refine Am yy1 ?_;rw[Ea (hl:=A8) (hx:=A8) ..];refine tw ?_
  rcases DD 0 (L9 (Cj 256 i1) s.ix) with hc2|hc2
  ·refine tw ?_;rw[BA ..];refine tw ?_;exact hP _ ⟨s,21,[],[],A8,rfl⟩
  refine tw ?_
  rcases DD 6 (↑s.ix.length) with hc3|hc3
  ·refine tw ?_;rw[BA ..];refine tw ?_;exact hP _ ⟨s,25,[],[],A8,rfl⟩
  refine tw ?_;refine hP _ ⟨{s with ix:=BI (BI [] s.ix) [(i1,i2,i3,x0,b2,b1,false,d1)]},0,[],[],?_,rfl⟩;exact {hup with ixl:=(uX hi.ixs zat zat).1,ixm:=(uX hi.ixs zat zat).2}
 refine Am yy1 ?_;rw[BA ..];refine tw ?_;exact hP _ ⟨s,e1_2,[],[],A8,rfl⟩
theorem Oq(l:List Int)(n:Int)(hl:l.length<=100000):∀(q:Nat) (j:Int) (o:List Int),0<=j->j+q=l.length->(o.length:Int)<=j->Ah E0 (.loop 295 0 0 1 [(0,.sl .i64 l),(1,.i n),(5,.nm 0),(6,.i j)] [(0,some (.row 3 .i64 o))]) fun r=>∃ o:List Int,(o.length<=l.length)/\r=some (.fin (.exit 0) 0 [(5,.sl .i64 o)] [])
 | 0,j,o,h0,hj,ho=>by
  refine CU fun P hP=>?_
  refine tw ?_;exact hP _ ⟨o,A8,rfl⟩
 | q+1,j,o,h0,hj,ho=>by
  have ih:=fun o=>Oq l n hl q (j+1) o zaa zaa
  refine CU fun P hP=>?_
  refine tw ?_;obtain⟨x0,m0,g0⟩:=EL (l:=l) (i:=j) zaa;rw[g0];refine tw ?_
  rcases AX x0 n with hc1|hc1
  ·refine tw ?_;rw[g0];refine tw ?_;exact hP _ (ih _ (by first|omega|(rw[Aa,List.length_append];simp;omega)))
  subst hc1;refine tw ?_;exact hP _ (ih _ (by first|omega|(rw[Aa,List.length_append];simp;omega)))
theorem RX(l:List Int)(n:Int)(hl:l.length<=100000):Ah E0 (.call 295 [.sl .i64 l,.i n] []) fun r=>∃ o:List Int,(o.length<=l.length)/\r=some (.ret (.sl .i64 o) []):=by
 refine CU fun P hP=>tw ?_
 obtain⟨o0,h0_1,yy0⟩:=Oq l n A8 (Int.toNat (↑l.length-(0))) 0 [] A8 zaa A8;refine Am yy0 ?_;exact hP _ ⟨o0,A8,rfl⟩
theorem Yl(l:List Int)(n:Int)(hl:l.length<=100000):Ah E0 (.call 296 [.sl .i64 l,.i n] []) fun r=>∃ o:List Int,(o.length<=l.length+1)/\r=some (.ret (.sl .i64 o) []):=by
 refine CU fun P hP=>tw ?_
 obtain⟨b0,yy0⟩:=KE l n A8;refine Am yy0 ?_
 rcases bo b0 with rfl|rfl
 ·refine tw ?_;exact hP _ ⟨l,A8,rfl⟩
 refine tw ?_;exact hP _ ⟨BI (BI [] l) [n],A8,rfl⟩
end
section
attribute [local irreducible] Cj Dt D9 DT DK BH Du Ey Fh FD Et D7 CV Df DX and' Dk DU CG Ba Bl CJ CS BK BM BB BG Dv G7 Dw EM Dl Bh CO Bz C9 Bo BD Bi BO Be BZ Dx Bf DL Bd BI D6 Dy fits Dz Dn AZ Ap BL
attribute [local irreducible] E5 CP Bq nameB ES Em Ar FK En FH Eu Fe CE IU Ej Gf GV Ee Gp FC JL JZ Ed
theorem lI(s:MS)(h i1:Int)(az:List (El Aq))(bs:List (List UInt8))(hi:Kp a k s)(hk:k<=900)(h1:0<=i1/\i1<=1099511627776):Ah E0 (.call 258 [av s,rq 22 [h] az [i1] bs] []) fun r=>∃(t:MS) (e:Int) (is':List Int) (bs':List (List UInt8)),Kp a (k+1) t/\r=some (.ret (.tup [av t,rp e is' bs' []]) []):=by
 have hup:=hi.up (k':=k+1) zaw
 have hxl:=hi.ixl
 have hxm:=hi.ixm
 have hrl:=hi.rl
 have hwl:=hi.wl
 have hkk:=hi.kk
 have hx:=Iq (256+i1) s.ix
 refine CU fun P hP=>tw ?_
 rw[Ea (hl:=A8) (hx:=A8) ..];refine tw ?_
 rcases AY (L9 (256+i1) s.ix) 0 with hc0|hc0
 ·refine tw ?_;rw[BA ..];refine tw ?_;exact hP _ ⟨s,7,[],[],A8,rfl⟩
 refine tw ?_;obtain⟨o1,h1_1,yy1⟩:=RX s.rl i1 A8;refine Am yy1 ?_;obtain⟨o2,h2_1,yy2⟩:=RX s.wl i1 A8;refine Am yy2 ?_;refine hP _ ⟨{s with ix:=BI (BI [] (List.take (L9 (256+i1) s.ix).toNat s.ix)) (List.take (Be s.ix-(L9 (256+i1) s.ix+1)).toNat (List.drop (L9 (256+i1) s.ix+1).toNat s.ix)),rl:=o1,wl:=o2},0,[],[],?_,rfl⟩;exact {hup with ixl:=(lH hi.ixs zaa).1,ixm:=(lH hi.ixs zaa).2,rl:=zay,wl:=zay}
theorem oq(s:MS)(h g:Int)(i1:Int)(bb:List UInt8)(az:List (El Aq))(hi:Kp a k s)(hk:k<=900)(hz:0<=L9 g s.ix)(h1:0<=i1/\i1<=1099511627776)(hb:bb.length<=1024):Ah E0 (.call 263 [av s,rq 23 [h,g] az [i1] [bb]] []) fun r=>∃(t:MS) (e:Int) (is':List Int) (bs':List (List UInt8)),Kp a (k+1) t/\r=some (.ret (.tup [av t,rp e is' bs' []]) []):=by
 have hup:=hi.up (k':=k+1) zaw
 have hxl:=hi.ixl
 have hxm:=hi.ixm
 have hrl:=hi.rl
 have hwl:=hi.wl
 have hkk:=hi.kk
 refine CU fun P hP=>tw ?_
 rw[Ea (hl:=A8) (hx:=A8) ..];refine tw ?_
 have q0:=Iq (g) (s.ix)
 obtain⟨⟨x0a,x0b,x0c,x0d,x0e,x0f,x0g,x0h⟩,f0,g0⟩:=DF hxm (i:=L9 g s.ix) A8;simp only[GL,G6,Gn,FZ,CX,DI,DJ,D8] at f0;rw[g0];refine tw ?_;obtain⟨b1,yy1⟩:=KE s.wl x0a A8;refine Am yy1 ?_
 rcases bo b1 with rfl|rfl
 ·refine tw ?_;rw[BA ..];refine tw ?_;exact hP _ ⟨s,23,[],[],A8,rfl⟩
 refine tw ?_
 obtain(⟨w'3,d'3_1,h3_2,yy3⟩|⟨e3_3,h3_4,yy3⟩):=kC x0a x0b x0c x0d x0e x0f x0g x0h i1 bb A8 A8 A8
 ·refine Am yy3 ?_
  have q4:=Iq (g) (s.ix)
  obtain⟨x4,m4,g4⟩:=EL (l:=BI [] s.ix) (i:=L9 g s.ix) zah
  obtain⟨x4a,x4b,x4c,x4d,x4e,x4f,x4g,x4h⟩:=x4;rw[g4];refine tw ?_;refine hP _ ⟨{s with ix:=Bf (BI [] s.ix) (L9 g s.ix) (x0a,x0b,x0c,x0d,x0e,x0f,w'3,d'3_1)},0,[],[],?_,rfl⟩;exact {hup with ixl:=(NF hi.ixs zat).1,ixm:=(NF hi.ixs zat).2}
 refine Am yy3 ?_;rw[BA ..];refine tw ?_;exact hP _ ⟨s,e3_3,[],[],A8,rfl⟩
theorem ou(s:MS)(h g:Int)(i1 i2:Int)(bs:List (List UInt8))(az:List (El Aq))(hi:Kp a k s)(hk:k<=900)(hz:0<=L9 g s.ix)(h1:0<=i1/\i1<=1099511627776)(h2:0<=i2/\i2<=1099511627776):Ah E0 (.call 263 [av s,rq 24 [h,g] az [i1,i2] bs] []) fun r=>∃(t:MS) (e:Int) (is':List Int) (bs':List (List UInt8)),Kp a (k+1) t/\r=some (.ret (.tup [av t,rp e is' bs' []]) []):=by
 have hup:=hi.up (k':=k+1) zaw
 have hxl:=hi.ixl
 have hxm:=hi.ixm
 have hrl:=hi.rl
 have hwl:=hi.wl
 have hkk:=hi.kk
 refine CU fun P hP=>tw ?_
 rw[Ea (hl:=A8) (hx:=A8) ..];refine tw ?_
 have q0:=Iq (g) (s.ix)
 obtain⟨⟨x0a,x0b,x0c,x0d,x0e,x0f,x0g,x0h⟩,f0,g0⟩:=DF hxm (i:=L9 g s.ix) A8;simp only[GL,G6,Gn,FZ,CX,DI,DJ,D8] at f0;rw[g0];refine tw ?_;obtain⟨b1,yy1⟩:=KE s.rl x0a A8;refine Am yy1 ?_
 rcases bo b1 with rfl|rfl
 ·refine tw ?_;rw[BA ..];refine tw ?_;exact hP _ ⟨s,23,[],[],A8,rfl⟩
 refine tw ?_;obtain⟨l3,e3_1,yy3⟩:=ny x0a x0b x0c x0d x0e x0f x0g x0h i1 i2 A8 A8 A8;refine Am yy3 ?_
 rcases AX e3_1 0 with hc4|hc4
 ·refine tw ?_;rw[BA ..];refine tw ?_;exact hP _ ⟨s,e3_1,[],[],A8,rfl⟩
 subst hc4;refine tw ?_;exact hP _ ⟨s,0,[],[l3],A8,rfl⟩
theorem oz(s:MS)(h g:Int)(is:List Int)(bs:List (List UInt8))(az:List (El Aq))(hi:Kp a k s)(hk:k<=900)(hz:0<=L9 g s.ix):Ah E0 (.call 263 [av s,rq 25 [h,g] az is bs] []) fun r=>∃(t:MS) (e:Int) (is':List Int) (bs':List (List UInt8)),Kp a (k+1) t/\r=some (.ret (.tup [av t,rp e is' bs' []]) []):=by
 have hup:=hi.up (k':=k+1) zaw
 have hxl:=hi.ixl
 have hxm:=hi.ixm
 have hrl:=hi.rl
 have hwl:=hi.wl
 have hkk:=hi.kk
 refine CU fun P hP=>tw ?_
 rw[Ea (hl:=A8) (hx:=A8) ..];refine tw ?_
 have q0:=Iq (g) (s.ix)
 obtain⟨⟨x0a,x0b,x0c,x0d,x0e,x0f,x0g,x0h⟩,f0,g0⟩:=DF hxm (i:=L9 g s.ix) A8;simp only[GL,G6,Gn,FZ,CX,DI,DJ,D8] at f0;rw[g0];refine tw ?_;obtain⟨b1,yy1⟩:=KE s.wl x0a A8;refine Am yy1 ?_
 rcases bo b1 with rfl|rfl
 ·refine tw ?_;rw[BA ..];refine tw ?_;exact hP _ ⟨s,23,[],[],A8,rfl⟩
 refine tw ?_
 obtain(⟨w'3,d'3_1,v3_2,h3_3,yy3⟩|⟨e3_4,h3_5,yy3⟩):=nz x0a x0b x0c x0d x0e x0f x0g x0h s.mc A8
 ·refine Am yy3 ?_
  have q4:=Iq (g) (s.ix)
  obtain⟨x4,m4,g4⟩:=EL (l:=BI [] s.ix) (i:=L9 g s.ix) zah
  obtain⟨x4a,x4b,x4c,x4d,x4e,x4f,x4g,x4h⟩:=x4;rw[g4];refine tw ?_;refine hP _ ⟨{s with mc:=v3_2,ix:=Bf (BI [] s.ix) (L9 g s.ix) (x0a,x0b,x0c,x0d,x0e,x0f,w'3,d'3_1)},0,[],[],?_,rfl⟩;exact {hup with ixl:=(NF hi.ixs zat).1,ixm:=(NF hi.ixs zat).2}
 refine Am yy3 ?_;rw[BA ..];refine tw ?_;exact hP _ ⟨s,e3_4,[],[],A8,rfl⟩
theorem pF(s:MS)(h g:Int)(is:List Int)(bb:List UInt8)(az:List (El Aq))(hi:Kp a k s)(hk:k<=900)(hz:0<=L9 g s.ix)(hb:bb.length<=1024):Ah E0 (.call 263 [av s,rq 26 [h,g] az is [bb]] []) fun r=>∃(t:MS) (e:Int) (is':List Int) (bs':List (List UInt8)),Kp a (k+1) t/\r=some (.ret (.tup [av t,rp e is' bs' []]) []):=by
 have hup:=hi.up (k':=k+1) zaw
 have hxl:=hi.ixl
 have hxm:=hi.ixm
 have hrl:=hi.rl
 have hwl:=hi.wl
 have hkk:=hi.kk
 refine CU fun P hP=>tw ?_
 rw[Ea (hl:=A8) (hx:=A8) ..];refine tw ?_
 have q0:=Iq (g) (s.ix)
 obtain⟨⟨x0a,x0b,x0c,x0d,x0e,x0f,x0g,x0h⟩,f0,g0⟩:=DF hxm (i:=L9 g s.ix) A8;simp only[GL,G6,Gn,FZ,CX,DI,DJ,D8] at f0;rw[g0];refine tw ?_;obtain⟨b1,yy1⟩:=KE s.wl x0a A8;refine Am yy1 ?_
 rcases bo b1 with rfl|rfl
 ·refine tw ?_;rw[BA ..];refine tw ?_;exact hP _ ⟨s,23,[],[],A8,rfl⟩
 refine tw ?_
 obtain(⟨w'3,d'3_1,h3_2,yy3⟩|⟨e3_3,h3_4,yy3⟩):=o5 x0a x0b x0c x0d x0e x0f x0g x0h bb A8
 ·refine Am yy3 ?_
  have q4:=Iq (g) (s.ix)
  obtain⟨x4,m4,g4⟩:=EL (l:=BI [] s.ix) (i:=L9 g s.ix) zah
  obtain⟨x4a,x4b,x4c,x4d,x4e,x4f,x4g,x4h⟩:=x4;rw[g4];refine tw ?_;refine hP _ ⟨{s with ix:=Bf (BI [] s.ix) (L9 g s.ix) (x0a,x0b,x0c,x0d,x0e,x0f,w'3,d'3_1)},0,[],[],?_,rfl⟩;exact {hup with ixl:=(NF hi.ixs zat).1,ixm:=(NF hi.ixs zat).2}
 refine Am yy3 ?_;rw[BA ..];refine tw ?_;exact hP _ ⟨s,e3_3,[],[],A8,rfl⟩
theorem pG(s:MS)(h g:Int)(is:List Int)(bb:List UInt8)(az:List (El Aq))(hi:Kp a k s)(hk:k<=900)(hz:0<=L9 g s.ix)(hb:bb.length<=1024):Ah E0 (.call 263 [av s,rq 27 [h,g] az is [bb]] []) fun r=>∃(t:MS) (e:Int) (is':List Int) (bs':List (List UInt8)),Kp a (k+1) t/\r=some (.ret (.tup [av t,rp e is' bs' []]) []):=by
 have hup:=hi.up (k':=k+1) zaw
 have hxl:=hi.ixl
 have hxm:=hi.ixm
 have hrl:=hi.rl
 have hwl:=hi.wl
 have hkk:=hi.kk
 refine CU fun P hP=>tw ?_
 rw[Ea (hl:=A8) (hx:=A8) ..];refine tw ?_
 have q0:=Iq (g) (s.ix)
 obtain⟨⟨x0a,x0b,x0c,x0d,x0e,x0f,x0g,x0h⟩,f0,g0⟩:=DF hxm (i:=L9 g s.ix) A8;simp only[GL,G6,Gn,FZ,CX,DI,DJ,D8] at f0;rw[g0];refine tw ?_;obtain⟨b1,yy1⟩:=KE s.wl x0a A8;refine Am yy1 ?_
 rcases bo b1 with rfl|rfl
 ·refine tw ?_;rw[BA ..];refine tw ?_;exact hP _ ⟨s,23,[],[],A8,rfl⟩
 refine tw ?_
 obtain(⟨w'3,d'3_1,h3_2,yy3⟩|⟨e3_3,h3_4,yy3⟩):=dQ x0a x0b x0c x0d x0e x0f x0g x0h bb A8 A8
 ·refine Am yy3 ?_
  have q4:=Iq (g) (s.ix)
  obtain⟨x4,m4,g4⟩:=EL (l:=BI [] s.ix) (i:=L9 g s.ix) zah
  obtain⟨x4a,x4b,x4c,x4d,x4e,x4f,x4g,x4h⟩:=x4;rw[g4];refine tw ?_;refine hP _ ⟨{s with ix:=Bf (BI [] s.ix) (L9 g s.ix) (x0a,x0b,x0c,x0d,x0e,x0f,w'3,d'3_1)},0,[],[],?_,rfl⟩;exact {hup with ixl:=(NF hi.ixs zat).1,ixm:=(NF hi.ixs zat).2}
 refine Am yy3 ?_;rw[BA ..];refine tw ?_;exact hP _ ⟨s,e3_3,[],[],A8,rfl⟩
theorem pI(s:MS)(h g:Int)(is:List Int)(bs:List (List UInt8))(az:List (El Aq))(hi:Kp a k s)(hk:k<=900)(hz:0<=L9 g s.ix):Ah E0 (.call 263 [av s,rq 28 [h,g] az is bs] []) fun r=>∃(t:MS) (e:Int) (is':List Int) (bs':List (List UInt8)),Kp a (k+1) t/\r=some (.ret (.tup [av t,rp e is' bs' []]) []):=by
 have hup:=hi.up (k':=k+1) zaw
 have hxl:=hi.ixl
 have hxm:=hi.ixm
 have hrl:=hi.rl
 have hwl:=hi.wl
 have hkk:=hi.kk
 refine CU fun P hP=>tw ?_
 rw[Ea (hl:=A8) (hx:=A8) ..];refine tw ?_
 have q0:=Iq (g) (s.ix)
 obtain⟨⟨x0a,x0b,x0c,x0d,x0e,x0f,x0g,x0h⟩,f0,g0⟩:=DF hxm (i:=L9 g s.ix) A8;simp only[GL,G6,Gn,FZ,CX,DI,DJ,D8] at f0;rw[g0];refine tw ?_;obtain⟨o1,h1_1,yy1⟩:=Yl s.rl x0a A8;refine Am yy1 ?_;refine hP _ ⟨{s with rl:=o1},0,[],[],?_,rfl⟩;exact {hup with rl:=zay}
theorem pJ(s:MS)(h g:Int)(is:List Int)(bs:List (List UInt8))(az:List (El Aq))(hi:Kp a k s)(hk:k<=900)(hz:0<=L9 g s.ix):Ah E0 (.call 263 [av s,rq 29 [h,g] az is bs] []) fun r=>∃(t:MS) (e:Int) (is':List Int) (bs':List (List UInt8)),Kp a (k+1) t/\r=some (.ret (.tup [av t,rp e is' bs' []]) []):=by
 have hup:=hi.up (k':=k+1) zaw
 have hxl:=hi.ixl
 have hxm:=hi.ixm
 have hrl:=hi.rl
 have hwl:=hi.wl
 have hkk:=hi.kk
 refine CU fun P hP=>tw ?_
 rw[Ea (hl:=A8) (hx:=A8) ..];refine tw ?_
 have q0:=Iq (g) (s.ix)
 obtain⟨⟨x0a,x0b,x0c,x0d,x0e,x0f,x0g,x0h⟩,f0,g0⟩:=DF hxm (i:=L9 g s.ix) A8;simp only[GL,G6,Gn,FZ,CX,DI,DJ,D8] at f0;rw[g0];refine tw ?_;obtain⟨o1,h1_1,yy1⟩:=Yl s.wl x0a A8;refine Am yy1 ?_;refine hP _ ⟨{s with wl:=o1},0,[],[],?_,rfl⟩;exact {hup with wl:=zay}
theorem lJ(s:MS)(hi:Kp a k s)(hk:k<=900):Ah E0 (.call 260 [av s] []) fun r=>∃(t:MS) (e:Int) (is':List Int) (bs':List (List UInt8)),Kp a (k+1) t/\r=some (.ret (.tup [av t,rp e is' bs' []]) []):=by
 have hup:=hi.up (k':=k+1) zaw
 have hsl:=hi.sdl
 have hal:=hi.aul
 have hen:=hi.en
 have hdr:=hi.dr
 have hkk:=hi.kk
 have hR:(Vt s.en s.re s.rs s.dr 32).length=32:=by unfold Vt;rw[Fq zaa];rfl
 refine CU fun P hP=>tw ?_
 rw[Yg _ _ _ _ _ _ _ _ _ _ _ _ _ _ _ _ _ _ _ _ _ _ _ _ _ _ _ _ _ _ _ zaa];refine tv ?_;obtain⟨x0,f0,g0⟩:=DF hup.sdm (i:=0) A8;rw[g0];refine tv ?_;obtain⟨x1,f1,g1⟩:=DF hup.sdm (i:=2) A8;rw[g1];refine tw ?_;obtain⟨x2,f2,g2⟩:=DF hup.aum (i:=0) A8;rw[g2];refine tw ?_;obtain⟨x3,f3,g3⟩:=DF hup.aum (i:=2) A8;rw[g3];refine tw ?_;rw[Zy];refine tw ?_;refine hP _ ⟨{s with sd:=[x0,Vt s.en s.re s.rs s.dr 32,x1],au:=[x2,[],x3,[]],ix:=[],l1:=0,l2:=5,l3:=100,l4:=0,l5:=0,l6:=1000,dr:=s.dr+1,ss:=Bd 3 (0,[],[],0,0,0,0,false),ob:=Bd 3 ((0,0,0,[],[]),([],[],[]),0),rl:=[],wl:=[]},0,[],[],?_,rfl⟩;exact hi.clear hk zat zat hR zat zat
theorem eY(s:MS)(h:Int)(bb:List UInt8)(az:List (El Aq))(is:List Int)(hi:Kp a k s)(hk:k<=900)(hh:0<=h/\h<=3)(hb:bb.length<=1024):Ah E0 (.call 259 [av s,rq 30 [h] az is [bb]] []) fun r=>∃(t:MS) (e:Int) (is':List Int) (bs':List (List UInt8)),Kp a (k+1) t/\r=some (.ret (.tup [av t,rp e is' bs' []]) []):=by
 have hup:=hi.up (k':=k+1) zaw
 have hal:=hi.aul
 have hset:bb.length<=32->(Bf (BI [] s.au) h bb).length=4/\∀ x∈Bf (BI [] s.au) h bb,x.length<=32:=fun hb=>by
  rw[Aa,List.nil_append]
  obtain⟨h1,h2⟩:=jO (i:=h) (p:=fun x:List UInt8=>x.length<=32) hi.aum hb;exact⟨h1.trans hal,h2⟩
 refine CU fun P hP=>tw ?_
 rcases AY 32 (↑bb.length) with hc0|hc0
 ·refine tw ?_;rw[BA ..];refine tw ?_;exact hP _ ⟨s,4,[],[],A8,rfl⟩
 refine tw ?_;obtain⟨x1,m1,g1⟩:=EL (l:=BI [] s.au) (i:=h) zah;rw[g1];refine tw ?_;refine hP _ ⟨{s with au:=Bf (BI [] s.au) h bb},0,[],[],?_,rfl⟩;exact {hup with aul:=(hset zaa).1,aum:=(hset zaa).2}
end
section
attribute [local irreducible] Cj Dt D9 DT DK BH Du Ey Fh FD Et D7 CV Df DX and' Dk DU CG Ba Bl CJ CS BK BM BB BG Dv G7 Dw EM Dl Bh CO Bz C9 Bo BD Bi BO Be BZ Dx Bf DL Bd BI D6 Dy fits Dz Dn AZ Ap BL
attribute [local irreducible] E5 CP Bq nameB ES Em Ar FK En FH Eu Fe CE IU Ej Gf GV Ee Gp FC JL JZ Ed
theorem xU(s:MS)(lo:Int)(ia:Int)(hi:Kp a k s)(hk:k<=900)(uia:0<=ia/\ia<=1099511627776):Ah E0 (.call 208 [av s,.i lo,rq 1 [] [] [ia] []] []) fun r=>∃(t:MS) (e:Int) (is':List Int) (bs':List (List UInt8)),Kp a (k+1) t/\r=some (.ret (.tup [av t,rp e is' bs' []]) []):=by
 refine CU fun P hP=>tw ?_
 obtain(⟨t0,⟨h0_1,h0_2⟩,yy0⟩|⟨t0_3,e0_4,h0_5,yy0⟩):=kJ s ia hi A8
 ·refine Am yy0 ?_
  obtain(⟨h1_0,yy1⟩|⟨h1_1,yy1⟩):=EO s t0 0
  ·refine Am yy1 ?_;exact hP _ ⟨t0,0,[],[],A8,rfl⟩
  refine Am yy1 ?_;exact hP _ ⟨s,0,[],[],A8,rfl⟩
 refine Am yy0 ?_
 obtain(⟨h2_0,yy2⟩|⟨h2_1,yy2⟩):=EO s t0_3 e0_4
 ·refine Am yy2 ?_;exact hP _ ⟨t0_3,0,[],[],A8,rfl⟩
 refine Am yy2 ?_;exact hP _ ⟨s,e0_4,[],[],clo,rfl⟩
theorem xW(s:MS)(lo:Int)(ia:Int)(hi:Kp a k s)(hk:k<=900)(uia:0<=ia/\ia<=1099511627776):Ah E0 (.call 208 [av s,.i lo,rq 2 [] [] [ia] []] []) fun r=>∃(t:MS) (e:Int) (is':List Int) (bs':List (List UInt8)),Kp a (k+1) t/\r=some (.ret (.tup [av t,rp e is' bs' []]) []):=by
 refine CU fun P hP=>tw ?_
 obtain(⟨t0,h0_1,yy0⟩|⟨t0_2,e0_3,h0_4,yy0⟩):=oD s ia hi
 ·refine Am yy0 ?_
  obtain(⟨h1_0,yy1⟩|⟨h1_1,yy1⟩):=EO s t0 0
  ·refine Am yy1 ?_;exact hP _ ⟨t0,0,[],[],clo,rfl⟩
  refine Am yy1 ?_;exact hP _ ⟨s,0,[],[],A8,rfl⟩
 refine Am yy0 ?_
 obtain(⟨h2_0,yy2⟩|⟨h2_1,yy2⟩):=EO s t0_2 e0_3
 ·refine Am yy2 ?_;exact hP _ ⟨t0_2,0,[],[],A8,rfl⟩
 refine Am yy2 ?_;exact hP _ ⟨s,e0_3,[],[],clo,rfl⟩
theorem xX(s:MS)(lo:Int)(hi:Kp a k s)(hk:k<=900):Ah E0 (.call 208 [av s,.i lo,rq 4 [] [] [] []] []) fun r=>∃(t:MS) (e:Int) (is':List Int) (bs':List (List UInt8)),Kp a (k+1) t/\r=some (.ret (.tup [av t,rp e is' bs' []]) []):=by
 refine CU fun P hP=>tw ?_
 obtain⟨t0,e0_1,is'0_2,bs'0_3,h0_4,yy0⟩:=kW s hi A8;refine Am yy0 ?_;exact hP _ ⟨t0,e0_1,is'0_2,bs'0_3,A8,rfl⟩
theorem xY(s:MS)(lo:Int)(ia ib:Int)(hi:Kp a k s)(hk:k<=900)(uia:0<=ia/\ia<=1099511627776)(uib:0<=ib/\ib<=1099511627776):Ah E0 (.call 208 [av s,.i lo,rq 5 [] [] [ia,ib] []] []) fun r=>∃(t:MS) (e:Int) (is':List Int) (bs':List (List UInt8)),Kp a (k+1) t/\r=some (.ret (.tup [av t,rp e is' bs' []]) []):=by
 refine CU fun P hP=>tw ?_
 obtain⟨t0,e0_1,is'0_2,bs'0_3,h0_4,yy0⟩:=kX s lo ia ib [] [] [] hi A8;refine Am yy0 ?_;exact hP _ ⟨t0,e0_1,is'0_2,bs'0_3,A8,rfl⟩
theorem xZ(s:MS)(lo:Int)(ia:Int)(ba bb:List UInt8)(hi:Kp a k s)(hk:k<=900)(uia:0<=ia/\ia<=1099511627776)(uba:ba.length<=1024)(ubb:bb.length<=1024):Ah E0 (.call 208 [av s,.i lo,rq 6 [] [] [ia] [ba,bb]] []) fun r=>∃(t:MS) (e:Int) (is':List Int) (bs':List (List UInt8)),Kp a (k+1) t/\r=some (.ret (.tup [av t,rp e is' bs' []]) []):=by
 refine CU fun P hP=>tw ?_
 obtain⟨t0,e0_1,is'0_2,bs'0_3,h0_4,yy0⟩:=kY s lo ia [] [] ba bb hi A8 A8 A8;refine Am yy0 ?_;exact hP _ ⟨t0,e0_1,is'0_2,bs'0_3,A8,rfl⟩
theorem xe(s:MS)(lo:Int)(ia:Int)(ba:List UInt8)(hi:Kp a k s)(hk:k<=900)(uia:0<=ia/\ia<=1099511627776)(uba:ba.length<=1024):Ah E0 (.call 208 [av s,.i lo,rq 7 [] [] [ia] [ba]] []) fun r=>∃(t:MS) (e:Int) (is':List Int) (bs':List (List UInt8)),Kp a (k+1) t/\r=some (.ret (.tup [av t,rp e is' bs' []]) []):=by
 refine CU fun P hP=>tw ?_
 obtain⟨t0,e0_1,is'0_2,bs'0_3,h0_4,yy0⟩:=kZ s lo ia [] [] ba hi A8 A8;refine Am yy0 ?_;exact hP _ ⟨t0,e0_1,is'0_2,bs'0_3,A8,rfl⟩
theorem xg(s:MS)(lo:Int)(ia:Int)(hi:Kp a k s)(hk:k<=900)(uia:0<=ia/\ia<=1099511627776):Ah E0 (.call 208 [av s,.i lo,rq 8 [] [] [ia] []] []) fun r=>∃(t:MS) (e:Int) (is':List Int) (bs':List (List UInt8)),Kp a (k+1) t/\r=some (.ret (.tup [av t,rp e is' bs' []]) []):=by
 refine CU fun P hP=>tw ?_
 obtain⟨t0,e0_1,is'0_2,bs'0_3,h0_4,yy0⟩:=kw s lo ia [] [] [] hi A8;refine Am yy0 ?_;exact hP _ ⟨t0,e0_1,is'0_2,bs'0_3,A8,rfl⟩
theorem xh(s:MS)(hA ia ib ic:Int)(ya:Int)(yb yc:List UInt8)(ba bb bc:List UInt8)(hi:Kp a k s)(hk:k<=900)(uhA:0<=hA/\hA<=65535)(uia:0<=ia/\ia<=1099511627776)(uib:0<=ib/\ib<=1099511627776)(uic:0<=ic/\ic<=1099511627776)(uba:ba.length<=1024)(ubb:bb.length<=1024)(ubc:bc.length<=1024)(hz:0<=hA/\hA<=2):Ah E0 (.call 255 [av s,rq 9 [hA] [(ya,yb,yc)] [ia,ib,ic] [ba,bb,bc]] []) fun r=>∃(t:MS) (e:Int) (is':List Int) (bs':List (List UInt8)),Kp a (k+1) t/\r=some (.ret (.tup [av t,rp e is' bs' []]) []):=by
 refine CU fun P hP=>tw ?_
 obtain⟨t0,e0_1,is'0_2,bs'0_3,h0_4,yy0⟩:=Z7 s 9 hA ia ib ic [] [(ya,yb,yc)] ba bb bc hi A8 A8 A8 A8 A8;refine Am yy0 ?_;exact hP _ ⟨t0,e0_1,is'0_2,bs'0_3,A8,rfl⟩
theorem xk(s:MS)(lo:Int)(hA ia ib ic:Int)(ya:Int)(yb yc:List UInt8)(ba bb bc:List UInt8)(hi:Kp a k s)(hk:k<=900)(uhA:0<=hA/\hA<=65535)(uia:0<=ia/\ia<=1099511627776)(uib:0<=ib/\ib<=1099511627776)(uic:0<=ic/\ic<=1099511627776)(uba:ba.length<=1024)(ubb:bb.length<=1024)(ubc:bc.length<=1024)(hz:0<=hA/\hA<=2):Ah E0 (.call 208 [av s,.i lo,rq 9 [hA] [(ya,yb,yc)] [ia,ib,ic] [ba,bb,bc]] []) fun r=>∃(t:MS) (e:Int) (is':List Int) (bs':List (List UInt8)),Kp a (k+1) t/\r=some (.ret (.tup [av t,rp e is' bs' []]) []):=by
 refine CU fun P hP=>tw ?_
 obtain⟨t0,e0_1,is'0_2,bs'0_3,h0_4,yy0⟩:=xh s hA ia ib ic ya yb yc ba bb bc hi A8 A8 A8 A8 A8 A8 A8 A8 A8;refine Am yy0 ?_;exact hP _ ⟨t0,e0_1,is'0_2,bs'0_3,A8,rfl⟩
theorem pK(s:MS)(hA ia ib ic:Int)(ya:Int)(yb yc:List UInt8)(ba bb bc:List UInt8)(hi:Kp a k s)(hk:k<=900)(uhA:0<=hA/\hA<=65535)(uia:0<=ia/\ia<=1099511627776)(uib:0<=ib/\ib<=1099511627776)(uic:0<=ic/\ic<=1099511627776)(uba:ba.length<=1024)(ubb:bb.length<=1024)(ubc:bc.length<=1024)(hz:0<=MP hA s.ob):Ah E0 (.call 255 [av s,rq 10 [hA] [(ya,yb,yc)] [ia,ib,ic] [ba,bb,bc]] []) fun r=>∃(t:MS) (e:Int) (is':List Int) (bs':List (List UInt8)),Kp a (k+1) t/\r=some (.ret (.tup [av t,rp e is' bs' []]) []):=by
 refine CU fun P hP=>tw ?_
 obtain⟨t0,e0_1,is'0_2,bs'0_3,h0_4,yy0⟩:=eH s 10 hA ia ib ic [] [(ya,yb,yc)] ba bb bc hi A8 A8 A8 A8 A8;refine Am yy0 ?_;exact hP _ ⟨t0,e0_1,is'0_2,bs'0_3,A8,rfl⟩
theorem pM(s:MS)(lo:Int)(hA ia ib ic:Int)(ya:Int)(yb yc:List UInt8)(ba bb bc:List UInt8)(hi:Kp a k s)(hk:k<=900)(uhA:0<=hA/\hA<=65535)(uia:0<=ia/\ia<=1099511627776)(uib:0<=ib/\ib<=1099511627776)(uic:0<=ic/\ic<=1099511627776)(uba:ba.length<=1024)(ubb:bb.length<=1024)(ubc:bc.length<=1024)(hz:0<=MP hA s.ob):Ah E0 (.call 208 [av s,.i lo,rq 10 [hA] [(ya,yb,yc)] [ia,ib,ic] [ba,bb,bc]] []) fun r=>∃(t:MS) (e:Int) (is':List Int) (bs':List (List UInt8)),Kp a (k+1) t/\r=some (.ret (.tup [av t,rp e is' bs' []]) []):=by
 refine CU fun P hP=>tw ?_
 obtain⟨t0,e0_1,is'0_2,bs'0_3,h0_4,yy0⟩:=pK s hA ia ib ic ya yb yc ba bb bc hi A8 A8 A8 A8 A8 A8 A8 A8 A8;refine Am yy0 ?_;exact hP _ ⟨t0,e0_1,is'0_2,bs'0_3,A8,rfl⟩
theorem pO(s:MS)(hA:Int)(ya:Int)(yb yc:List UInt8)(ba bb:List UInt8)(hi:Kp a k s)(hk:k<=900)(uhA:0<=hA/\hA<=65535)(uba:ba.length<=1024)(ubb:bb.length<=1024)(hz:0<=MP hA s.ob):Ah E0 (.call 255 [av s,rq 11 [hA] [(ya,yb,yc)] [] [ba,bb]] []) fun r=>∃(t:MS) (e:Int) (is':List Int) (bs':List (List UInt8)),Kp a (k+1) t/\r=some (.ret (.tup [av t,rp e is' bs' []]) []):=by
 refine CU fun P hP=>tw ?_
 obtain⟨t0,e0_1,is'0_2,bs'0_3,h0_4,yy0⟩:=oN s 11 hA [] [(ya,yb,yc)] [] ba bb hi A8 A8 A8 A8 A8;refine Am yy0 ?_;exact hP _ ⟨t0,e0_1,is'0_2,bs'0_3,A8,rfl⟩
theorem pR(s:MS)(lo:Int)(hA:Int)(ya:Int)(yb yc:List UInt8)(ba bb:List UInt8)(hi:Kp a k s)(hk:k<=900)(uhA:0<=hA/\hA<=65535)(uba:ba.length<=1024)(ubb:bb.length<=1024)(hz:0<=MP hA s.ob):Ah E0 (.call 208 [av s,.i lo,rq 11 [hA] [(ya,yb,yc)] [] [ba,bb]] []) fun r=>∃(t:MS) (e:Int) (is':List Int) (bs':List (List UInt8)),Kp a (k+1) t/\r=some (.ret (.tup [av t,rp e is' bs' []]) []):=by
 refine CU fun P hP=>tw ?_
 obtain⟨t0,e0_1,is'0_2,bs'0_3,h0_4,yy0⟩:=pO s hA ya yb yc ba bb hi A8 A8 A8 A8 A8;refine Am yy0 ?_;exact hP _ ⟨t0,e0_1,is'0_2,bs'0_3,A8,rfl⟩
theorem pU(s:MS)(ia:Int)(hi:Kp a k s)(hk:k<=900)(uia:0<=ia/\ia<=1099511627776):Ah E0 (.call 255 [av s,rq 12 [] [] [ia] []] []) fun r=>∃(t:MS) (e:Int) (is':List Int) (bs':List (List UInt8)),Kp a (k+1) t/\r=some (.ret (.tup [av t,rp e is' bs' []]) []):=by
 refine CU fun P hP=>tw ?_
 obtain⟨t0,e0_1,is'0_2,bs'0_3,h0_4,yy0⟩:=kT s 12 ia [] [] [] [] hi A8 A8 A8;refine Am yy0 ?_;exact hP _ ⟨t0,e0_1,is'0_2,bs'0_3,A8,rfl⟩
theorem pV(s:MS)(lo:Int)(ia:Int)(hi:Kp a k s)(hk:k<=900)(uia:0<=ia/\ia<=1099511627776):Ah E0 (.call 208 [av s,.i lo,rq 12 [] [] [ia] []] []) fun r=>∃(t:MS) (e:Int) (is':List Int) (bs':List (List UInt8)),Kp a (k+1) t/\r=some (.ret (.tup [av t,rp e is' bs' []]) []):=by
 refine CU fun P hP=>tw ?_
 obtain⟨t0,e0_1,is'0_2,bs'0_3,h0_4,yy0⟩:=pU s ia hi A8 A8;refine Am yy0 ?_;exact hP _ ⟨t0,e0_1,is'0_2,bs'0_3,A8,rfl⟩
end
end Go.Proofs.YtnhgnfdbdflhcaaGreatDoor
