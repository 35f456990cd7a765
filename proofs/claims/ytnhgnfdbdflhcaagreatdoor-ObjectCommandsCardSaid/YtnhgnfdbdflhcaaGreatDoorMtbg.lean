/-
  Own texts, laid together for this claim: contracts of functions of the program and its references, used by the statements of this seat.
-/
import Derived.Test.YtnhgnfdbdflhcaaGreatDoorMtab
import Derived.Test.YtnhgnfdbdflhcaaGreatDoorMtad
import Derived.Test.YtnhgnfdbdflhcaaGreatDoorMtae
import Derived.Test.YtnhgnfdbdflhcaaGreatDoorMtaf
import Derived.Test.YtnhgnfdbdflhcaaGreatDoorMtah
import Derived.Test.YtnhgnfdbdflhcaaGreatDoorMtai
import Derived.Test.YtnhgnfdbdflhcaaGreatDoorMtaj
import Derived.Test.YtnhgnfdbdflhcaaGreatDoorMtan
import Derived.Test.YtnhgnfdbdflhcaaGreatDoorMtao
import Derived.Test.YtnhgnfdbdflhcaaGreatDoorMtas
import Derived.Test.YtnhgnfdbdflhcaaGreatDoorMtau
import Derived.Test.YtnhgnfdbdflhcaaGreatDoorMtav
import Derived.Test.YtnhgnfdbdflhcaaGreatDoorMtbd
import Derived.Test.YtnhgnfdbdflhcaaGreatDoorMtbf
set_option linter.all false
set_option maxHeartbeats 40000000
set_option maxRecDepth 100000
namespace Go.Ax
open Go.Eng
theorem SE(a:Att)(h1:a.key.length<=10000)(h2:a.nonce.length<=10000)(h3:a.digest.length<=10000):(FU a).length<=100000:=by
 unfold FU
 simp only[AO,AU,AB,AC,List.length_append,List.length_cons,List.length_nil,Oz]
 omega
end Go.Ax
namespace Go.Ax
open Go Go.Eng Go.RowKit
variable {ks:List (El J8)}{ob:List (El objT)}{p:Pub}{h:Int}
def TR(l:List (El objT)):Prop:=l.length=3/\∀ x∈l,FZ x
def aT(l:List (El J8)):Prop:=l.length<=8/\∀ x∈l,GY x
theorem jW{l:List (El objT)}{n:Nat}{x:El objT}(h:TR l)(hx:FZ x):TR (l.set n x):=by
 refine⟨by simp[h.1],fun y hy=>?_⟩
 rcases List.mem_or_eq_of_mem_set hy with hy|rfl
 ·exact h.2 y hy
 ·exact hx
theorem yz{s:Sen}{bl:List (List UInt8)}(hob:TR ob)(hx:FZ (A7G p s h)):TR (GX ob p s h bl).1:=by
 unfold GX
 split
 ·exact jW hob hx
 ·exact hob
theorem A3w{s:Sen}(ho:p.policy.length<=32)(hu:p.unique.length<=32)(hh:0<=p.height/\p.height<=3)(h1:s.auth.length<=32)(h2:s.seed.length<=32)(h3:s.data.length<=128):FZ (A7G p s h):=⟨ho,hu,h1,h2,h3,hh.1,hh.2⟩
theorem A5e{secret auth data:List UInt8}(he:(Be secret p auth data).2.2=0):(Be secret p auth data).1.policy.length<=32/\0<=(Be secret p auth data).1.height/\(Be secret p auth data).1.height<=3:=by
 unfold Be at he ⊢
 split at he
 ·rename_i h;exact absurd he h
 ·rename_i h0
  rw[if_neg h0]
  have ho:=Zi (Classical.not_not.1 h0)
  split at he
  ·cases he
  ·rename_i h1
   rw[if_neg h1]
   split at he
   ·cases he
   ·rename_i h2
    rw[if_neg h2]
    exact⟨ho.policy,ho.height⟩
theorem aU{sd:List (List UInt8)}{k a t:Int}{o auth d:List UInt8}(hob:TR ob):TR (E8 sd ob h k a t o auth d).1:=by
 unfold E8
 split
 ·dsimp only
  split
  ·exact hob
  ·rename_i hz
   have hl:=KJ (secret:=ET (sd.getD h.toNat []) k a t o d) (auth:=auth) (data:=d) (p:=⟨k,a,t,o,[]⟩)
   have hb:=A5e (Classical.not_not.1 hz)
   exact yz hob (A3w hb.1 hl.1 hb.2 hl.2.2.1 hl.2.2.2.1 hl.2.2.2.2)
 ·exact hob
theorem A3x{b:List UInt8}(h:(F8 b).2=0):CV (F8 b).1=0:=(A3P (p:=(F8 b).1) (Prod.ext rfl h)).2
theorem zA{par:Sen}{hier:Int}{pub priv:List UInt8}(hob:TR ob):TR (I5 ob par hier pub priv).1:=by
 unfold I5
 split
 ·exact hob
 ·rename_i h1
  split
  ·exact hob
  ·have hl:=A0f par (F8 pub).1 priv
   have ho:=Zi (A3x (Classical.not_not.1 h1))
   exact yz hob (A3w ho.policy ho.unique ho.height hl.1 hl.2.1 hl.2.2)
theorem zB{u:List UInt8}(hk:aT ks)(hu:u.length<=32)(hh:0<=h/\h<=3):aT (EE ks u h).1:=by
 unfold EE
 split
 ·rename_i hc
  split
  ·exact hk
  ·rename_i hw
   have hm:ks.getD (keyAt u ks) ([],0)∈ks:=by simp only[List.getD,List.getElem?_eq_getElem hc,Option.getD_some];exact List.getElem_mem _
   have hx:=hk.2 _ hm
   have h8:(2:Int)^h.toNat<=8:=by
    have h3:h.toNat<=3:=zaa
    have:∀ n≤3,(2:Int)^n<=8:=zal
    exact this _ h3
   generalize ks.getD (keyAt u ks) ([],0)=x at *
   obtain⟨un,us⟩:=x
   simp only[GY,Df] at hx
   refine⟨by simp[hk.1],fun y hy=>?_⟩
   rcases List.mem_or_eq_of_mem_set hy with hy|rfl
   ·exact hk.2 y hy
   ·have hw':¬(2:Int)^h.toNat<=us:=hw
    generalize (2:Int)^h.toNat=W at h8 hw'
    have key:∀ q:Int,0<=q->¬W<=q->0<=q+1/\q+1<=1000:=fun q h1 h2=>zaa
    exact⟨hx.1,key us hx.2.1 hw'⟩
 ·split
  ·exact hk
  ·rename_i h8
   refine⟨by simp;omega,fun y hy=>?_⟩
   rcases List.mem_append.1 hy with hy|hy
   ·exact hk.2 y hy
   ·obtain rfl:=List.mem_singleton.1 hy
    exact⟨hu,by simp only;decide,by simp only;decide⟩
noncomputable def Fa(ks:List (El J8))(p1 p2 p3:Int)(p5 s2 m:List UInt8):List (El J8)×Ans :=
 if p1≠2 then(ks,⟨19,[],[]⟩) else if BA .and p2 4≠0 then(ks,⟨20,[],[]⟩) else if 128<m.length then(ks,⟨4,[],[]⟩)
 else if(EE ks p5 p3).2.2≠0 then(ks,⟨(EE ks p5 p3).2.2,[],[]⟩) else((EE ks p5 p3).1,⟨0,[],[Eg s2 p3 (EE ks p5 p3).2.1 m]⟩)
noncomputable def Ej(ks:List (El J8))(p1 p2 p3:Int)(p5 s2 m:List UInt8)(e:Int)(a:Att):List (El J8)×Ans :=
 if p1≠2 then(ks,⟨19,[],[]⟩) else if BA .and p2 4=0 then(ks,⟨20,[],[]⟩) else if 128<m.length then(ks,⟨4,[],[]⟩)
 else if e≠0 then(ks,⟨e,[],[]⟩)
 else if(EE ks p5 p3).2.2≠0 then(ks,⟨(EE ks p5 p3).2.2,[],[]⟩) else((EE ks p5 p3).1,⟨0,[],[FU a,Eg s2 p3 (EE ks p5 p3).2.1 (FU a)]⟩)
theorem oq{p1 p2 p3:Int}{p5 s2 m:List UInt8}(hk:aT ks)(hu:p5.length<=32)(hh:0<=p3/\p3<=3):aT (Fa ks p1 p2 p3 p5 s2 m).1:=by
 unfold Fa
 (repeat' split)<;>first|exact hk|exact zB hk hu hh
theorem eU{p1 p2 p3:Int}{p5 s2 m:List UInt8}{e:Int}{a:Att}(hk:aT ks)(hu:p5.length<=32)(hh:0<=p3/\p3<=3):aT (Ej ks p1 p2 p3 p5 s2 m e a).1:=by
 unfold Ej
 (repeat' split)<;>first|exact hk|exact zB hk hu hh
end Go.Ax
namespace Go.Proofs.YtnhgnfdbdflhcaaGreatDoor
open Go Go.Ax Go.Eng
section
attribute [local irreducible] Cc Dn D7 DU DD BA Dp F7 FY FD Ez Ci CS DK DV and' DW DL C9 BR Bh CB CG BG BI Aw BC Dq Fh Dt ER DX Bl CE Bv Bz Bi Az Bg BK Bj BO Du Bc DF BZ BM Cj Di fits Dv Dk Ac Am BH
attribute [local irreducible] Dw CJ Be nameB EL Eh Ar ET E8 Ea ES F8 BV GX Eg Fv
variable (sd au:List (List UInt8))(en:List UInt8)(ac re rs ck:Int)(od:Bool)(sb:List (List (List UInt8)))(su mc:Int)(ix:List (El Gp))(l1 l2 l3 l4 l5 l6:Int)(ks:List (El J8))(st sp:Bool)(rb:List (List (List UInt8)))(ru vc:Int)(sf:Bool)(dr:Int)(ss:List (El sesT))(ob:List (El objT))(rl wl:List Int)
theorem GI(c h:Int)(hs:List Int)(az:List (El AY))(is:List Int)(bs:List (List UInt8))(p1 p2 p3:Int)(p4 p5 s1 s2 s3:List UInt8)(hr:Int)(hl:ob.length<=1000)(hhs:hs.length<=100)(hx:Dl ob h=some ((p1,p2,p3,p4,p5),(s1,s2,s3),hr)):
  Y E0 (.call 52 [(sX sd au en ac re rs ck od sb su mc ix l1 l2 l3 l4 l5 l6 ks st sp rb ru vc sf dr ss ob rl wl),.agg [.i c,.sl .i64 (h::hs),.sl AY az,.sl .i64 is,.sl (.sl .u8) bs]] [])=some (.ret (.agg [.i p1,.i p2,.i p3,.sl .u8 p4,.sl .u8 p5,.sl .u8 s1,.sl .u8 s2,.sl .u8 s3,.i hr]) []):=by
 have hi:Jl h ob=h-512:=by unfold Jl;rw[if_neg (by rw[hx];simp)]
 have hlt:=PP h ob
 have h0:0<=Jl h ob:=by
  rw[hi]
  unfold Dl at hx
  split at hx
  ·omega
  ·cases hx
 obtain⟨x,e1,_,hg⟩:=JZ h0;rw[hx] at e1
 obtain rfl:=Option.some.inj e1
 refine tq ?_;rw[Eu (hl:=A7) ..];refine tq ?_;rw[hg];exact tq rfl
theorem aK(n:Int)(hen:en.length<=100000):Y E0 (.call 129 [(sX sd au en ac re rs ck od sb su mc ix l1 l2 l3 l4 l5 l6 ks st sp rb ru vc sf dr ss ob rl wl),.i n] [])=some (.ret (.tup [(sX sd au en ac re rs ck od sb su mc ix l1 l2 l3 l4 l5 l6 ks st sp rb ru vc sf (Cc dr 1) ss ob rl wl),.sl .u8 (Nl en re rs dr n)]) []):=by
 refine tq ?_;rw[CP _ _ _ A7];refine tq ?_;rw[CP _ _ _ A7];refine tq ?_;rw[CP _ _ _ A7];refine tq ?_;rw[show strOf {data := #[114,97,110,100,111,109]}=mZ from rfl,Es _ _ _ _ zaa zal zbM]
 refine tq ?_
 rfl
theorem aN(c h k a t:Int)(hs:List Int)(az:List (El AY))(o u d:List UInt8)(p1 p2 p3:Int)(p4 p5 s1 s2 s3:List UInt8)(hr:Int)(hl:ob.length<=1000)(hhs:hs.length<=100)(hx:Dl ob h=some ((p1,p2,p3,p4,p5),(s1,s2,s3),hr))(h1:p1=1)(ho:o.length<=50000)(hd:d.length<=50000)(h2:s2.length<=1000)(hen:en.length<=1000)(hdr:0<=dr/\dr<=1000000):
  Y E0 (.call 62 [(sX sd au en ac re rs ck od sb su mc ix l1 l2 l3 l4 l5 l6 ks st sp rb ru vc sf dr ss ob rl wl),.agg [.i c,.sl .i64 (h::hs),.sl AY az,.sl .i64 [k,a,t],.sl (.sl .u8) [o,u,d]]] [])=some (.ret (.tup [(sX sd au en ac re rs ck od sb su mc ix l1 l2 l3 l4 l5 l6 ks st sp rb ru vc sf ((Ho ⟨s1,s2,s3⟩ en re rs dr k a t o u d).1) ss ob rl wl),.agg (iZ (Ho ⟨s1,s2,s3⟩ en re rs dr k a t o u d).2)]) []):=by
 have hR:(Nl en re rs dr 32).length=32:=zbP
 unfold Ho
 generalize hRR:Nl en re rs dr 32=R at *
 have hlen:=KJ (secret:=R) (auth:=u) (data:=d) (p:=⟨k,a,t,o,[]⟩)
 have em:=U7 R k a t o [] u d zaa
 generalize Be R ⟨k,a,t,o,[]⟩ u d=M at *
 obtain⟨⟨qk,qa,qt,qo,qu⟩,⟨qx,qy,qz⟩,e⟩:=M
 dsimp only[PI,Xu] at *
 by_cases he:e=0
 ·subst he;rw[if_neg zam];refine tq ?_;rw[GI _ _ _ _ _ _ _ _ _ _ _ _ _ _ _ _ _ _ _ _ _ _ _ _ _ _ _ _ _ _ _ _ _ _ _ _ _ _ _ _ _ _ _ _ _ hl hhs hx];refine tq ?_;rw[aK _ _ _ _ _ _ _ _ _ _ _ _ _ _ _ _ _ _ _ _ _ _ _ _ _ _ _ _ _ _ _ zaa,hRR];refine tp ?_;rw[Og (hl:=A7) ..];refine tp ?_;rw[em];refine tp ?_;rw[IY _ _ _ _ _ A7 A7];refine tp ?_;rw[Zt _ _ _ _ _ _ _ _ _ _ _ A7 A7 A7];exact tq rfl
 ·rw[if_pos he];refine tq ?_;rw[GI _ _ _ _ _ _ _ _ _ _ _ _ _ _ _ _ _ _ _ _ _ _ _ _ _ _ _ _ _ _ _ _ _ _ _ _ _ _ _ _ _ _ _ _ _ hl hhs hx];refine tq ?_;rw[aK _ _ _ _ _ _ _ _ _ _ _ _ _ _ _ _ _ _ _ _ _ _ _ _ _ _ _ _ _ _ _ zaa,hRR];refine tp ?_;rw[Og (hl:=A7) ..];refine tp ?_;rw[em];refine tp ?_;rw[EQ ..];exact tq rfl
theorem Vd(c h:Int)(hs:List Int)(az:List (El AY))(is:List Int)(bs:List (List UInt8))(p1 p2 p3:Int)(p4 p5 s1 s2 s3:List UInt8)(hr:Int)(hl:ob.length<=1000)(hhs:hs.length<=100)(hx:Dl ob h=some ((p1,p2,p3,p4,p5),(s1,s2,s3),hr))(h1:p1≠1):
  Y E0 (.call 62 [(sX sd au en ac re rs ck od sb su mc ix l1 l2 l3 l4 l5 l6 ks st sp rb ru vc sf dr ss ob rl wl),.agg [.i c,.sl .i64 (h::hs),.sl AY az,.sl .i64 is,.sl (.sl .u8) bs]] [])=some (.ret (.tup [(sX sd au en ac re rs ck od sb su mc ix l1 l2 l3 l4 l5 l6 ks st sp rb ru vc sf dr ss ob rl wl),.agg [.i 19,.sl .i64 [],.sl (.sl .u8) [],.sl (.sl .u8) []]]) []):=by
 refine tq ?_;rw[GI _ _ _ _ _ _ _ _ _ _ _ _ _ _ _ _ _ _ _ _ _ _ _ _ _ _ _ _ _ _ _ _ _ _ _ _ _ _ _ _ _ _ _ _ _ hl hhs hx];refine tq ?_;rw[EQ ..];exact tq rfl
theorem oU(c h:Int)(hs:List Int)(az:List (El AY))(is:List Int)(bp bq:List UInt8)(p1 p2 p3:Int)(p4 p5 s1 s2 s3:List UInt8)(hr:Int)(hl:ob.length<=1000)(hhs:hs.length<=100)(hx:Dl ob h=some ((p1,p2,p3,p4,p5),(s1,s2,s3),hr))(h1:p1=1)(hb:bp.length<=100000)(hq:bq.length<=100000)(h2:s2.length<=1000):
  Y E0 (.call 64 [(sX sd au en ac re rs ck od sb su mc ix l1 l2 l3 l4 l5 l6 ks st sp rb ru vc sf dr ss ob rl wl),.agg [.i c,.sl .i64 (h::hs),.sl AY az,.sl .i64 is,.sl (.sl .u8) [bp,bq]]] [])=some (.ret (.tup [(sX sd au en ac re rs ck od sb su mc ix l1 l2 l3 l4 l5 l6 ks st sp rb ru vc sf dr ss ((I5 ob ⟨s1,s2,s3⟩ hr bp bq).1) rl wl),.agg (iZ (I5 ob ⟨s1,s2,s3⟩ hr bp bq).2)]) []):=by
 have ed:=X4 bp zaa
 have hdl:=ik bp
 unfold I5
 generalize F8 bp=D at *
 obtain⟨⟨qk,qa,qt,qo,qu⟩,e⟩:=D
 dsimp only[PI] at *
 by_cases he:e=0
 ·subst he;rw[if_neg zam]
  have eo:=uY s1 s2 s3 qk qa qt qo qu bq zaa zaa zaa zaa
  generalize ES ⟨s1,s2,s3⟩ ⟨qk,qa,qt,qo,qu⟩ bq=O at *
  obtain⟨⟨qx,qy,qz⟩,e⟩:=O
  dsimp only[Xu] at *
  by_cases he:e=0
  ·subst he;rw[if_neg zam]
   unfold GX
   have hfl:=Wx ob
   by_cases hf:EW ob<ob.length
   ·rw[if_pos hf];refine tq ?_;rw[GI _ _ _ _ _ _ _ _ _ _ _ _ _ _ _ _ _ _ _ _ _ _ _ _ _ _ _ _ _ _ _ _ _ _ _ _ _ _ _ _ _ _ _ _ _ hl hhs hx];refine tq ?_;rw[ed];refine tq ?_;rw[eo];refine tq ?_;rw[VX _ _ _ _ _ _ _ _ _ _ _ _ _ _ _ _ _ _ _ _ _ _ _ _ _ _ _ _ _ _ hl,if_pos hf];refine tq ?_;rw[YO (hl:=A7) (hk:=A7) ..];refine tp ?_;rw[GR _ _ _ _ _ A7 A7];refine tq ?_
    rfl
   ·rw[if_neg hf];refine tq ?_;rw[GI _ _ _ _ _ _ _ _ _ _ _ _ _ _ _ _ _ _ _ _ _ _ _ _ _ _ _ _ _ _ _ _ _ _ _ _ _ _ _ _ _ _ _ _ _ hl hhs hx];refine tq ?_;rw[ed];refine tq ?_;rw[eo];refine tq ?_;rw[VX _ _ _ _ _ _ _ _ _ _ _ _ _ _ _ _ _ _ _ _ _ _ _ _ _ _ _ _ _ _ hl,if_neg hf];refine tq ?_;rw[EQ ..];exact tq rfl
  ·rw[if_pos he];refine tq ?_;rw[GI _ _ _ _ _ _ _ _ _ _ _ _ _ _ _ _ _ _ _ _ _ _ _ _ _ _ _ _ _ _ _ _ _ _ _ _ _ _ _ _ _ _ _ _ _ hl hhs hx];refine tq ?_;rw[ed];refine tq ?_;rw[eo];refine tq ?_;rw[EQ ..];exact tq rfl
 ·rw[if_pos he];refine tq ?_;rw[GI _ _ _ _ _ _ _ _ _ _ _ _ _ _ _ _ _ _ _ _ _ _ _ _ _ _ _ _ _ _ _ _ _ _ _ _ _ _ _ _ _ _ _ _ _ hl hhs hx];refine tq ?_;rw[ed];refine tq ?_;rw[EQ ..];exact tq rfl
theorem aO(c h:Int)(hs:List Int)(az:List (El AY))(is:List Int)(bs:List (List UInt8))(p1 p2 p3:Int)(p4 p5 s1 s2 s3:List UInt8)(hr:Int)(hl:ob.length<=1000)(hhs:hs.length<=100)(hx:Dl ob h=some ((p1,p2,p3,p4,p5),(s1,s2,s3),hr))(h1:p1≠1):
  Y E0 (.call 64 [(sX sd au en ac re rs ck od sb su mc ix l1 l2 l3 l4 l5 l6 ks st sp rb ru vc sf dr ss ob rl wl),.agg [.i c,.sl .i64 (h::hs),.sl AY az,.sl .i64 is,.sl (.sl .u8) bs]] [])=some (.ret (.tup [(sX sd au en ac re rs ck od sb su mc ix l1 l2 l3 l4 l5 l6 ks st sp rb ru vc sf dr ss ob rl wl),.agg [.i 19,.sl .i64 [],.sl (.sl .u8) [],.sl (.sl .u8) []]]) []):=by
 refine tq ?_;rw[GI _ _ _ _ _ _ _ _ _ _ _ _ _ _ _ _ _ _ _ _ _ _ _ _ _ _ _ _ _ _ _ _ _ _ _ _ _ _ _ _ _ _ _ _ _ hl hhs hx];refine tq ?_;rw[EQ ..];exact tq rfl
theorem Ve(c h:Int)(hs:List Int)(az:List (El AY))(is:List Int)(bs:List (List UInt8))(p1 p2 p3:Int)(p4 p5 s1 s2 s3:List UInt8)(hr:Int)(hl:ob.length<=1000)(hhs:hs.length<=100)(hx:Dl ob h=some ((p1,p2,p3,p4,p5),(s1,s2,s3),hr))(h3:p1=3)(hs3:s3.length<=100000):
  Y E0 (.call 67 [(sX sd au en ac re rs ck od sb su mc ix l1 l2 l3 l4 l5 l6 ks st sp rb ru vc sf dr ss ob rl wl),.agg [.i c,.sl .i64 (h::hs),.sl AY az,.sl .i64 is,.sl (.sl .u8) bs]] [])=some (.ret (.tup [(sX sd au en ac re rs ck od sb su mc ix l1 l2 l3 l4 l5 l6 ks st sp rb ru vc sf dr ss ob rl wl),.agg [.i 0,.sl .i64 [],.sl (.sl .u8) [s3],.sl (.sl .u8) []]]) []):=by
 refine tq ?_;rw[GI _ _ _ _ _ _ _ _ _ _ _ _ _ _ _ _ _ _ _ _ _ _ _ _ _ _ _ _ _ _ _ _ _ _ _ _ _ _ _ _ _ _ _ _ _ hl hhs hx];refine tq ?_;rw[II _ A7];exact tq rfl
theorem Vf(c h:Int)(hs:List Int)(az:List (El AY))(is:List Int)(bs:List (List UInt8))(p1 p2 p3:Int)(p4 p5 s1 s2 s3:List UInt8)(hr:Int)(hl:ob.length<=1000)(hhs:hs.length<=100)(hx:Dl ob h=some ((p1,p2,p3,p4,p5),(s1,s2,s3),hr))(h3:p1≠3):
  Y E0 (.call 67 [(sX sd au en ac re rs ck od sb su mc ix l1 l2 l3 l4 l5 l6 ks st sp rb ru vc sf dr ss ob rl wl),.agg [.i c,.sl .i64 (h::hs),.sl AY az,.sl .i64 is,.sl (.sl .u8) bs]] [])=some (.ret (.tup [(sX sd au en ac re rs ck od sb su mc ix l1 l2 l3 l4 l5 l6 ks st sp rb ru vc sf dr ss ob rl wl),.agg [.i 19,.sl .i64 [],.sl (.sl .u8) [],.sl (.sl .u8) []]]) []):=by
 refine tq ?_;rw[GI _ _ _ _ _ _ _ _ _ _ _ _ _ _ _ _ _ _ _ _ _ _ _ _ _ _ _ _ _ _ _ _ _ _ _ _ _ _ _ _ _ _ _ _ _ hl hhs hx];refine tq ?_;rw[EQ ..];exact tq rfl
theorem A0g(x:Int)(h0:0<=x)(h1:x<=1000):Cc x 1=x+1:=Au zaa
theorem aP(sd au:List (List UInt8))(en:List UInt8)(ac re rs ck:Int)(od:Bool)(sb:List (List (List UInt8)))(su mc:Int)(ix:List (El Gp))(l1 l2 l3 l4 l5 l6:Int)(ks:List (El J8))(st sp:Bool)(rb:List (List (List UInt8)))(ru vc:Int)(sf:Bool)(dr:Int)(ss:List (El sesT))(ob:List (El objT))(rl wl:List Int)(p1 p2 p3:Int)(p4 p5 s1 s2 s3:List UInt8)(hr:Int)(hl:ks.length<=1000)(hh:0<=p3/\p3<=3)(hu:∀ x∈ks,GY x):∀(n j:Nat),j+n=ks.length->keyAt p5 ks=j+keyAt p5 (ks.drop j)->Y E0 (.loop 115 0 0 3 [(2,.pa 0 0),(3,.pa 1 0),(4,.pa 2 0),(7,.i (j:Int))] [(0,some (.var (sC sd au en ac re rs ck od sb su mc ix l1 l2 l3 l4 l5 l6 ks st sp rb ru vc sf dr ss ob rl wl))),(1,some (.var [.i p1,.i p2,.i p3,.sl .u8 p4,.sl .u8 p5,.sl .u8 s1,.sl .u8 s2,.sl .u8 s3,.i hr])),(2,some (.var [.nil,.nil,.nil,.i 0,.i 0,.i 0,.i 0,.b false,.nil,.i 0,.i 0,.nil,.i 0,.i 0,.i 0,.i 0,.i 0,.i 0,.nil,.b false,.b false,.nil,.i 0,.i 0,.b false,.i 0,.nil,.nil,.nil,.nil]))])=if keyAt p5 ks<ks.length then(if(EE ks p5 p3).2.2=0 then some (.fin .ret 4 [(2,.pa 0 0),(3,.pa 1 0),(4,.pa 2 0),(5,.i (EE ks p5 p3).2.1),(6,.i (EE ks p5 p3).2.2)] [(0,some (.var [.sl (.sl .u8) sd,.sl (.sl .u8) au,.sl .u8 en,.i ac,.i re,.i rs,.i ck,.b od,.sl (.sl (.sl .u8)) sb,.i su,.i mc,.sl Gp ix,.i l1,.i l2,.i l3,.i l4,.i l5,.i l6,.nm 3,.b st,.b sp,.sl (.sl (.sl .u8)) rb,.i ru,.i vc,.b sf,.i dr,.sl sesT ss,.sl objT ob,.sl .i64 rl,.sl .i64 wl])),(1,some (.var [.i p1,.i p2,.i p3,.sl .u8 p4,.sl .u8 p5,.sl .u8 s1,.sl .u8 s2,.sl .u8 s3,.i hr])),(2,some (.var [.sl (.sl .u8) sd,.sl (.sl .u8) au,.sl .u8 en,.i ac,.i re,.i rs,.i ck,.b od,.sl (.sl (.sl .u8)) sb,.i su,.i mc,.sl Gp ix,.i l1,.i l2,.i l3,.i l4,.i l5,.i l6,.nm 3,.b st,.b sp,.sl (.sl (.sl .u8)) rb,.i ru,.i vc,.b sf,.i dr,.sl sesT ss,.sl objT ob,.sl .i64 rl,.sl .i64 wl])),(3,some (.row 190 J8 (EE ks p5 p3).1))]) else some (.fin .ret 3 [(2,.pa 0 0),(3,.pa 1 0),(4,.pa 2 0),(5,.i (EE ks p5 p3).2.1),(6,.i (EE ks p5 p3).2.2)] [(0,some (.var (sC sd au en ac re rs ck od sb su mc ix l1 l2 l3 l4 l5 l6 ks st sp rb ru vc sf dr ss ob rl wl))),(1,some (.var [.i p1,.i p2,.i p3,.sl .u8 p4,.sl .u8 p5,.sl .u8 s1,.sl .u8 s2,.sl .u8 s3,.i hr])),(2,some (.var (sC sd au en ac re rs ck od sb su mc ix l1 l2 l3 l4 l5 l6 ks st sp rb ru vc sf dr ss ob rl wl)))])) else some (.fin (.exit 0) 3 [(2,.pa 0 0),(3,.pa 1 0),(4,.pa 2 0)] [(0,some (.var (sC sd au en ac re rs ck od sb su mc ix l1 l2 l3 l4 l5 l6 ks st sp rb ru vc sf dr ss ob rl wl))),(1,some (.var [.i p1,.i p2,.i p3,.sl .u8 p4,.sl .u8 p5,.sl .u8 s1,.sl .u8 s2,.sl .u8 s3,.i hr])),(2,some (.var [.nil,.nil,.nil,.i 0,.i 0,.i 0,.i 0,.b false,.nil,.i 0,.i 0,.nil,.i 0,.i 0,.i 0,.i 0,.i 0,.i 0,.nil,.b false,.b false,.nil,.i 0,.i 0,.b false,.i 0,.nil,.nil,.nil,.nil]))])
 | 0,j,hj,hf=>by
  rw[if_neg (by rw[List.drop_eq_nil_of_le zaa,keyAt] at hf;omega)]
  exact tq rfl
 | n+1,j,hj,hf=>by
  have hp:Ci 1 (Bl p3).toNat=(2:Int)^p3.toNat:=ZI zaa
  have hd:=List.drop_eq_getElem_cons (l:=ks) (i:=j) zaa
  have hg:BO ks (j:Int)=some (ks[j]'zaa):=Fe zaa
  have hm:=hu (ks[j]'zaa) (List.getElem_mem zaa)
  have hgd:ks.getD j ([],0)=ks[j]'zaa:=by simp[List.getD,List.getElem?_eq_getElem (show j<ks.length by omega)]
  have hs:∀ x,Bc ks (j:Int) x=ks.set j x:=fun x=>by rw[GG];simp
  rw[hd] at hf
  generalize ks[j]'zaa=x at *
  obtain⟨un,us⟩:=x;simp only[GY,Df] at hm
  have hs1:=A0g us hm.2.1 hm.2.2
  by_cases hk:un=p5
  ·subst hk;rw[keyAt,if_pos rfl] at hf
   have hU:EE ks un p3=if(2:Int)^p3.toNat<=us then(ks,0,26) else(ks.set j (un,us+1),us,0):=by
    rw[EE,if_pos zaa,show keyAt un ks=j from hf,hgd]
   rw[if_pos zaa]
   generalize EE ks un p3=U at *
   generalize (2:Int)^p3.toNat=W at *
   by_cases hw:W<=us
   ·rw[if_pos hw] at hU;subst hU;rw[if_neg zam]
    refine to ?_;rw[hg];refine tq ?_;rw[Bq _ _ A7]
    conv=>lhs;whnf
    rw[DT];conv=>lhs;whnf
    rw[decide_eq_true rfl];conv=>lhs;whnf
    rw[hp];exact tq rfl
   ·rw[if_neg hw] at hU;subst hU;rw[if_pos rfl]
    have hn:BM [] ks=ks:=by rw[Ag];rfl
    refine to ?_;rw[hg];refine tq ?_;rw[Bq _ _ A7]
    conv=>lhs;whnf
    rw[DT];conv=>lhs;whnf
    rw[decide_eq_true rfl];conv=>lhs;whnf
    rw[hp];rw[Si zaa]
    conv=>lhs;whnf
    rw[hn];refine to ?_;rw[hg]
    conv=>lhs;whnf
    try dsimp -iota -beta -eta -zeta only
    rw[Gw zaa]
    conv=>lhs;whnf
    rw[hg]
    conv=>lhs;whnf
    try dsimp -iota -beta -eta -zeta only
    rw[hs];exact tq rfl
  ·have ih:=aP sd au en ac re rs ck od sb su mc ix l1 l2 l3 l4 l5 l6 ks st sp rb ru vc sf dr ss ob rl wl p1 p2 p3 p4 p5 s1 s2 s3 hr hl hh hu n (j+1) zaa (by rw[hf,keyAt,if_neg hk];omega)
   rw[show((j+1:Nat):Int)=(j:Int)+1 from by omega] at ih
   have hkd:decide (un=p5)=false:=decide_eq_false hk
   refine to ?_;rw[hg];refine tq ?_;rw[Bq _ _ A7]
   conv=>lhs;whnf
   rw[hkd];refine tq ?_;exact ih
theorem A3u(p1 p2 p3:Int)(p4 p5 s1 s2 s3:List UInt8)(hr:Int)(hl:ks.length<=1000)(hh:0<=p3/\p3<=3)(hu:∀ x∈ks,GY x):Y E0 (.call 115 [(sX sd au en ac re rs ck od sb su mc ix l1 l2 l3 l4 l5 l6 ks st sp rb ru vc sf dr ss ob rl wl),.agg [.i p1,.i p2,.i p3,.sl .u8 p4,.sl .u8 p5,.sl .u8 s1,.sl .u8 s2,.sl .u8 s3,.i hr]] [])=some (.ret (.tup [(sX sd au en ac re rs ck od sb su mc ix l1 l2 l3 l4 l5 l6 ((EE ks p5 p3).1) st sp rb ru vc sf dr ss ob rl wl),.i (EE ks p5 p3).2.1,.i (EE ks p5 p3).2.2]) []):=by
 have e:=aP sd au en ac re rs ck od sb su mc ix l1 l2 l3 l4 l5 l6 ks st sp rb ru vc sf dr ss ob rl wl p1 p2 p3 p4 p5 s1 s2 s3 hr hl hh hu ks.length 0 zaa zam
 rw[show((0:Nat):Int)=0 from rfl] at e
 by_cases hc:keyAt p5 ks<ks.length
 ·rw[if_pos hc] at e
  have hk:=eG (ks:=ks) (u:=p5) (h:=p3)
  generalize EE ks p5 p3=U at *
  obtain⟨kk,n,er⟩:=U
  dsimp only at *
  by_cases h:er=0
  ·subst h;rw[if_pos rfl] at e;refine tq ?_;rw[e];exact tq rfl
  ·rw[if_neg h] at e;rw[hk h];refine tq ?_;rw[e];exact tq rfl
 ·rw[if_neg hc] at e;rw[EE,if_neg hc]
  by_cases h8:8<=ks.length
  ·rw[if_pos h8];refine tq ?_;rw[e];exact tq rfl
  ·rw[if_neg h8];refine tq ?_;rw[e];refine tq ?_
   simp only[NO];try with_reducible rfl
theorem aQ(p1 p2 p3:Int)(p4 p5 s1 s2 s3:List UInt8)(hr:Int)(m:List UInt8)(hl:ks.length<=1000)(hh:0<=p3/\p3<=3)(hu:∀ x∈ks,GY x)(h2:s2.length<=1000)(hm:m.length<=100000):Y E0 (.call 56 [(sX sd au en ac re rs ck od sb su mc ix l1 l2 l3 l4 l5 l6 ks st sp rb ru vc sf dr ss ob rl wl),.agg [.i p1,.i p2,.i p3,.sl .u8 p4,.sl .u8 p5,.sl .u8 s1,.sl .u8 s2,.sl .u8 s3,.i hr],.sl .u8 m] [])=some (.ret (if(EE ks p5 p3).2.2=0 then .tup [(sX sd au en ac re rs ck od sb su mc ix l1 l2 l3 l4 l5 l6 ((EE ks p5 p3).1) st sp rb ru vc sf dr ss ob rl wl),.sl .u8 (Eg s2 p3 (EE ks p5 p3).2.1 m),.i 0] else .tup [(sX sd au en ac re rs ck od sb su mc ix l1 l2 l3 l4 l5 l6 ks st sp rb ru vc sf dr ss ob rl wl),.sl .u8 [],.i (EE ks p5 p3).2.2]) []):=by
 have e:=A3u sd au en ac re rs ck od sb su mc ix l1 l2 l3 l4 l5 l6 ks st sp rb ru vc sf dr ss ob rl wl p1 p2 p3 p4 p5 s1 s2 s3 hr hl hh hu
 have hk:=eG (ks:=ks) (u:=p5) (h:=p3)
 generalize EE ks p5 p3=U at *
 obtain⟨kk,n,er⟩:=U
 dsimp only at *
 by_cases h:er=0
 ·subst h;rw[if_pos rfl];refine tq ?_;rw[e];refine tq ?_;rw[X0 _ _ _ _ A7 A7];exact tq rfl
 ·rw[if_neg h];refine tq ?_;rw[e];exact tq rfl
end
section
attribute [local irreducible] Cc Dn D7 DU DD BA Dp F7 FY FD Ez Ci CS DK DV and' DW DL C9 BR Bh CB CG BG BI Aw BC Dq Fh Dt ER DX Bl CE Bv Bz Bi Az Bg BK Bj BO Du Bc DF BZ BM Cj Di fits Dv Dk Ac Am BH
attribute [local irreducible] Dw CJ Be nameB EL Eh Ar ET E8 Ea ES F8 BV GX Eg Fv FU Ho I5
variable (sd au:List (List UInt8))(en:List UInt8)(ac re rs ck:Int)(od:Bool)(sb:List (List (List UInt8)))(su mc:Int)(ix:List (El Gp))(l1 l2 l3 l4 l5 l6:Int)(ks:List (El J8))(st sp:Bool)(rb:List (List (List UInt8)))(ru vc:Int)(sf:Bool)(dr:Int)(ss:List (El sesT))(ob:List (El objT))(rl wl:List Int)
theorem Vg(c h q0 q1:Int)(hs:List Int)(az:List (El AY))(m:List UInt8)(bs:List (List UInt8))(p1 p2 p3:Int)(p4 p5 s1 s2 s3:List UInt8)(hr:Int)(d:List UInt8)(hl:ob.length<=1000)(hhs:hs.length<=100)(hbs:bs.length<=100)(hx:Dl ob h=some ((p1,p2,p3,p4,p5),(s1,s2,s3),hr))(h1:p1=2)(ha:BA .and p2 4≠0)(hm:m.length<=128)(hkl:ks.length<=100)(hh:0<=p3/\p3<=3)(hu:∀ x∈ks,0<=x.2/\x.2<=1000)(h2:s2.length<=1000)(h4:p4.length<=1000)(h5:p5.length<=1000)(he:(EE ks p5 p3).2.2=0)(hd:d.length<=1000)
  (hD:Y E0 (.call 46 [.agg [.sl (.sl (.sl .u8)) rb,.i ru],.agg [.i q0,.i q1]] [])=some (.ret (.tup [.sl .u8 d,.i 0]) [])) :
  Y E0 (.call 13 [(sX sd au en ac re rs ck od sb su mc ix l1 l2 l3 l4 l5 l6 ks st sp rb ru vc sf dr ss ob rl wl),.agg [.i c,.sl .i64 (h::hs),.sl AY az,.sl .i64 [q0,q1],.sl (.sl .u8) (m::bs)]] [])=some (.ret (.tup [(sX sd au en ac re rs ck od sb su mc ix l1 l2 l3 l4 l5 l6 ((EE ks p5 p3).1) st sp rb ru vc sf dr ss ob rl wl),.agg [.i 0,.sl .i64 [],.sl (.sl .u8) [FU ⟨nameB ⟨p1,p2,p3,p4,p5⟩,m,re,rs,vc,sf,ru,q0,q1,d⟩,Eg s2 p3 (EE ks p5 p3).2.1 (FU ⟨nameB ⟨p1,p2,p3,p4,p5⟩,m,re,rs,vc,sf,ru,q0,q1,d⟩)],.sl (.sl .u8) []]]) []):=by
 have e1:=JU sd au en ac re rs ck od sb su mc ix l1 l2 l3 l4 l5 l6 ks st sp rb ru vc sf dr ss ob rl wl c h hs az [q0,q1] m bs p1 p2 p3 p4 p5 s1 s2 s3 hr true hl hhs hbs hx h1 zbN hm
 have hn:=Aa ⟨p1,p2,p3,p4,p5⟩
 have ea:=TQ ⟨nameB ⟨p1,p2,p3,p4,p5⟩,m,re,rs,vc,sf,ru,q0,q1,d⟩ zay zay zay
 have el:=SE ⟨nameB ⟨p1,p2,p3,p4,p5⟩,m,re,rs,vc,sf,ru,q0,q1,d⟩ zay zay zay
 dsimp only[Qu] at ea
 generalize FU ⟨nameB ⟨p1,p2,p3,p4,p5⟩,m,re,rs,vc,sf,ru,q0,q1,d⟩=Q at *
 have e2:=eH sd au en ac re rs ck od sb su mc ix l1 l2 l3 l4 l5 l6 ks st sp rb ru vc sf dr ss ob rl wl p1 p2 p3 p4 p5 s1 s2 s3 hr Q hkl hh hu h2 zaa he
 refine tq ?_;rw[e1];refine tq ?_;rw[NR (hl:=A7) ..];refine tq ?_;rw[VV (hl:=A7) ..];refine tq ?_;rw[hD];refine tq ?_;rw[Qg _ _ _ _ _ A7 A7];refine tq ?_;rw[Gj (hl:=A7) ..];refine tq ?_;rw[ea];refine tq ?_;rw[e2];exact tq rfl
end
section
attribute [local irreducible] Cc Dn D7 DU DD BA Dp F7 FY FD Ez Ci CS DK DV and' DW DL C9 BR Bh CB CG BG BI Aw BC Dq Fh Dt ER DX Bl CE Bv Bz Bi Az Bg BK Bj BO Du Bc DF BZ BM Cj Di fits Dv Dk Ac Am BH
attribute [local irreducible] Dw CJ Be nameB EL Eh Ar ET E8 Ea ES F8 BV GX Eg Fv FU EE
variable (sd au:List (List UInt8))(en:List UInt8)(ac re rs ck:Int)(od:Bool)(sb:List (List (List UInt8)))(su mc:Int)(ix:List (El Gp))(l1 l2 l3 l4 l5 l6:Int)(ks:List (El J8))(st sp:Bool)(rb:List (List (List UInt8)))(ru vc:Int)(sf:Bool)(dr:Int)(ss:List (El sesT))(ob:List (El objT))(rl wl:List Int)
theorem ou(c h:Int)(hs:List Int)(az:List (El AY))(is:List Int)(m:List UInt8)(bs:List (List UInt8))(p1 p2 p3:Int)(p4 p5 s1 s2 s3:List UInt8)(hr:Int)(hl:ob.length<=1000)(hhs:hs.length<=100)(hbs:bs.length<=100)(hx:Dl ob h=some ((p1,p2,p3,p4,p5),(s1,s2,s3),hr))(hkl:ks.length<=1000)(hh:0<=p3/\p3<=3)(hu:∀ x∈ks,GY x)(h2:s2.length<=1000)(hm:m.length<=100000):
  Y E0 (.call 69 [(sX sd au en ac re rs ck od sb su mc ix l1 l2 l3 l4 l5 l6 ks st sp rb ru vc sf dr ss ob rl wl),.agg [.i c,.sl .i64 (h::hs),.sl AY az,.sl .i64 is,.sl (.sl .u8) (m::bs)]] [])=some (.ret (.tup [(sX sd au en ac re rs ck od sb su mc ix l1 l2 l3 l4 l5 l6 ((Fa ks p1 p2 p3 p5 s2 m).1) st sp rb ru vc sf dr ss ob rl wl),.agg (iZ (Fa ks p1 p2 p3 p5 s2 m).2)]) []):=by
 have e:=aQ sd au en ac re rs ck od sb su mc ix l1 l2 l3 l4 l5 l6 ks st sp rb ru vc sf dr ss ob rl wl p1 p2 p3 p4 p5 s1 s2 s3 hr m hkl hh hu h2 hm
 unfold Fa
 generalize EE ks p5 p3=U at *
 obtain⟨kk,n,er⟩:=U
 dsimp only at *
 by_cases h1:p1=2
 ·rw[if_neg (fun q=>q h1)]
  by_cases ha:BA .and p2 4=0
  ·rw[if_neg (fun q=>q ha)]
   by_cases hz:128<m.length
   ·rw[if_pos hz];refine tq ?_;rw[GI _ _ _ _ _ _ _ _ _ _ _ _ _ _ _ _ _ _ _ _ _ _ _ _ _ _ _ _ _ _ _ _ _ _ _ _ _ _ _ _ _ _ _ _ _ hl hhs hx]
    conv=>lhs;whnf
    rw[Cf zaa]
    conv=>lhs;whnf
    rw[ha];refine tq ?_;rw[EQ ..];exact tq rfl
   ·rw[if_neg hz]
    by_cases he:er=0
    ·subst he;rw[if_pos rfl] at e;rw[if_neg zam];refine tq ?_;rw[GI _ _ _ _ _ _ _ _ _ _ _ _ _ _ _ _ _ _ _ _ _ _ _ _ _ _ _ _ _ _ _ _ _ _ _ _ _ _ _ _ _ _ _ _ _ hl hhs hx]
     conv=>lhs;whnf
     rw[Cf zaa]
     conv=>lhs;whnf
     rw[ha];refine tq ?_;rw[e];exact tq rfl
    ·rw[if_neg he] at e;rw[if_pos he];refine tq ?_;rw[GI _ _ _ _ _ _ _ _ _ _ _ _ _ _ _ _ _ _ _ _ _ _ _ _ _ _ _ _ _ _ _ _ _ _ _ _ _ _ _ _ _ _ _ _ _ hl hhs hx]
     conv=>lhs;whnf
     rw[Cf zaa]
     conv=>lhs;whnf
     rw[ha];refine tq ?_;rw[e];refine tq ?_;rw[EQ ..];exact tq rfl
  ·rw[if_pos ha];refine tq ?_;rw[GI _ _ _ _ _ _ _ _ _ _ _ _ _ _ _ _ _ _ _ _ _ _ _ _ _ _ _ _ _ _ _ _ _ _ _ _ _ _ _ _ _ _ _ _ _ hl hhs hx]
   conv=>lhs;whnf
   rw[Cf zaa]
   conv=>lhs;whnf
   rw[G8 ha];refine tq ?_;rw[EQ ..];exact tq rfl
 ·rw[if_pos h1];refine tq ?_;rw[GI _ _ _ _ _ _ _ _ _ _ _ _ _ _ _ _ _ _ _ _ _ _ _ _ _ _ _ _ _ _ _ _ _ _ _ _ _ _ _ _ _ _ _ _ _ hl hhs hx];refine tq ?_;rw[EQ ..];exact tq rfl
theorem XA(c h q0 q1:Int)(hs:List Int)(az:List (El AY))(m:List UInt8)(bs:List (List UInt8))(p1 p2 p3:Int)(p4 p5 s1 s2 s3:List UInt8)(hr:Int)(d:List UInt8)(er:Int)(hl:ob.length<=1000)(hhs:hs.length<=100)(hbs:bs.length<=100)(hx:Dl ob h=some ((p1,p2,p3,p4,p5),(s1,s2,s3),hr))(hkl:ks.length<=1000)(hh:0<=p3/\p3<=3)(hu:∀ x∈ks,GY x)(h2:s2.length<=1000)(h4:p4.length<=1000)(h5:p5.length<=1000)(hm:m.length<=100000)(hd:d.length<=1000)
  (hD:Y E0 (.call 54 [.agg [.sl (.sl (.sl .u8)) rb,.i ru],.agg [.i q0,.i q1]] [])=some (.ret (.tup [.sl .u8 d,.i er]) [])) :
  Y E0 (.call 15 [(sX sd au en ac re rs ck od sb su mc ix l1 l2 l3 l4 l5 l6 ks st sp rb ru vc sf dr ss ob rl wl),.agg [.i c,.sl .i64 (h::hs),.sl AY az,.sl .i64 [q0,q1],.sl (.sl .u8) (m::bs)]] [])=some (.ret (.tup [(sX sd au en ac re rs ck od sb su mc ix l1 l2 l3 l4 l5 l6 ((Ej ks p1 p2 p3 p5 s2 m er ⟨nameB ⟨p1,p2,p3,p4,p5⟩,m,re,rs,vc,sf,ru,q0,q1,d⟩).1) st sp rb ru vc sf dr ss ob rl wl),.agg (iZ (Ej ks p1 p2 p3 p5 s2 m er ⟨nameB ⟨p1,p2,p3,p4,p5⟩,m,re,rs,vc,sf,ru,q0,q1,d⟩).2)]) []):=by
 have hn:=Aa ⟨p1,p2,p3,p4,p5⟩
 unfold Ej
 by_cases h1:p1=2
 ·rw[if_neg (fun q=>q h1)]
  by_cases ha:BA .and p2 4=0
  ·rw[if_pos ha];refine tq ?_;rw[GI _ _ _ _ _ _ _ _ _ _ _ _ _ _ _ _ _ _ _ _ _ _ _ _ _ _ _ _ _ _ _ _ _ _ _ _ _ _ _ _ _ _ _ _ _ hl hhs hx]
   conv=>lhs;whnf
   rw[Cf zaa]
   conv=>lhs;whnf
   rw[ha];refine tq ?_;rw[EQ ..];exact tq rfl
  ·rw[if_neg ha]
   by_cases hz:128<m.length
   ·rw[if_pos hz];refine tq ?_;rw[GI _ _ _ _ _ _ _ _ _ _ _ _ _ _ _ _ _ _ _ _ _ _ _ _ _ _ _ _ _ _ _ _ _ _ _ _ _ _ _ _ _ _ _ _ _ hl hhs hx]
    conv=>lhs;whnf
    rw[Cf zaa]
    conv=>lhs;whnf
    rw[AA ha];refine tq ?_;rw[EQ ..];exact tq rfl
   ·rw[if_neg hz]
    by_cases hy:er=0
    ·subst hy;rw[if_neg zam]
     have el:=SE ⟨nameB ⟨p1,p2,p3,p4,p5⟩,m,re,rs,vc,sf,ru,q0,q1,d⟩ zay zay zay
     have ea:=bF ⟨nameB ⟨p1,p2,p3,p4,p5⟩,m,re,rs,vc,sf,ru,q0,q1,d⟩ zay zay zay
     dsimp only[Qu] at ea
     generalize FU ⟨nameB ⟨p1,p2,p3,p4,p5⟩,m,re,rs,vc,sf,ru,q0,q1,d⟩=Q at *
     have e:=aQ sd au en ac re rs ck od sb su mc ix l1 l2 l3 l4 l5 l6 ks st sp rb ru vc sf dr ss ob rl wl p1 p2 p3 p4 p5 s1 s2 s3 hr Q hkl hh hu h2 zaa
     generalize EE ks p5 p3=U at *
     obtain⟨kk,n,er⟩:=U
     dsimp only at *
     by_cases he:er=0
     ·subst he;rw[if_pos rfl] at e;rw[if_neg zam];refine tq ?_;rw[GI _ _ _ _ _ _ _ _ _ _ _ _ _ _ _ _ _ _ _ _ _ _ _ _ _ _ _ _ _ _ _ _ _ _ _ _ _ _ _ _ _ _ _ _ _ hl hhs hx]
      conv=>lhs;whnf
      rw[Cf zaa]
      conv=>lhs;whnf
      rw[AA ha];refine tq ?_;rw[GR _ _ _ _ _ A7 A7];refine tq ?_;rw[hD];refine tq ?_;rw[ea];refine tq ?_;rw[e];exact tq rfl
     ·rw[if_neg he] at e;rw[if_pos he];refine tq ?_;rw[GI _ _ _ _ _ _ _ _ _ _ _ _ _ _ _ _ _ _ _ _ _ _ _ _ _ _ _ _ _ _ _ _ _ _ _ _ _ _ _ _ _ _ _ _ _ hl hhs hx]
      conv=>lhs;whnf
      rw[Cf zaa]
      conv=>lhs;whnf
      rw[AA ha];refine tq ?_;rw[GR _ _ _ _ _ A7 A7];refine tq ?_;rw[hD];refine tq ?_;rw[ea];refine tq ?_;rw[e];refine tq ?_;rw[EQ ..];exact tq rfl
    ·rw[if_pos hy];refine tq ?_;rw[GI _ _ _ _ _ _ _ _ _ _ _ _ _ _ _ _ _ _ _ _ _ _ _ _ _ _ _ _ _ _ _ _ _ _ _ _ _ _ _ _ _ _ _ _ _ hl hhs hx]
     conv=>lhs;whnf
     rw[Cf zaa]
     conv=>lhs;whnf
     rw[AA ha];refine tq ?_;rw[GR _ _ _ _ _ A7 A7];refine tq ?_;rw[hD];refine tq ?_;rw[EQ ..];exact tq rfl
 ·rw[if_pos h1];refine tq ?_;rw[GI _ _ _ _ _ _ _ _ _ _ _ _ _ _ _ _ _ _ _ _ _ _ _ _ _ _ _ _ _ _ _ _ _ _ _ _ _ _ _ _ _ _ _ _ _ hl hhs hx];refine tq ?_;rw[EQ ..];exact tq rfl
end
end Go.Proofs.YtnhgnfdbdflhcaaGreatDoor
