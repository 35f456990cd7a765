/-
  Own texts, laid together for this claim: contracts of functions of the program and its references, used by the statements of this seat.
-/
import Derived.Test.YtnhgnfdbdflhcaaGreatDoorMtab
import Derived.Test.YtnhgnfdbdflhcaaGreatDoorMtae
import Derived.Test.YtnhgnfdbdflhcaaGreatDoorMtaf
import Derived.Test.YtnhgnfdbdflhcaaGreatDoorMtaj
import Derived.Test.YtnhgnfdbdflhcaaGreatDoorMtaq
import Derived.Test.YtnhgnfdbdflhcaaGreatDoorMtas
import Derived.Test.YtnhgnfdbdflhcaaGreatDoorMtau
set_option linter.all false
set_option maxHeartbeats 40000000
set_option maxRecDepth 100000
namespace Go.Proofs.YtnhgnfdbdflhcaaGreatDoor
open Go Go.Ax Go.Eng
section
attribute [local irreducible] Cc Dn D7 DU DD BA Dp F7 FY FD Ez Ci CS DK DV and' DW DL C9 BR Bh CB CG BG BI Aw BC Dq Fh Dt ER DX Bl CE Bv Bz Bi Az Bg BK Bj BO Du Bc DF BZ BM Cj Di fits Dv Dk Ac Am BH
attribute [local irreducible] Dw CJ Be nameB EL Eh Ar ET E8 Ea ES F8 BV GX
variable (sd au:List (List UInt8))(en:List UInt8)(ac re rs ck:Int)(od:Bool)(sb:List (List (List UInt8)))(su mc:Int)(ix:List (El Gp))(l1 l2 l3 l4 l5 l6:Int)(ks:List (El J8))(st sp:Bool)(rb:List (List (List UInt8)))(ru vc:Int)(sf:Bool)(dr:Int)(ss:List (El sesT))(ob:List (El objT))(rl wl:List Int)
theorem oV(n:Int)(hen:en.length<=100000):Y E0 (.call 127 [(sX sd au en ac re rs ck od sb su mc ix l1 l2 l3 l4 l5 l6 ks st sp rb ru vc sf dr ss ob rl wl),.i n] [])=some (.ret (.tup [(sX sd au en ac re rs ck od sb su mc ix l1 l2 l3 l4 l5 l6 ks st sp rb ru vc sf (Cc dr 1) ss ob rl wl),.sl .u8 (Nl en re rs dr n)]) []):=by
 refine tq ?_;rw[GN _ _ _ A7];refine tq ?_;rw[GN _ _ _ A7];refine tq ?_;rw[GN _ _ _ A7];refine tq ?_;rw[show strOf {data := #[114,97,110,100,111,109]}=mZ from rfl,H7 _ _ _ _ zaa zal zbM]
 refine tq ?_
 rfl
theorem Jy(c h:Int)(hs:List Int)(az:List (El AY))(is:List Int)(bs:List (List UInt8))(p1 p2 p3:Int)(p4 p5 s1 s2 s3:List UInt8)(hr:Int)(hl:ob.length<=1000)(hhs:hs.length<=100)(hx:Dl ob h=some ((p1,p2,p3,p4,p5),(s1,s2,s3),hr))(h1:p1=1):
  Y E0 (.call 126 [(sX sd au en ac re rs ck od sb su mc ix l1 l2 l3 l4 l5 l6 ks st sp rb ru vc sf dr ss ob rl wl),.agg [.i c,.sl .i64 (h::hs),.sl AY az,.sl .i64 is,.sl (.sl .u8) bs]] [])=some (.ret (.tup [.agg [.i p1,.i p2,.i p3,.sl .u8 p4,.sl .u8 p5,.sl .u8 s1,.sl .u8 s2,.sl .u8 s3,.i hr],.i 0]) []):=by
 refine tq ?_;rw[G6 (hl:=A7) ..];refine tq ?_;rw[H8 _ _ _ _ _ _ _ _ _ _ _ _ _ _ _ _ _ _ _ _ _ _ _ _ _ _ _ _ _ _ _ _ _ _ _ _ _ _ _ _ hl hx];exact tq rfl
theorem Xk(c h:Int)(hs:List Int)(az:List (El AY))(is:List Int)(bs:List (List UInt8))(p1 p2 p3:Int)(p4 p5 s1 s2 s3:List UInt8)(hr:Int)(hl:ob.length<=1000)(hhs:hs.length<=100)(hx:Dl ob h=some ((p1,p2,p3,p4,p5),(s1,s2,s3),hr))(h1:p1≠1):
  Y E0 (.call 126 [(sX sd au en ac re rs ck od sb su mc ix l1 l2 l3 l4 l5 l6 ks st sp rb ru vc sf dr ss ob rl wl),.agg [.i c,.sl .i64 (h::hs),.sl AY az,.sl .i64 is,.sl (.sl .u8) bs]] [])=some (.ret (.tup [.agg [.i p1,.i p2,.i p3,.sl .u8 p4,.sl .u8 p5,.sl .u8 s1,.sl .u8 s2,.sl .u8 s3,.i hr],.i 19]) []):=by
 refine tq ?_;rw[G6 (hl:=A7) ..];refine tq ?_;rw[H8 _ _ _ _ _ _ _ _ _ _ _ _ _ _ _ _ _ _ _ _ _ _ _ _ _ _ _ _ _ _ _ _ _ _ _ _ _ _ _ _ hl hx];exact tq rfl
theorem uZ(c h k a t:Int)(hs:List Int)(az:List (El AY))(o u d:List UInt8)(p1 p2 p3:Int)(p4 p5 s1 s2 s3:List UInt8)(hr:Int)(hl:ob.length<=1000)(hhs:hs.length<=100)(hx:Dl ob h=some ((p1,p2,p3,p4,p5),(s1,s2,s3),hr))(h1:p1=1)(ho:o.length<=50000)(hd:d.length<=50000)(h2:s2.length<=1000)(hen:en.length<=1000)(hdr:0<=dr/\dr<=1000000):
  Y E0 (.call 61 [(sX sd au en ac re rs ck od sb su mc ix l1 l2 l3 l4 l5 l6 ks st sp rb ru vc sf dr ss ob rl wl),.agg [.i c,.sl .i64 (h::hs),.sl AY az,.sl .i64 [k,a,t],.sl (.sl .u8) [o,u,d]]] [])=some (.ret (.tup [(sX sd au en ac re rs ck od sb su mc ix l1 l2 l3 l4 l5 l6 ks st sp rb ru vc sf ((Ho ⟨s1,s2,s3⟩ en re rs dr k a t o u d).1) ss ob rl wl),.agg (iZ (Ho ⟨s1,s2,s3⟩ en re rs dr k a t o u d).2)]) []):=by
 have hR:(Nl en re rs dr 32).length=32:=zbP
 unfold Ho
 generalize hRR:Nl en re rs dr 32=R at *
 have hlen:=KJ (secret:=R) (auth:=u) (data:=d) (p:=⟨k,a,t,o,[]⟩)
 have em:=nR R k a t o [] u d zaa
 generalize Be R ⟨k,a,t,o,[]⟩ u d=M at *
 obtain⟨⟨qk,qa,qt,qo,qu⟩,⟨qx,qy,qz⟩,e⟩:=M
 dsimp only[PI,Xu] at *
 by_cases he:e=0
 ·subst he;rw[if_neg zam];refine tq ?_;rw[Jy _ _ _ _ _ _ _ _ _ _ _ _ _ _ _ _ _ _ _ _ _ _ _ _ _ _ _ _ _ _ _ _ _ _ _ _ _ _ _ _ _ _ _ _ _ hl hhs hx h1];refine tq ?_;rw[oV _ _ _ _ _ _ _ _ _ _ _ _ _ _ _ _ _ _ _ _ _ _ _ _ _ _ _ _ _ _ _ zaa,hRR];refine tp ?_;rw[Oe (hl:=A7) ..];refine tp ?_;rw[Jw (hl:=A7) ..];refine tp ?_;rw[Oc (hl:=A7) ..];refine tp ?_;rw[em];refine tp ?_;rw[SB _ _ _ _ _ A7 A7];refine tp ?_;rw[A3i _ _ _ _ _ _ _ _ _ _ _ A7 A7 A7];exact tq rfl
 ·rw[if_pos he];refine tq ?_;rw[Jy _ _ _ _ _ _ _ _ _ _ _ _ _ _ _ _ _ _ _ _ _ _ _ _ _ _ _ _ _ _ _ _ _ _ _ _ _ _ _ _ _ _ _ _ _ hl hhs hx h1];refine tq ?_;rw[oV _ _ _ _ _ _ _ _ _ _ _ _ _ _ _ _ _ _ _ _ _ _ _ _ _ _ _ _ _ _ _ zaa,hRR];refine tp ?_;rw[Oe (hl:=A7) ..];refine tp ?_;rw[Jw (hl:=A7) ..];refine tp ?_;rw[Oc (hl:=A7) ..];refine tp ?_;rw[em];refine tp ?_;rw[F9 ..];exact tq rfl
theorem A3v(c h:Int)(hs:List Int)(az:List (El AY))(is:List Int)(bp bq:List UInt8)(p1 p2 p3:Int)(p4 p5 s1 s2 s3:List UInt8)(hr:Int)(hl:ob.length<=1000)(hhs:hs.length<=100)(hx:Dl ob h=some ((p1,p2,p3,p4,p5),(s1,s2,s3),hr))(h1:p1=1)(hb:bp.length<=100000)(hq:bq.length<=100000)(h2:s2.length<=1000):
  Y E0 (.call 63 [(sX sd au en ac re rs ck od sb su mc ix l1 l2 l3 l4 l5 l6 ks st sp rb ru vc sf dr ss ob rl wl),.agg [.i c,.sl .i64 (h::hs),.sl AY az,.sl .i64 is,.sl (.sl .u8) [bp,bq]]] [])=some (.ret (.tup [(sX sd au en ac re rs ck od sb su mc ix l1 l2 l3 l4 l5 l6 ks st sp rb ru vc sf dr ss ((I5 ob ⟨s1,s2,s3⟩ hr bp bq).1) rl wl),.agg (iZ (I5 ob ⟨s1,s2,s3⟩ hr bp bq).2)]) []):=by
 have ed:=A5U bp zaa
 have hdl:=ik bp
 unfold I5
 generalize F8 bp=D at *
 obtain⟨⟨qk,qa,qt,qo,qu⟩,e⟩:=D
 dsimp only[PI] at *
 by_cases he:e=0
 ·subst he;rw[if_neg zam]
  have eo:=A3j s1 s2 s3 qk qa qt qo qu bq zaa zaa zaa zaa
  generalize ES ⟨s1,s2,s3⟩ ⟨qk,qa,qt,qo,qu⟩ bq=O at *
  obtain⟨⟨qx,qy,qz⟩,e⟩:=O
  dsimp only[Xu] at *
  by_cases he:e=0
  ·subst he;rw[if_neg zam]
   unfold GX
   by_cases hf:EW ob<ob.length
   ·rw[if_pos hf];refine tq ?_;rw[Jy _ _ _ _ _ _ _ _ _ _ _ _ _ _ _ _ _ _ _ _ _ _ _ _ _ _ _ _ _ _ _ _ _ _ _ _ _ _ _ _ _ _ _ _ _ hl hhs hx h1];refine tq ?_;rw[Gj (hl:=A7) ..];refine tq ?_;rw[ed];refine tq ?_;rw[Jw (hl:=A7) ..];refine tq ?_;rw[eo];refine tq ?_;rw[VW _ _ _ _ _ _ _ _ _ _ _ _ _ _ _ _ _ _ _ _ _ _ _ _ _ _ _ _ _ _ _ _ _ _ _ _ _ _ _ hl,if_pos hf];refine tq ?_;rw[Qg _ _ _ _ _ A7 A7];exact tq rfl
   ·rw[if_neg hf];refine tq ?_;rw[Jy _ _ _ _ _ _ _ _ _ _ _ _ _ _ _ _ _ _ _ _ _ _ _ _ _ _ _ _ _ _ _ _ _ _ _ _ _ _ _ _ _ _ _ _ _ hl hhs hx h1];refine tq ?_;rw[Gj (hl:=A7) ..];refine tq ?_;rw[ed];refine tq ?_;rw[Jw (hl:=A7) ..];refine tq ?_;rw[eo];refine tq ?_;rw[VW _ _ _ _ _ _ _ _ _ _ _ _ _ _ _ _ _ _ _ _ _ _ _ _ _ _ _ _ _ _ _ _ _ _ _ _ _ _ _ hl,if_neg hf];refine tq ?_;rw[F9 ..];exact tq rfl
  ·rw[if_pos he];refine tq ?_;rw[Jy _ _ _ _ _ _ _ _ _ _ _ _ _ _ _ _ _ _ _ _ _ _ _ _ _ _ _ _ _ _ _ _ _ _ _ _ _ _ _ _ _ _ _ _ _ hl hhs hx h1];refine tq ?_;rw[Gj (hl:=A7) ..];refine tq ?_;rw[ed];refine tq ?_;rw[Jw (hl:=A7) ..];refine tq ?_;rw[eo];refine tq ?_;rw[F9 ..];exact tq rfl
 ·rw[if_pos he];refine tq ?_;rw[Jy _ _ _ _ _ _ _ _ _ _ _ _ _ _ _ _ _ _ _ _ _ _ _ _ _ _ _ _ _ _ _ _ _ _ _ _ _ _ _ _ _ _ _ _ _ hl hhs hx h1];refine tq ?_;rw[Gj (hl:=A7) ..];refine tq ?_;rw[ed];refine tq ?_;rw[F9 ..];exact tq rfl
end
end Go.Proofs.YtnhgnfdbdflhcaaGreatDoor
