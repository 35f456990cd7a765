/-
  Own texts, laid together for this claim: contracts of functions of the program and its references, used by the statements of this seat.
-/
import Derived.Test.YtanagnimhaemgaaGreatDoorQtac
import Derived.Test.YtanagnimhaemgaaGreatDoorQtaf
import Derived.Test.YtanagnimhaemgaaGreatDoorQtag
import Derived.Test.YtanagnimhaemgaaGreatDoorQtak
import Derived.Test.YtanagnimhaemgaaGreatDoorQtas
import Derived.Test.YtanagnimhaemgaaGreatDoorQtat
set_option linter.all false
set_option maxHeartbeats 40000000
set_option maxRecDepth 100000
namespace Go.Proofs.YtanagnimhaemgaaGreatDoor
open Go Go.Ax Go.Eng
section
attribute [local irreducible] Bl CQ CS Bo Bg Ar CU Dw EN Dy EC Bf BU Bv Bz and' C9 CB BK Au BA BL BN Aa Ad AP AZ CV Dq CW DI CE BP BM BF BG BB AU BC Ae Ap Ai CX BH Bh Ba BO CG CY CJ fits CZ CO A8 AA Ac
attribute [local irreducible] Aw Di DC nameB EL EJ Ag Ei
variable (sd au:List (List UInt8))(en:List UInt8)(ac re rs ck:Int)(od:Bool)(sb:List (List (List UInt8)))(su mc:Int)(ix:List (El AL))(l1 l2 l3 l4 l5 l6:Int)(ks:List (El BR))(st sp:Bool)(rb:List (List (List UInt8)))(ru vc:Int)(sf:Bool)(dr:Int)(ss:List (El sesT))(ob:List (El objT))(rl wl:List Int)
theorem U1(e:Int):Y E0 (.call 223 [(sX sd au en ac re rs ck od sb su mc ix l1 l2 l3 l4 l5 l6 ks st sp rb ru vc sf dr ss ob rl wl),.i e] [])=some (.ret (.tup [(sX sd au en ac re rs ck od sb su mc ix l1 l2 l3 l4 l5 l6 ks st sp rb ru vc sf dr ss ob rl wl),.agg [.i e,.sl .i64 [],.sl (.sl .u8) [],.sl (.sl .u8) []]]) []):=by
 exact tq rfl
theorem KD(c h:Int)(hs:List Int)(az:List (El AQ))(is:List Int)(bs:List (List UInt8))(hl:hs.length<=1000):Y E0 (.call 245 [.agg [.i c,.sl .i64 (h::hs),.sl AQ az,.sl .i64 is,.sl (.sl .u8) bs]] [])=some (.ret (.i h) []):=by
 exact tq rfl
theorem YM(c x:Int)(hs:List Int)(az:List (El AQ))(is:List Int)(bs:List (List UInt8))(hl:is.length<=1000):Y E0 (.call 222 [.agg [.i c,.sl .i64 hs,.sl AQ az,.sl .i64 (x::is),.sl (.sl .u8) bs],.i 0] [])=some (.ret (.i x) []):=by
 exact tq rfl
theorem kw(c x y:Int)(hs:List Int)(az:List (El AQ))(is:List Int)(bs:List (List UInt8))(hl:is.length<=1000):Y E0 (.call 222 [.agg [.i c,.sl .i64 hs,.sl AQ az,.sl .i64 (x::y::is),.sl (.sl .u8) bs],.i 1] [])=some (.ret (.i y) []):=by
 exact tq rfl
theorem A3R(c x y z:Int)(hs:List Int)(az:List (El AQ))(is:List Int)(bs:List (List UInt8))(hl:is.length<=1000):Y E0 (.call 222 [.agg [.i c,.sl .i64 hs,.sl AQ az,.sl .i64 (x::y::z::is),.sl (.sl .u8) bs],.i 2] [])=some (.ret (.i z) []):=by
 exact tq rfl
theorem QU(c:Int)(x:List UInt8)(hs:List Int)(az:List (El AQ))(is:List Int)(bs:List (List UInt8))(hl:bs.length<=1000):Y E0 (.call 247 [.agg [.i c,.sl .i64 hs,.sl AQ az,.sl .i64 is,.sl (.sl .u8) (x::bs)],.i 0] [])=some (.ret (.sl .u8 x) []):=by
 exact tq rfl
theorem V5(c:Int)(x y:List UInt8)(hs:List Int)(az:List (El AQ))(is:List Int)(bs:List (List UInt8))(hl:bs.length<=1000):Y E0 (.call 247 [.agg [.i c,.sl .i64 hs,.sl AQ az,.sl .i64 is,.sl (.sl .u8) (x::y::bs)],.i 1] [])=some (.ret (.sl .u8 y) []):=by
 exact tq rfl
theorem V6(c:Int)(x y z:List UInt8)(hs:List Int)(az:List (El AQ))(is:List Int)(bs:List (List UInt8))(hl:bs.length<=1000):Y E0 (.call 247 [.agg [.i c,.sl .i64 hs,.sl AQ az,.sl .i64 is,.sl (.sl .u8) (x::y::z::bs)],.i 2] [])=some (.ret (.sl .u8 z) []):=by
 exact tq rfl
theorem V7(c k a t:Int)(hs:List Int)(az:List (El AQ))(o:List UInt8)(bs:List (List UInt8))(hl:bs.length<=1000):Y E0 (.call 246 [.agg [.i c,.sl .i64 hs,.sl AQ az,.sl .i64 [k,a,t],.sl (.sl .u8) (o::bs)]] [])=some (.ret (.agg [.i k,.i a,.i t,.sl .u8 o,.sl .u8 []]) []):=by
 refine tq ?_;rw[YM (hl:=Aq) ..];refine tq ?_;rw[kw (hl:=Aq) ..];refine tq ?_;rw[A3R (hl:=Aq) ..];refine tq ?_;rw[QU (hl:=Aq) ..];exact tq rfl
theorem Qn(sd au:List (List UInt8))(en:List UInt8)(ac re rs ck:Int)(od:Bool)(sb:List (List (List UInt8)))(su mc:Int)(ix:List (El AL))(l1 l2 l3 l4 l5 l6:Int)(ks:List (El BR))(st sp:Bool)(rb:List (List (List UInt8)))(ru vc:Int)(sf:Bool)(dr:Int)(ss:List (El sesT))(ob:List (El objT))(rl wl:List Int)(p1 p2 p3:Int)(p4 p5 s1 s2 s3:List UInt8)(hr:Int)(hl:ob.length<=1000):∀(n j:Nat),j+n=ob.length->G7 ob=j+G7 (ob.drop j)->Y E0 (.loop 249 0 0 3 [(2,.pa 0 0),(3,.pa 1 0),(4,.pa 2 0),(11,.sl objT ob),(12,.i (Ap ob)),(13,.i (j:Int))] [(0,some (.var (sC sd au en ac re rs ck od sb su mc ix l1 l2 l3 l4 l5 l6 ks st sp rb ru vc sf dr ss ob rl wl))),(1,some (.var [.i p1,.i p2,.i p3,.sl .u8 p4,.sl .u8 p5,.sl .u8 s1,.sl .u8 s2,.sl .u8 s3,.i hr])),(2,some (.var [.nil,.nil,.nil,.i 0,.i 0,.i 0,.i 0,.b false,.nil,.i 0,.i 0,.nil,.i 0,.i 0,.i 0,.i 0,.i 0,.i 0,.nil,.b false,.b false,.nil,.i 0,.i 0,.b false,.i 0,.nil,.nil,.nil,.nil]))]) =
  if G7 ob<ob.length then some (.fin .ret 3 [(2,.pa 0 0),(4,.pa 1 0),(5,.i (512+(G7 ob:Int))),(6,.i 0)] [(0,some (.var [.sl (.sl .u8) sd,.sl (.sl .u8) au,.sl .u8 en,.i ac,.i re,.i rs,.i ck,.b od,.sl (.sl (.sl .u8)) sb,.i su,.i mc,.sl AL ix,.i l1,.i l2,.i l3,.i l4,.i l5,.i l6,.sl BR ks,.b st,.b sp,.sl (.sl (.sl .u8)) rb,.i ru,.i vc,.b sf,.i dr,.sl sesT ss,.nm 2,.sl .i64 rl,.sl .i64 wl])),(1,some (.var [.sl (.sl .u8) sd,.sl (.sl .u8) au,.sl .u8 en,.i ac,.i re,.i rs,.i ck,.b od,.sl (.sl (.sl .u8)) sb,.i su,.i mc,.sl AL ix,.i l1,.i l2,.i l3,.i l4,.i l5,.i l6,.sl BR ks,.b st,.b sp,.sl (.sl (.sl .u8)) rb,.i ru,.i vc,.b sf,.i dr,.sl sesT ss,.nm 2,.sl .i64 rl,.sl .i64 wl])),(2,some (.row 99 objT (ob.set (G7 ob) ((p1,p2,p3,p4,p5),(s1,s2,s3),hr))))])
  else some (.fin (.exit 0) 2 [(2,.pa 0 0),(4,.pa 1 0)] [(0,some (.var (sC sd au en ac re rs ck od sb su mc ix l1 l2 l3 l4 l5 l6 ks st sp rb ru vc sf dr ss ob rl wl))),(1,some (.var [.nil,.nil,.nil,.i 0,.i 0,.i 0,.i 0,.b false,.nil,.i 0,.i 0,.nil,.i 0,.i 0,.i 0,.i 0,.i 0,.i 0,.nil,.b false,.b false,.nil,.i 0,.i 0,.b false,.i 0,.nil,.nil,.nil,.nil]))])
 | 0,j,hj,hf=>by
  rw[if_neg (by rw[List.drop_eq_nil_of_le zaa,G7] at hf;omega)]
  exact tq rfl
 | n+1,j,hj,hf=>by
  have hd:=List.drop_eq_getElem_cons (l:=ob) (i:=j) zaa
  rw[hd] at hf
  have hg:Ai ob (j:Int)=some (ob[j]'zaa):=IC zaa
  generalize ob[j]'zaa=x at *
  obtain⟨⟨k,a,t,o,u⟩,⟨y1,y2,y3⟩,h⟩:=x
  by_cases hk:k=0
  ·subst hk;rw[G7,if_pos rfl] at hf;rw[if_pos zaa,show G7 ob=j from hf]
   have hs:∀ x,BH ob (j:Int) x=ob.set j x:=fun x=>by rw[Ea];simp
   refine to ?_;rw[hg];refine tq ?_;rw[A2U _ Aq];refine to ?_;rw[hg];refine tq ?_
   (rw[hs])
  ·have ih:=Qn sd au en ac re rs ck od sb su mc ix l1 l2 l3 l4 l5 l6 ks st sp rb ru vc sf dr ss ob rl wl p1 p2 p3 p4 p5 s1 s2 s3 hr hl n (j+1) zaa (by rw[hf,G7,if_neg hk];omega)
   rw[show((j+1:Nat):Int)=(j:Int)+1 from by omega] at ih
   refine to ?_;rw[hg];refine tq ?_;exact ih
theorem kz(p1 p2 p3:Int)(p4 p5 s1 s2 s3:List UInt8)(hr:Int)(hl:ob.length<=1000):Y E0 (.call 249 [(sX sd au en ac re rs ck od sb su mc ix l1 l2 l3 l4 l5 l6 ks st sp rb ru vc sf dr ss ob rl wl),.agg [.i p1,.i p2,.i p3,.sl .u8 p4,.sl .u8 p5,.sl .u8 s1,.sl .u8 s2,.sl .u8 s3,.i hr]] []) =
  if G7 ob<ob.length then some (.ret (.tup [(sX sd au en ac re rs ck od sb su mc ix l1 l2 l3 l4 l5 l6 ks st sp rb ru vc sf dr ss (ob.set (G7 ob) ((p1,p2,p3,p4,p5),(s1,s2,s3),hr)) rl wl),.i (512+(G7 ob:Int)),.i 0]) []) else some (.ret (.tup [(sX sd au en ac re rs ck od sb su mc ix l1 l2 l3 l4 l5 l6 ks st sp rb ru vc sf dr ss ob rl wl),.i 0,.i 25]) []):=by
 have hq:=Qn sd au en ac re rs ck od sb su mc ix l1 l2 l3 l4 l5 l6 ks st sp rb ru vc sf dr ss ob rl wl p1 p2 p3 p4 p5 s1 s2 s3 hr hl ob.length 0 zaa zak
 rw[show((0:Nat):Int)=0 from rfl] at hq
 by_cases hc:G7 ob<ob.length
 ·rw[if_pos hc] at hq ⊢;refine tq ?_;rw[hq];exact tq rfl
 ·rw[if_neg hc] at hq ⊢;refine tq ?_;rw[hq];exact tq rfl
theorem JR(h:Int)(p1 p2 p3:Int)(p4 p5 s1 s2 s3:List UInt8)(hr:Int)(hl:ob.length<=1000)(hx:En ob h=some ((p1,p2,p3,p4,p5),(s1,s2,s3),hr)):Y E0 (.call 182 [(sX sd au en ac re rs ck od sb su mc ix l1 l2 l3 l4 l5 l6 ks st sp rb ru vc sf dr ss ob rl wl),.i h] [])=some (.ret (.tup [.agg [.i p1,.i p2,.i p3,.sl .u8 p4,.sl .u8 p5,.sl .u8 s1,.sl .u8 s2,.sl .u8 s3,.i hr],.i 0]) []):=by
 have hh:512<=h:=by
  unfold En at hx;split at hx
  ·assumption
  ·cases hx
 rw[En,if_pos hh] at hx
 split at hx
 ·rename_i x hq
  split at hx
  ·cases hx
  ·rename_i hk
   obtain rfl:=Option.some.inj hx
   have hlt:=(List.getElem?_eq_some_iff.1 hq).1
   have hg:Ai ob (h-512)=some ((p1,p2,p3,p4,p5),(s1,s2,s3),hr):=by rw[Lj];unfold lget0;rw[if_pos zaa];exact hq
   simp only at hk
   refine tq ?_;rw[hg];refine tq ?_;rw[hg]
   conv=>lhs;whnf
   try dsimp -iota -beta -eta -zeta only
   rw[AO]
   conv=>lhs;whnf
 ·cases hx
theorem aG(h:Int)(hl:ob.length<=1000)(hh : -1000000<=h/\h<=1000000)(hx:En ob h=none):Y E0 (.call 182 [(sX sd au en ac re rs ck od sb su mc ix l1 l2 l3 l4 l5 l6 ks st sp rb ru vc sf dr ss ob rl wl),.i h] [])=some (.ret (.tup [.agg [.i 0,.i 0,.i 0,.sl .u8 [],.sl .u8 [],.sl .u8 [],.sl .u8 [],.sl .u8 [],.i 0],.i 7]) []):=by
 by_cases h5:512<=h
 ·by_cases hb:h-512<ob.length
  ·rw[En,if_pos h5,List.getElem?_eq_getElem zaa] at hx
   have hg:Ai ob (h-512)=some (ob[(h-512).toNat]'zaa):=D8 zaa
   simp only at hx
   generalize ob[(h-512).toNat]'zaa=x at *
   obtain⟨⟨k,a,t,o,u⟩,⟨y1,y2,y3⟩,hi⟩:=x
   split at hx
   ·rename_i hk
    simp only at hk
    subst hk;refine tq ?_;rw[hg];exact tq rfl
   ·cases hx
  ·exact tq rfl
 ·exact tq rfl
theorem A3S(c h k a t:Int)(hs:List Int)(az:List (El AQ))(o u d:List UInt8)(hl:ob.length<=1000)(hsd:sd.length<=1000)(hsl:∀ l∈sd,l.length<=1000)(hhs:hs.length<=100)(ho:o.length<=50000)(hd:d.length<=50000):
  Y E0 (.call 196 [(sX sd au en ac re rs ck od sb su mc ix l1 l2 l3 l4 l5 l6 ks st sp rb ru vc sf dr ss ob rl wl),.agg [.i c,.sl .i64 (h::hs),.sl AQ az,.sl .i64 [k,a,t],.sl (.sl .u8) [o,u,d]]] [])=some (.ret (.tup [(sX sd au en ac re rs ck od sb su mc ix l1 l2 l3 l4 l5 l6 ks st sp rb ru vc sf dr ss ((Eo sd ob h k a t o u d).1) rl wl),.agg (ACD (Eo sd ob h k a t o u d).2)]) []):=by
 unfold Eo
 by_cases hc:0<=h/\h<sd.length
 ·rw[if_pos hc]
  have hg:Ai sd h=some (sd.getD h.toNat []):=by rw[D8 zaa];simp[List.getD,List.getElem?_eq_getElem (show h.toNat<sd.length by omega)]
  have hm:(sd.getD h.toNat []).length<=1000:=by
   have:=hsl (sd[h.toNat]'zaa) (List.getElem_mem _)
   simpa [List.getD,List.getElem?_eq_getElem (show h.toNat<sd.length by omega)] using this
  unfold Ei
  generalize sd.getD h.toNat []=seed at *
  have hlen:=A3A (secret:=Aw seed PN (Ag 0 [[DI k,DI a,DI t],o,d]) 32) (auth:=u) (data:=d) (p:=⟨k,a,t,o,[]⟩)
  have hdl:=G5 (key:=seed) (label:=PN) (ctx:=Ag 0 [[DI k,DI a,DI t],o,d]) (n:=32) zaa
  have em:=A3N (Aw seed PN (Ag 0 [[DI k,DI a,DI t],o,d]) 32) k a t o [] u d zaa
  generalize DC (Aw seed PN (Ag 0 [[DI k,DI a,DI t],o,d]) 32) ⟨k,a,t,o,[]⟩ u d=M at *
  obtain⟨⟨qk,qa,qt,qo,qu⟩,⟨qx,qy,qz⟩,e⟩:=M
  dsimp only[A6B,A8f] at *
  by_cases he:e=0
  ·subst he;rw[if_neg zak]
   unfold Iu
   by_cases hf:G7 ob<ob.length
   ·rw[if_pos hf];refine tq ?_;rw[KD (hl:=Aq) ..];refine tq ?_;rw[V7 (hl:=Aq) ..];refine tq ?_;rw[V6 (hl:=Aq) ..];refine tq ?_;rw[LC _ _ Aq Aq];refine tq ?_;rw[hg];refine tq ?_;rw[show strOf {data := #[112,114,105,109,97,114,121]}=PN from rfl,Fh _ _ _ _ zaa zad (by simp only[LL,BZ];omega)]
    refine tq ?_;rw[V5 (hl:=Aq) ..];refine tq ?_;rw[em];refine tq ?_;rw[kz _ _ _ _ _ _ _ _ _ _ _ _ _ _ _ _ _ _ _ _ _ _ _ _ _ _ _ _ _ _ _ _ _ _ _ _ _ _ _ hl,if_pos hf]
    conv=>lhs;whnf
    rw[AO]
    conv=>lhs;whnf
    rw[DY zaa]
    conv=>lhs;whnf
    try dsimp -iota -beta -eta -zeta only
    rw[Ak];rw[wY _ _ _ _ _ Aq Aq];refine tq ?_;rw[YH _ _ _ _ _ Aq Aq];exact tq rfl
   ·rw[if_neg hf];refine tq ?_;rw[KD (hl:=Aq) ..];refine tq ?_;rw[V7 (hl:=Aq) ..];refine tq ?_;rw[V6 (hl:=Aq) ..];refine tq ?_;rw[LC _ _ Aq Aq];refine tq ?_;rw[hg];refine tq ?_;rw[show strOf {data := #[112,114,105,109,97,114,121]}=PN from rfl,Fh _ _ _ _ zaa zad (by simp only[LL,BZ];omega)]
    refine tq ?_;rw[V5 (hl:=Aq) ..];refine tq ?_;rw[em];refine tq ?_;rw[kz _ _ _ _ _ _ _ _ _ _ _ _ _ _ _ _ _ _ _ _ _ _ _ _ _ _ _ _ _ _ _ _ _ _ _ _ _ _ _ hl,if_neg hf]
    conv=>lhs;whnf
    rw[AO]
    conv=>lhs;whnf
    rw[IY zaa]
    conv=>lhs;whnf
    try dsimp -iota -beta -eta -zeta only
    rw[Ak];rw[U1 ..];exact tq rfl
  ·rw[if_pos he];refine tq ?_;rw[KD (hl:=Aq) ..];refine tq ?_;rw[V7 (hl:=Aq) ..];refine tq ?_;rw[V6 (hl:=Aq) ..];refine tq ?_;rw[LC _ _ Aq Aq];refine tq ?_;rw[hg];refine tq ?_;rw[show strOf {data := #[112,114,105,109,97,114,121]}=PN from rfl,Fh _ _ _ _ zaa zad (by simp only[LL,BZ];omega)]
   refine tq ?_;rw[V5 (hl:=Aq) ..];refine tq ?_;rw[em];refine tq ?_;rw[U1 ..];exact tq rfl
 ·rw[if_neg hc];refine tq ?_;rw[KD (hl:=Aq) ..];refine tq ?_
  rcases D7 h 0 with hc0|hc0
  ·refine tq ?_;rw[U1 ..]
   conv=>lhs;whnf
  rw[Gz zaa]
  conv=>lhs;whnf
  rw[Fg (by(simp only[A7,Be,BV,BZ,EU,IM,AB,Aj,Ah,Dv,LL] at *<;>omega))]
  conv=>lhs;whnf
  try dsimp -iota -beta -eta -zeta only
  rw[Ak];rw[U1 ..];exact tq rfl
end
section
attribute [local irreducible] Bl CQ CS Bo Bg Ar CU Dw EN Dy EC Bf BU Bv Bz and' C9 CB BK Au BA BL BN Aa Ad AP AZ CV Dq CW DI CE BP BM BF BG BB AU BC Ae Ap Ai CX BH Bh Ba BO CG CY CJ fits CZ CO A8 AA Ac
attribute [local irreducible] Aw Di DC nameB EL EJ Ag Ei Eo
variable (sd au:List (List UInt8))(en:List UInt8)(ac re rs ck:Int)(od:Bool)(sb:List (List (List UInt8)))(su mc:Int)(ix:List (El AL))(l1 l2 l3 l4 l5 l6:Int)(ks:List (El BR))(st sp:Bool)(rb:List (List (List UInt8)))(ru vc:Int)(sf:Bool)(dr:Int)(ss:List (El sesT))(ob:List (El objT))(rl wl:List Int)
theorem eP(c h:Int)(hs:List Int)(az:List (El AQ))(is:List Int)(bs:List (List UInt8))(p1 p2 p3:Int)(p4 p5 s1 s2 s3:List UInt8)(hr:Int)(hl:ob.length<=1000)(hhs:hs.length<=100)(hx:En ob h=some ((p1,p2,p3,p4,p5),(s1,s2,s3),hr))(h3:p1=3):
  Y E0 (.call 199 [(sX sd au en ac re rs ck od sb su mc ix l1 l2 l3 l4 l5 l6 ks st sp rb ru vc sf dr ss ob rl wl),.agg [.i c,.sl .i64 (h::hs),.sl AQ az,.sl .i64 is,.sl (.sl .u8) bs]] [])=some (.ret (.tup [(sX sd au en ac re rs ck od sb su mc ix l1 l2 l3 l4 l5 l6 ks st sp rb ru vc sf dr ss ob rl wl),.agg [.i 0,.sl .i64 [],.sl (.sl .u8) [s3],.sl (.sl .u8) []]]) []):=by
 refine tq ?_;rw[KD (hl:=Aq) ..];refine tq ?_;rw[JR _ _ _ _ _ _ _ _ _ _ _ _ _ _ _ _ _ _ _ _ _ _ _ _ _ _ _ _ _ _ _ _ _ _ _ _ _ _ _ _ hl hx];exact tq rfl
end
end Go.Proofs.YtanagnimhaemgaaGreatDoor
