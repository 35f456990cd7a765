/- Own texts of this claim: contracts of functions. -/
import Derived.Test.YtlpkjhhfhannpaaGreatDoorBtag
set_option linter.all false
set_option maxHeartbeats 40000000
set_option maxRecDepth 100000
namespace Go.Ax
open Go Go.Eng Go.RowKit
def ssI(h:Int)(l:List (El sesT)):Int:=if 768<=h then(match l[(h-768).toNat]? with|some x=>if x.1=0 then -1 else h-768|none => -1) else -1
end Go.Ax
namespace Go.Proofs.YtlpkjhhfhannpaaGreatDoor
open Go Go.Ax Go.Eng
attribute [local irreducible] CS Cj CP CW CQ BC Cm ED ES Dx EG CJ Bi Ce CX and' Cf CU BL Au BI BP BR Ag Ai AY Ae D5 EJ D6 DX Cb BZ BQ BM BO BJ AZ BK Aj Ak Ap D7 BB CV BU BF CO D8 Cc fits D9 Ci AC AQ Ah
section
attribute [local irreducible] BG DY CY nameB Eh Ef Az Ei
variable (sd au:List (List UInt8))(en:List UInt8)(ac re rs ck:Int)(od:Bool)(sb:List (List (List UInt8)))(su mc:Int)(ix:List (El Bf))(l1 l2 l3 l4 l5 l6:Int)(ks:List (El E8))(st sp:Bool)(rb:List (List (List UInt8)))(ru vc:Int)(sf:Bool)(dr:Int)(ss:List (El sesT))(ob:List (El objT))(rl wl:List Int)
theorem QG(e:Int):Y E0 (.call 228 [(sX sd au en ac re rs ck od sb su mc ix l1 l2 l3 l4 l5 l6 ks st sp rb ru vc sf dr ss ob rl wl),.i e] [])=some (.ret (.tup [(sX sd au en ac re rs ck od sb su mc ix l1 l2 l3 l4 l5 l6 ks st sp rb ru vc sf dr ss ob rl wl),.agg [.i e,.sl .i64 [],.sl (.sl .u8) [],.sl (.sl .u8) []]]) []):=by
 exact tq rfl
theorem OE(c h:Int)(hs:List Int)(az:List (El AB))(is:List Int)(bs:List (List UInt8))(hl:hs.length<=1000):Y E0 (.call 250 [.agg [.i c,.sl .i64 (h::hs),.sl AB az,.sl .i64 is,.sl (.sl .u8) bs]] [])=some (.ret (.i h) []):=by
 exact tq rfl
theorem qX(c x:Int)(hs:List Int)(az:List (El AB))(is:List Int)(bs:List (List UInt8))(hl:is.length<=1000):Y E0 (.call 227 [.agg [.i c,.sl .i64 hs,.sl AB az,.sl .i64 (x::is),.sl (.sl .u8) bs],.i 0] [])=some (.ret (.i x) []):=by
 exact tq rfl
theorem A59(c x y:Int)(hs:List Int)(az:List (El AB))(is:List Int)(bs:List (List UInt8))(hl:is.length<=1000):Y E0 (.call 227 [.agg [.i c,.sl .i64 hs,.sl AB az,.sl .i64 (x::y::is),.sl (.sl .u8) bs],.i 1] [])=some (.ret (.i y) []):=by
 exact tq rfl
theorem A5A(c x y z:Int)(hs:List Int)(az:List (El AB))(is:List Int)(bs:List (List UInt8))(hl:is.length<=1000):Y E0 (.call 227 [.agg [.i c,.sl .i64 hs,.sl AB az,.sl .i64 (x::y::z::is),.sl (.sl .u8) bs],.i 2] [])=some (.ret (.i z) []):=by
 exact tq rfl
theorem A1B(c:Int)(x:List UInt8)(hs:List Int)(az:List (El AB))(is:List Int)(bs:List (List UInt8))(hl:bs.length<=1000):Y E0 (.call 252 [.agg [.i c,.sl .i64 hs,.sl AB az,.sl .i64 is,.sl (.sl .u8) (x::bs)],.i 0] [])=some (.ret (.sl .u8 x) []):=by
 exact tq rfl
theorem Vd(c:Int)(x y:List UInt8)(hs:List Int)(az:List (El AB))(is:List Int)(bs:List (List UInt8))(hl:bs.length<=1000):Y E0 (.call 252 [.agg [.i c,.sl .i64 hs,.sl AB az,.sl .i64 is,.sl (.sl .u8) (x::y::bs)],.i 1] [])=some (.ret (.sl .u8 y) []):=by
 exact tq rfl
theorem Ve(c:Int)(x y z:List UInt8)(hs:List Int)(az:List (El AB))(is:List Int)(bs:List (List UInt8))(hl:bs.length<=1000):Y E0 (.call 252 [.agg [.i c,.sl .i64 hs,.sl AB az,.sl .i64 is,.sl (.sl .u8) (x::y::z::bs)],.i 2] [])=some (.ret (.sl .u8 z) []):=by
 exact tq rfl
theorem Vf(c k a t:Int)(hs:List Int)(az:List (El AB))(o:List UInt8)(bs:List (List UInt8))(hl:bs.length<=1000):Y E0 (.call 251 [.agg [.i c,.sl .i64 hs,.sl AB az,.sl .i64 [k,a,t],.sl (.sl .u8) (o::bs)]] [])=some (.ret (.agg [.i k,.i a,.i t,.sl .u8 o,.sl .u8 []]) []):=by
 refine tq ?_;rw[qX (hl:=AA) ..];refine tq ?_;rw[A59 (hl:=AA) ..];refine tq ?_;rw[A5A (hl:=AA) ..];refine tq ?_;rw[A1B (hl:=AA) ..];exact tq rfl
theorem Ru(sd au:List (List UInt8))(en:List UInt8)(ac re rs ck:Int)(od:Bool)(sb:List (List (List UInt8)))(su mc:Int)(ix:List (El Bf))(l1 l2 l3 l4 l5 l6:Int)(ks:List (El E8))(st sp:Bool)(rb:List (List (List UInt8)))(ru vc:Int)(sf:Bool)(dr:Int)(ss:List (El sesT))(ob:List (El objT))(rl wl:List Int)(p1 p2 p3:Int)(p4 p5 s1 s2 s3:List UInt8)(hr:Int)(hl:ob.length<=1000):∀(n j:Nat),j+n=ob.length->GZ ob=j+GZ (ob.drop j)->Y E0 (.loop 254 0 0 3 [(2,.pa 0 0),(3,.pa 1 0),(4,.pa 2 0),(11,.sl objT ob),(12,.i (Ak ob)),(13,.i (j:Int))] [(0,some (.var (sC sd au en ac re rs ck od sb su mc ix l1 l2 l3 l4 l5 l6 ks st sp rb ru vc sf dr ss ob rl wl))),(1,some (.var [.i p1,.i p2,.i p3,.sl .u8 p4,.sl .u8 p5,.sl .u8 s1,.sl .u8 s2,.sl .u8 s3,.i hr])),(2,some (.var [.nil,.nil,.nil,.i 0,.i 0,.i 0,.i 0,.b false,.nil,.i 0,.i 0,.nil,.i 0,.i 0,.i 0,.i 0,.i 0,.i 0,.nil,.b false,.b false,.nil,.i 0,.i 0,.b false,.i 0,.nil,.nil,.nil,.nil]))]) =
  if GZ ob<ob.length then some (.fin .ret 3 [(2,.pa 0 0),(4,.pa 1 0),(5,.i (512+(GZ ob:Int))),(6,.i 0)] [(0,some (.var [.sl (.sl .u8) sd,.sl (.sl .u8) au,.sl .u8 en,.i ac,.i re,.i rs,.i ck,.b od,.sl (.sl (.sl .u8)) sb,.i su,.i mc,.sl Bf ix,.i l1,.i l2,.i l3,.i l4,.i l5,.i l6,.sl E8 ks,.b st,.b sp,.sl (.sl (.sl .u8)) rb,.i ru,.i vc,.b sf,.i dr,.sl sesT ss,.nm 2,.sl .i64 rl,.sl .i64 wl])),(1,some (.var [.sl (.sl .u8) sd,.sl (.sl .u8) au,.sl .u8 en,.i ac,.i re,.i rs,.i ck,.b od,.sl (.sl (.sl .u8)) sb,.i su,.i mc,.sl Bf ix,.i l1,.i l2,.i l3,.i l4,.i l5,.i l6,.sl E8 ks,.b st,.b sp,.sl (.sl (.sl .u8)) rb,.i ru,.i vc,.b sf,.i dr,.sl sesT ss,.nm 2,.sl .i64 rl,.sl .i64 wl])),(2,some (.row 140 objT (ob.set (GZ ob) ((p1,p2,p3,p4,p5),(s1,s2,s3),hr))))])
  else some (.fin (.exit 0) 2 [(2,.pa 0 0),(4,.pa 1 0)] [(0,some (.var (sC sd au en ac re rs ck od sb su mc ix l1 l2 l3 l4 l5 l6 ks st sp rb ru vc sf dr ss ob rl wl))),(1,some (.var [.nil,.nil,.nil,.i 0,.i 0,.i 0,.i 0,.b false,.nil,.i 0,.i 0,.nil,.i 0,.i 0,.i 0,.i 0,.i 0,.i 0,.nil,.b false,.b false,.nil,.i 0,.i 0,.b false,.i 0,.nil,.nil,.nil,.nil]))])
 | 0,j,hj,hf=>by
  rw[if_neg (by rw[List.drop_eq_nil_of_le zaa,GZ] at hf;omega)]
  exact tq rfl
 | n+1,j,hj,hf=>by
  have hd:=List.drop_eq_getElem_cons (l:=ob) (i:=j) zaa
  rw[hd] at hf
  have hg:Ap ob (j:Int)=some (ob[j]'zaa):=JC zaa
  generalize ob[j]'zaa=x at *
  obtain⟨⟨k,a,t,o,u⟩,⟨y1,y2,y3⟩,h⟩:=x
  by_cases hk:k=0
  ·subst hk;rw[GZ,if_pos rfl] at hf;rw[if_pos zaa,show GZ ob=j from hf]
   have hs:∀ x,BB ob (j:Int) x=ob.set j x:=fun x=>by rw[EL];simp
   refine to ?_;rw[hg];refine tq ?_;rw[A9y _ AA];refine to ?_;rw[hg];refine tq ?_
   (rw[hs])
  ·have ih:=Ru sd au en ac re rs ck od sb su mc ix l1 l2 l3 l4 l5 l6 ks st sp rb ru vc sf dr ss ob rl wl p1 p2 p3 p4 p5 s1 s2 s3 hr hl n (j+1) zaa (by rw[hf,GZ,if_neg hk];omega)
   rw[show((j+1:Nat):Int)=(j:Int)+1 from by omega] at ih
   refine to ?_;rw[hg];refine tq ?_;exact ih
theorem qY(p1 p2 p3:Int)(p4 p5 s1 s2 s3:List UInt8)(hr:Int)(hl:ob.length<=1000):Y E0 (.call 254 [(sX sd au en ac re rs ck od sb su mc ix l1 l2 l3 l4 l5 l6 ks st sp rb ru vc sf dr ss ob rl wl),.agg [.i p1,.i p2,.i p3,.sl .u8 p4,.sl .u8 p5,.sl .u8 s1,.sl .u8 s2,.sl .u8 s3,.i hr]] []) =
  if GZ ob<ob.length then some (.ret (.tup [(sX sd au en ac re rs ck od sb su mc ix l1 l2 l3 l4 l5 l6 ks st sp rb ru vc sf dr ss (ob.set (GZ ob) ((p1,p2,p3,p4,p5),(s1,s2,s3),hr)) rl wl),.i (512+(GZ ob:Int)),.i 0]) []) else some (.ret (.tup [(sX sd au en ac re rs ck od sb su mc ix l1 l2 l3 l4 l5 l6 ks st sp rb ru vc sf dr ss ob rl wl),.i 0,.i 25]) []):=by
 have hq:=Ru sd au en ac re rs ck od sb su mc ix l1 l2 l3 l4 l5 l6 ks st sp rb ru vc sf dr ss ob rl wl p1 p2 p3 p4 p5 s1 s2 s3 hr hl ob.length 0 zaa zat
 rw[show((0:Nat):Int)=0 from rfl] at hq
 by_cases hc:GZ ob<ob.length
 ·rw[if_pos hc] at hq ⊢;refine tq ?_;rw[hq];exact tq rfl
 ·rw[if_neg hc] at hq ⊢;refine tq ?_;rw[hq];exact tq rfl
theorem Vg(h:Int)(p1 p2 p3:Int)(p4 p5 s1 s2 s3:List UInt8)(hr:Int)(hl:ob.length<=1000)(hx:GG ob h=some ((p1,p2,p3,p4,p5),(s1,s2,s3),hr)):Y E0 (.call 182 [(sX sd au en ac re rs ck od sb su mc ix l1 l2 l3 l4 l5 l6 ks st sp rb ru vc sf dr ss ob rl wl),.i h] [])=some (.ret (.tup [.agg [.i p1,.i p2,.i p3,.sl .u8 p4,.sl .u8 p5,.sl .u8 s1,.sl .u8 s2,.sl .u8 s3,.i hr],.i 0]) []):=by
 have hh:512<=h:=by
  unfold GG at hx;split at hx
  ·assumption
  ·cases hx
 rw[GG,if_pos hh] at hx
 split at hx
 ·rename_i x hq
  split at hx
  ·cases hx
  ·rename_i hk
   obtain rfl:=Option.some.inj hx
   have hlt:=(List.getElem?_eq_some_iff.1 hq).1
   have hg:Ap ob (h-512)=some ((p1,p2,p3,p4,p5),(s1,s2,s3),hr):=by rw[LJ];unfold lget0;rw[if_pos zaa];exact hq
   simp only at hk
   refine tq ?_;rw[hg];refine tq ?_;rw[hg]
   conv=>lhs;whnf
   try dsimp -iota -beta -eta -zeta only
   rw[AL]
   conv=>lhs;whnf
 ·cases hx
theorem Qq(h:Int)(hl:ob.length<=1000)(hh : -1000000<=h/\h<=1000000)(hx:GG ob h=none):Y E0 (.call 182 [(sX sd au en ac re rs ck od sb su mc ix l1 l2 l3 l4 l5 l6 ks st sp rb ru vc sf dr ss ob rl wl),.i h] [])=some (.ret (.tup [.agg [.i 0,.i 0,.i 0,.sl .u8 [],.sl .u8 [],.sl .u8 [],.sl .u8 [],.sl .u8 [],.i 0],.i 7]) []):=by
 by_cases h5:512<=h
 ·by_cases hb:h-512<ob.length
  ·rw[GG,if_pos h5,List.getElem?_eq_getElem zaa] at hx
   have hg:Ap ob (h-512)=some (ob[(h-512).toNat]'zaa):=Bv zaa
   simp only at hx
   generalize ob[(h-512).toNat]'zaa=x at *
   obtain⟨⟨k,a,t,o,u⟩,⟨y1,y2,y3⟩,hi⟩:=x
   split at hx
   ·rename_i hk
    simp only at hk
    subst hk;refine tq ?_;rw[hg];exact tq rfl
   ·cases hx
  ·exact tq rfl
 ·exact tq rfl
theorem A5B(c h k a t:Int)(hs:List Int)(az:List (El AB))(o u d:List UInt8)(hl:ob.length<=1000)(hsd:sd.length<=1000)(hsl:∀ l∈sd,l.length<=1000)(hhs:hs.length<=100)(ho:o.length<=50000)(hd:d.length<=50000):
  Y E0 (.call 196 [(sX sd au en ac re rs ck od sb su mc ix l1 l2 l3 l4 l5 l6 ks st sp rb ru vc sf dr ss ob rl wl),.agg [.i c,.sl .i64 (h::hs),.sl AB az,.sl .i64 [k,a,t],.sl (.sl .u8) [o,u,d]]] [])=some (.ret (.tup [(sX sd au en ac re rs ck od sb su mc ix l1 l2 l3 l4 l5 l6 ks st sp rb ru vc sf dr ss ((Eo sd ob h k a t o u d).1) rl wl),.agg (AER (Eo sd ob h k a t o u d).2)]) []):=by
 unfold Eo
 by_cases hc:0<=h/\h<sd.length
 ·rw[if_pos hc]
  have hg:Ap sd h=some (sd.getD h.toNat []):=by rw[Bv zaa];simp[List.getD,List.getElem?_eq_getElem (show h.toNat<sd.length by omega)]
  have hm:(sd.getD h.toNat []).length<=1000:=by
   have:=hsl (sd[h.toNat]'zaa) (List.getElem_mem _)
   simpa [List.getD,List.getElem?_eq_getElem (show h.toNat<sd.length by omega)] using this
  unfold Ei
  generalize sd.getD h.toNat []=seed at *
  have hlen:=Yj (secret:=BG seed WI (Az 0 [[DX k,DX a,DX t],o,d]) 32) (auth:=u) (data:=d) (p:=⟨k,a,t,o,[]⟩)
  have hdl:=Et (key:=seed) (label:=WI) (ctx:=Az 0 [[DX k,DX a,DX t],o,d]) (n:=32) zaa
  have em:=A4Z (BG seed WI (Az 0 [[DX k,DX a,DX t],o,d]) 32) k a t o [] u d zaa
  generalize CY (BG seed WI (Az 0 [[DX k,DX a,DX t],o,d]) 32) ⟨k,a,t,o,[]⟩ u d=M at *
  obtain⟨⟨qk,qa,qt,qo,qu⟩,⟨qx,qy,qz⟩,e⟩:=M
  dsimp only[A0r,A45] at *
  by_cases he:e=0
  ·subst he;rw[if_neg zat]
   unfold Io
   by_cases hf:GZ ob<ob.length
   ·rw[if_pos hf];refine tq ?_;rw[OE (hl:=AA) ..];refine tq ?_;rw[Vf (hl:=AA) ..];refine tq ?_;rw[Ve (hl:=AA) ..];refine tq ?_;rw[Ll _ _ AA AA];refine tq ?_;rw[hg];refine tq ?_;rw[show strOf {data := #[112,114,105,109,97,114,121]}=WI from rfl,GH _ _ _ _ zaa zaj (by simp only[LL,BA];omega)]
    refine tq ?_;rw[Vd (hl:=AA) ..];refine tq ?_;rw[em];refine tq ?_;rw[qY _ _ _ _ _ _ _ _ _ _ _ _ _ _ _ _ _ _ _ _ _ _ _ _ _ _ _ _ _ _ _ _ _ _ _ _ _ _ _ hl,if_pos hf]
    conv=>lhs;whnf
    rw[AL]
    conv=>lhs;whnf
    rw[FH zaa]
    conv=>lhs;whnf
    try dsimp -iota -beta -eta -zeta only
    rw[AX];rw[yU _ _ _ _ _ AA AA];refine tq ?_;rw[nT _ _ _ _ _ AA AA];exact tq rfl
   ·rw[if_neg hf];refine tq ?_;rw[OE (hl:=AA) ..];refine tq ?_;rw[Vf (hl:=AA) ..];refine tq ?_;rw[Ve (hl:=AA) ..];refine tq ?_;rw[Ll _ _ AA AA];refine tq ?_;rw[hg];refine tq ?_;rw[show strOf {data := #[112,114,105,109,97,114,121]}=WI from rfl,GH _ _ _ _ zaa zaj (by simp only[LL,BA];omega)]
    refine tq ?_;rw[Vd (hl:=AA) ..];refine tq ?_;rw[em];refine tq ?_;rw[qY _ _ _ _ _ _ _ _ _ _ _ _ _ _ _ _ _ _ _ _ _ _ _ _ _ _ _ _ _ _ _ _ _ _ _ _ _ _ _ hl,if_neg hf]
    conv=>lhs;whnf
    rw[AL]
    conv=>lhs;whnf
    rw[Ih zaa]
    conv=>lhs;whnf
    try dsimp -iota -beta -eta -zeta only
    rw[AX];rw[QG ..];exact tq rfl
  ·rw[if_pos he];refine tq ?_;rw[OE (hl:=AA) ..];refine tq ?_;rw[Vf (hl:=AA) ..];refine tq ?_;rw[Ve (hl:=AA) ..];refine tq ?_;rw[Ll _ _ AA AA];refine tq ?_;rw[hg];refine tq ?_;rw[show strOf {data := #[112,114,105,109,97,114,121]}=WI from rfl,GH _ _ _ _ zaa zaj (by simp only[LL,BA];omega)]
   refine tq ?_;rw[Vd (hl:=AA) ..];refine tq ?_;rw[em];refine tq ?_;rw[QG ..];exact tq rfl
 ·rw[if_neg hc];refine tq ?_;rw[OE (hl:=AA) ..];refine tq ?_
  rcases Bc h 0 with hc0|hc0
  ·refine tq ?_;rw[QG ..]
   conv=>lhs;whnf
  rw[Fv zaa]
  conv=>lhs;whnf
  rw[Fb (by(simp only[A7,BH,Aw,BA,DD,EE,A8,Am,AO,DL,LL] at *<;>omega))]
  conv=>lhs;whnf
  try dsimp -iota -beta -eta -zeta only
  rw[AX];rw[QG ..];exact tq rfl
end
section
attribute [local irreducible] BG DY CY nameB Eh Ef Az Ei Eo
variable (sd au:List (List UInt8))(en:List UInt8)(ac re rs ck:Int)(od:Bool)(sb:List (List (List UInt8)))(su mc:Int)(ix:List (El Bf))(l1 l2 l3 l4 l5 l6:Int)(ks:List (El E8))(st sp:Bool)(rb:List (List (List UInt8)))(ru vc:Int)(sf:Bool)(dr:Int)(ss:List (El sesT))(ob:List (El objT))(rl wl:List Int)
theorem jG(c h:Int)(hs:List Int)(az:List (El AB))(is:List Int)(bs:List (List UInt8))(p1 p2 p3:Int)(p4 p5 s1 s2 s3:List UInt8)(hr:Int)(hl:ob.length<=1000)(hhs:hs.length<=100)(hx:GG ob h=some ((p1,p2,p3,p4,p5),(s1,s2,s3),hr))(h3:p1=3):
  Y E0 (.call 199 [(sX sd au en ac re rs ck od sb su mc ix l1 l2 l3 l4 l5 l6 ks st sp rb ru vc sf dr ss ob rl wl),.agg [.i c,.sl .i64 (h::hs),.sl AB az,.sl .i64 is,.sl (.sl .u8) bs]] [])=some (.ret (.tup [(sX sd au en ac re rs ck od sb su mc ix l1 l2 l3 l4 l5 l6 ks st sp rb ru vc sf dr ss ob rl wl),.agg [.i 0,.sl .i64 [],.sl (.sl .u8) [s3],.sl (.sl .u8) []]]) []):=by
 refine tq ?_;rw[OE (hl:=AA) ..];refine tq ?_;rw[Vg _ _ _ _ _ _ _ _ _ _ _ _ _ _ _ _ _ _ _ _ _ _ _ _ _ _ _ _ _ _ _ _ _ _ _ _ _ _ _ _ hl hx];exact tq rfl
end
section
attribute [local irreducible] BG DY CY nameB Eh Ef Az
theorem Uh(c:Int)(hs:List Int)(az:List (El AB))(is:List Int)(bs ns:List (List UInt8))(hn:ns.length<=10)(hm:∀ x∈ns,x.length<=32):∀(n:Nat) (j:Int) (acc:List UInt8),0<=j->j+n=ns.length->(acc.length:Int)<=32*j->EC E0 (.loop 82 0 0 2 [(0,.sl (.sl .u8) ns),(3,.pa 0 0),(5,.nm 1),(6,.nil),(7,.i j)] [(0,some (.var [.i c,.sl .i64 hs,.sl AB az,.sl .i64 is,.sl (.sl .u8) bs])),(1,some (.row 5 .u8 acc))]) fun r=>∃ acc':List UInt8,(acc'.length<=320)/\r=some (.fin (.exit 0) 1 [(3,.pa 0 0),(5,.sl .u8 acc'),(6,.nil)] [(0,some (.var [.i c,.sl .i64 hs,.sl AB az,.sl .i64 is,.sl (.sl .u8) bs]))])
 | 0,j,acc,h0,hj,ha=>by
  refine G5 fun P hP=>?_
  refine tw ?_;exact hP _ ⟨acc,AA,rfl⟩
 | n+1,j,acc,h0,hj,ha=>by
  have ih:=fun acc=>Uh c hs az is bs ns hn hm n (j+1) acc zaa zaa
  refine G5 fun P hP=>?_
  refine tw ?_;obtain⟨x0,f0,g0⟩:=JI hm (i:=j) AA;rw[g0];refine tw ?_;exact hP _ (ih _ (by rw[Ac,List.length_append];omega))
theorem Ui(c:Int)(hs:List Int)(az:List (El AB))(is:List Int)(bs:List (List UInt8))(al:List UInt8)(hn:is.length<=100):∀(n:Nat) (j:Int) (acc:List UInt8),0<=j->j+n=is.length->(acc.length:Int)<=8*j->EC E0 (.loop 82 1 0 1 [(3,.pa 0 0),(5,.sl .u8 al),(6,.sl .u8 acc),(8,.i j)] [(0,some (.var [.i c,.sl .i64 hs,.sl AB az,.sl .i64 is,.sl (.sl .u8) bs]))]) fun r=>∃ acc':List UInt8,(acc'.length<=800)/\r=some (.fin (.exit 2) 1 [(3,.pa 0 0),(5,.sl .u8 al),(6,.sl .u8 acc')] [(0,some (.var [.i c,.sl .i64 hs,.sl AB az,.sl .i64 is,.sl (.sl .u8) bs]))])
 | 0,j,acc,h0,hj,ha=>by
  refine G5 fun P hP=>?_
  refine tw ?_;exact hP _ ⟨acc,AA,rfl⟩
 | n+1,j,acc,h0,hj,ha=>by
  have ih:=fun acc=>Ui c hs az is bs al hn n (j+1) acc zaa zaa
  refine G5 fun P hP=>?_
  refine tw ?_;obtain⟨x0,m0,g0⟩:=EO (l:=is) (i:=j) zaa;rw[g0];refine tw ?_;rw[EN _ _ _ AA];refine tw ?_;exact hP _ (ih _ (by rw[AU];omega))
theorem jH(c:Int)(hs:List Int)(az:List (El AB))(is:List Int)(bs:List (List UInt8))(al:List UInt8)(hn:is.length<=100):EC E0 (.loop 82 1 0 1 [(3,.pa 0 0),(5,.sl .u8 al),(6,.nil),(8,.i 0)] [(0,some (.var [.i c,.sl .i64 hs,.sl AB az,.sl .i64 is,.sl (.sl .u8) bs]))]) fun r=>(∃ acc':List UInt8,(acc'.length<=800)/\r=some (.fin (.exit 2) 1 [(3,.pa 0 0),(5,.sl .u8 al),(6,.sl .u8 acc')] [(0,some (.var [.i c,.sl .i64 hs,.sl AB az,.sl .i64 is,.sl (.sl .u8) bs]))]))\/r=some (.fin (.exit 2) 1 [(3,.pa 0 0),(5,.sl .u8 al),(6,.nil)] [(0,some (.var [.i c,.sl .i64 hs,.sl AB az,.sl .i64 is,.sl (.sl .u8) bs]))]):=by
 have ih:=fun(h:0<is.length) acc=>Ui c hs az is bs al hn (is.length-1) 1 acc zaa zaa
 refine G5 fun P hP=>?_
 rw[AL];conv=>arg 1;whnf
 rcases Bc 0 (↑is.length) with hc0|hc0
 ·refine tw ?_;obtain⟨x1,m1,g1⟩:=EO (l:=is) (i:=0) zaa;rw[g1];refine tw ?_;rw[EN _ _ _ AA];refine tw ?_;exact hP _ (.inl (ih zaa _ (by rw[AU,List.length_nil];omega)))
 refine tw ?_;exact hP _ (Or.inr rfl)
theorem cZ(c:Int)(hs:List Int)(az:List (El AB))(is:List Int)(bs ns:List (List UInt8))(hf:Few hs az is bs)(hn:ns.length<=10)(hm:∀ x∈ns,x.length<=32):EC E0 (.call 82 [.sl (.sl .u8) ns,rq c hs az is bs] []) fun r=>∃ l:List UInt8,(l.length=32)/\r=some (.ret (.sl .u8 l) []):=by
 have hil:=hf.il
 have hbl:=hf.bl
 have hbm:=hf.bm
 refine G5 fun P hP=>tw ?_
 obtain⟨acc'0,h0_1,yy0⟩:=Uh c hs az is bs ns AA AA (Int.toNat (↑ns.length-(0))) 0 [] AA zaa AA;refine Dv yy0 ?_
 obtain(⟨acc'1,h1_1,yy1⟩|yy1):=jH c hs az is bs acc'0 AA
 ·refine Dv yy1 ?_;obtain⟨l2,h2_1,yy2⟩:=FB 10 (BF [[DX c],acc'0,acc'1] bs) AA zaW
  refine Dv yy2 ?_;rw[IA _ AA];refine tw ?_;exact hP _ ⟨sha256 l2,AA,rfl⟩
 refine Dv yy1 ?_;obtain⟨l3,h3_1,yy3⟩:=FB 10 (BF [[DX c],acc'0,[]] bs) AA zaW
 refine Dv yy3 ?_;rw[IA _ AA];refine tw ?_;exact hP _ ⟨sha256 l3,AA,rfl⟩
theorem dK(v d x y:List UInt8)(hv:v.length<=2000)(hd:d.length<=2000)(hx:x.length<=2000)(hy:y.length<=2000):EC E0 (.call 81 [.sl .u8 v,.sl .u8 d,.sl .u8 x,.sl .u8 y] []) fun r=>∃ l:List UInt8,(l.length<=32)/\r=some (.ret (.sl .u8 l) []):=by
 refine G5 fun P hP=>tw ?_
 rw[J7 _ _ AA AA];refine tw ?_;rw[iF _ _ AA AA];refine tw ?_;refine hP _ ⟨Ya v (Az 10 [d,x,y]),?_,rfl⟩;(rw[C9];decide)
theorem Ry(s:MS)(c:Int)(hs:List Int)(az:List (El AB))(is:List Int)(bs:List (List UInt8)){a k:Int}(hi:Kp a k s)(hf:Few hs az is bs):∀(n:Nat) (j:Int) (acc:List (List UInt8)),0<=j->j+n=hs.length->(acc.length:Int)=j->(∀ x∈acc,x.length<=32)->EC E0 (.loop 126 0 0 3 [(2,.pa 0 0),(3,.pa 1 0),(5,.nm 2),(6,.i j)] [(0,some (.var (cv s))),(1,some (.var [.i c,.sl .i64 hs,.sl AB az,.sl .i64 is,.sl (.sl .u8) bs])),(2,some (.row 22 (.sl .u8) acc))]) fun r=>∃ ns:List (List UInt8),(ns.length<=10/\∀ x∈ns,x.length<=32)/\r=some (.fin (.exit 0) 0 [(5,.sl (.sl .u8) ns)] [])
 | 0,j,acc,h0,hj,ha,hm=>by
  have hl:=hf.hl
  refine G5 fun P hP=>?_
  refine tw ?_;exact hP _ ⟨acc,clo,rfl⟩
 | n+1,j,acc,h0,hj,ha,hm=>by
  have hl:=hf.hl
  have ih:=fun acc=>Ry s c hs az is bs hi hf n (j+1) acc zaa zaa
  have hq:∀ l:List UInt8,l.length<=32->((BF acc [l]).length:Int)=j+1/\∀ x∈BF acc [l],x.length<=32:=fun l hl=>by
   obtain⟨h1,h2⟩:=ABx (p:=fun x:List UInt8=>x.length<=32) hm (m:=[l]) (by simpa using hl);exact⟨by rw[h1];simp;omega,h2⟩
  refine G5 fun P hP=>?_
  refine tw ?_;obtain⟨x0,m0,g0⟩:=EO (l:=hs) (i:=j) zaa;rw[g0];refine tw ?_;obtain⟨l1,h1_1,yy1⟩:=vP s x0 hi;refine Dv yy1 ?_;exact hP _ (ih _ (hq _ zbd).1 (hq _ zbd).2)
theorem qh(s:MS)(c:Int)(hs:List Int)(az:List (El AB))(is:List Int)(bs:List (List UInt8)){a k:Int}(hi:Kp a k s)(hf:Few hs az is bs):EC E0 (.call 126 [av s,rq c hs az is bs] []) fun r=>∃ ns:List (List UInt8),(ns.length<=10/\∀ x∈ns,x.length<=32)/\r=some (.ret (.sl (.sl .u8) ns) []):=by
 refine G5 fun P hP=>tw ?_
 obtain⟨ns0,⟨h0_1,h0_2⟩,yy0⟩:=Ry s c hs az is bs hi AA (Int.toNat (↑hs.length-(0))) 0 [] AA zaa AA AA;refine Dv yy0 ?_;exact hP _ ⟨ns0,clo,rfl⟩
variable (sd au:List (List UInt8))(en:List UInt8)(ac re rs ck:Int)(od:Bool)(sb:List (List (List UInt8)))(su mc:Int)(ix:List (El Bf))(l1 l2 l3 l4 l5 l6:Int)(ks:List (El E8))(st sp:Bool)(rb:List (List (List UInt8)))(ru vc:Int)(sf:Bool)(dr:Int)(ss:List (El sesT))(ob:List (El objT))(rl wl:List Int)
end
section
attribute [local irreducible] BG DY CY nameB Eh Ef Az Ei Eo F5 Ff Fh Bg Io GI JD Jk JE
theorem A5G{α:Type}(x:α)(l:List α):Cc (x::l)=false:=by rw[A2C];rfl
theorem A7v(x1 x4 x5 x6 x7:Int)(x2 x3:List UInt8)(x8:Bool)(l:List (El sesT))(hl:l.length<=1000):Y E0 (.call 208 [.sl sesT ((x1,x2,x3,x4,x5,x6,x7,x8)::l)] [])=some (.ret (.nm 0) [some (.row 146 sesT ((x1,x2,x3,x4,x5,x6,x7,x8)::l))]):=by
 refine tq ?_
 rw[A5G]
 conv=>lhs;whnf
 refine tq ?_
 simp only[NO];try with_reducible rfl
variable (sd au:List (List UInt8))(en:List UInt8)(ac re rs ck:Int)(od:Bool)(sb:List (List (List UInt8)))(su mc:Int)(ix:List (El Bf))(l1 l2 l3 l4 l5 l6:Int)(ks:List (El E8))(st sp:Bool)(rb:List (List (List UInt8)))(ru vc:Int)(sf:Bool)(dr:Int)(ss:List (El sesT))(ob:List (El objT))(rl wl:List Int)
theorem ZJ(h:Int)(hl:ss.length<=1000)(hh : -100000<=h/\h<=1099511627776)(hz:ssI h ss<0):Y E0 (.call 239 [(sX sd au en ac re rs ck od sb su mc ix l1 l2 l3 l4 l5 l6 ks st sp rb ru vc sf dr ss ob rl wl),.i h] [])=some (.ret (.tup [.i 0,iP 0 [] [] 0 0 0 0 false,.b false]) []):=by
 unfold ssI at hz
 by_cases h0:768<=h
 ·rw[if_pos h0] at hz
  by_cases h1:(h-768).toNat<ss.length
  ·rw[List.getElem?_eq_getElem h1] at hz
   have hg:Ap ss (h-768)=some (ss[(h-768).toNat]'h1):=Bv zaa
   generalize ss[(h-768).toNat]'h1=x at *
   obtain⟨x1,x2,x3,x4,x5,x6,x7,x8⟩:=x
   dsimp only at hz
   by_cases h2:x1=0
   ·refine tq ?_
    rw[hg]
    conv=>lhs;whnf
    refine tq ?_
    with_reducible rfl
   ·rw[if_neg h2] at hz
    exfalso;omega
  ·refine tq ?_
   with_reducible rfl
 ·refine tq ?_
  with_reducible rfl
theorem TC(h:Int)(x1 x4 x5 x6 x7:Int)(x2 x3:List UInt8)(x8:Bool)(hl:ss.length<=1000)(hh:0<=h-768/\h-768<ss.length)(hg:Ap ss (h-768)=some (x1,x2,x3,x4,x5,x6,x7,x8))(hz:x1≠0):Y E0 (.call 239 [(sX sd au en ac re rs ck od sb su mc ix l1 l2 l3 l4 l5 l6 ks st sp rb ru vc sf dr ss ob rl wl),.i h] [])=some (.ret (.tup [.i (h-768),iP x1 x2 x3 x4 x5 x6 x7 x8,.b true]) []):=by
 refine tq ?_
 rw[hg]
 conv=>lhs;whnf
 refine tq ?_
 rw[hg]
 conv=>lhs;whnf
 refine tq ?_
 with_reducible rfl
theorem jI(k:Int)(y1 y4 y5 y6 y7:Int)(y2 y3:List UInt8)(y8:Bool)(hl:ss.length<=1000)(hk:0<=k/\k<ss.length):Y E0 (.call 281 [(sX sd au en ac re rs ck od sb su mc ix l1 l2 l3 l4 l5 l6 ks st sp rb ru vc sf dr ss ob rl wl),.i k,iP y1 y2 y3 y4 y5 y6 y7 y8] [])=some (.ret ((sX sd au en ac re rs ck od sb su mc ix l1 l2 l3 l4 l5 l6 ks st sp rb ru vc sf dr (BB ss k (y1,y2,y3,y4,y5,y6,y7,y8)) ob rl wl)) []):=by
 obtain⟨⟨x1,x2,x3,x4,x5,x6,x7,x8⟩,l,rfl⟩:∃ x l,ss=x::l:=by cases ss with|nil=>simp at hk;omega|cons x l=>exact⟨x,l,rfl⟩
 rw[List.length_cons] at hl
 refine tq ?_
 rw[A7v _ _ _ _ _ _ _ _ _ zaa]
 conv=>lhs;whnf
 rw[H6 zaa]
 conv=>lhs;whnf
 rw[Bv zaa]
 conv=>lhs;whnf
theorem qj(h:Int)(x1 x4 x5 x6 x7:Int)(x2 x3:List UInt8)(x8:Bool)(hl:ss.length<=1000)(hh:0<=h-768/\h-768<ss.length)(hg:Ap ss (h-768)=some (x1,x2,x3,x4,x5,x6,x7,x8))(hz:x1≠0):Y E0 (.call 209 [(sX sd au en ac re rs ck od sb su mc ix l1 l2 l3 l4 l5 l6 ks st sp rb ru vc sf dr ss ob rl wl),.i h] [])=some (.ret (.tup [(sX sd au en ac re rs ck od sb su mc ix l1 l2 l3 l4 l5 l6 ks st sp rb ru vc sf dr (BB ss (h-768) uV) ob rl wl),.i 0]) []):=by
 refine tq ?_
 rw[TC _ _ _ _ _ _ _ _ _ _ _ _ _ _ _ _ _ _ _ _ _ _ _ _ _ _ _ _ _ _ _ _ _ _ _ _ _ _ _ hl hh hg hz]
 refine tq ?_
 rw[jI _ _ _ _ _ _ _ _ _ _ _ _ _ _ _ _ _ _ _ _ _ _ _ _ _ _ _ _ _ _ _ _ _ _ _ _ _ _ _ hl hh]
 refine tq ?_
 rfl
theorem wG(h:Int)(hl:ob.length<=1000)(hh : -1000000<=h/\h<=1099511627776)(hx:GG ob h=none):Y E0 (.call 182 [(sX sd au en ac re rs ck od sb su mc ix l1 l2 l3 l4 l5 l6 ks st sp rb ru vc sf dr ss ob rl wl),.i h] [])=some (.ret (.tup [.agg [.i 0,.i 0,.i 0,.sl .u8 [],.sl .u8 [],.sl .u8 [],.sl .u8 [],.sl .u8 [],.i 0],.i 7]) []):=by
 by_cases h5:512<=h
 ·by_cases hb:h-512<ob.length
  ·rw[GG,if_pos h5,List.getElem?_eq_getElem zaa] at hx
   have hg:Ap ob (h-512)=some (ob[(h-512).toNat]'zaa):=Bv zaa
   simp only at hx
   generalize ob[(h-512).toNat]'zaa=x at *
   obtain⟨⟨k,a,t,o,u⟩,⟨y1,y2,y3⟩,hi⟩:=x
   split at hx
   ·rename_i hk
    simp only at hk
    subst hk
    refine tq ?_
    rw[hg]
    conv=>lhs;whnf
    refine tq ?_
    with_reducible rfl
   ·cases hx
  ·refine tq ?_
   with_reducible rfl
 ·refine tq ?_
  with_reducible rfl
end
end Go.Proofs.YtlpkjhhfhannpaaGreatDoor
