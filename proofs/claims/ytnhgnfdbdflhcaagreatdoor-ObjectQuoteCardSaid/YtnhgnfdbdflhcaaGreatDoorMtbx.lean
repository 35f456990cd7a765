/-
  Own texts, laid together for this claim: contracts of functions of the program and its references, used by the statements of this seat.
-/
import Derived.Test.YtnhgnfdbdflhcaaGreatDoorMtab
import Derived.Test.YtnhgnfdbdflhcaaGreatDoorMtad
import Derived.Test.YtnhgnfdbdflhcaaGreatDoorMtae
import Derived.Test.YtnhgnfdbdflhcaaGreatDoorMtai
import Derived.Test.YtnhgnfdbdflhcaaGreatDoorMtaj
import Derived.Test.YtnhgnfdbdflhcaaGreatDoorMtan
import Derived.Test.YtnhgnfdbdflhcaaGreatDoorMtas
import Derived.Test.YtnhgnfdbdflhcaaGreatDoorMtav
import Derived.Test.YtnhgnfdbdflhcaaGreatDoorMtbw
set_option linter.all false
set_option maxHeartbeats 40000000
set_option maxRecDepth 100000
namespace Go.Ax
open Go.Eng
def Vu(c kind r:Int)(R:Int×Bool)(D:Att×Int)(nm:List UInt8):Att×Int×Int :=
 if c≠0 then(P5,0,c) else if kind≠2 then(P5,0,19) else if r=0 then(P5,0,20) else if R.2=false then(P5,0,17) else if D.2≠0 then(P5,0,D.2) else if D.1.key≠nm then(P5,0,16) else(D.1,R.1,0)
def jf(k:Pub)(b s:List UInt8):Att×Int×Int:=Vu (CV k) k.kind (bits .and .i64 k.attr 4) (Fv k.unique b s) (NE b) (nameB k)
theorem A5m(kind attr height:Int)(policy unique b s:List UInt8):jf ⟨kind,attr,height,policy,unique⟩ b s=Vu (CV ⟨kind,attr,height,policy,unique⟩) kind (bits .and .i64 attr 4) (Fv unique b s) (NE b) (nameB ⟨kind,attr,height,policy,unique⟩):=rfl
theorem A4G(p:Pub):(nameB p).length=32:=A8 _
def Ti(a:UInt8):Int:=bits .or .i64 (bits .or .i64 ((a.toNat%4:Nat):Int) 1) 4
theorem four{a:Int}(h:0<=a/\a<=3):a=0\/a=1\/a=2\/a=3:=zaa
theorem qg(a:UInt8):0<=Ti a/\Ti a<=7/\bits .and .i64 (Ti a) 4≠0/\bits .and .i64 (Ti a) 1≠0:=by
 unfold Ti
 rcases four (show 0<=((a.toNat%4:Nat):Int)/\((a.toNat%4:Nat):Int)<=3 by omega) with h|h|h|h<;>rw[h]<;>decide
def bJ(seed:List UInt8)(t:UInt8)(o:List UInt8):Pub:=⟨2,Ti t,0,CJ o,En seed 0⟩
theorem zN{seed o:List UInt8}{t:UInt8}:CV (bJ seed t o)=0:=by
 obtain⟨h1,h2,h3,h4⟩:=qg t
 unfold CV
 simp only[bJ,VD (seed:=seed) (h:=0) zaa,AP];rw[if_neg zaa,if_neg,if_neg]
 ·rintro(q|q|q|q|q)
  ·omega
  ·omega
  ·exact q.2 rfl
  ·omega
  ·exact q zal
 ·rintro(q|q|q|q)
  ·omega
  ·omega
  ·exact q.2 rfl
  ·exact h4 q.1
theorem A7T{seed m s o:List UInt8}{leaf:Int}{t:UInt8}{A:Att}(hv:Fv (En seed 0) m s=(leaf,true))(hd:NE m=(A,0)):jf (bJ seed t o) m s=if A.key=nameB (bJ seed t o) then(A,leaf,0) else(P5,0,16):=by
 have h1:jf (bJ seed t o) m s=Vu (CV (bJ seed t o)) 2 (bits .and .i64 (Ti t) 4) (Fv (En seed 0) m s) (NE m) (nameB (bJ seed t o)):=rfl
 rw[h1,zN,hv,hd,Vu,if_neg zal,if_neg zal,if_neg (qg t).2.2.1,if_neg zam,if_neg zam]
 by_cases h:A.key=nameB (bJ seed t o)
 ·rw[if_neg za0,if_pos h]
 ·rw[if_pos h,if_neg h]
end Go.Ax
namespace Go.Proofs.YtnhgnfdbdflhcaaGreatDoor
open Go Go.Ax Go.Eng
section
attribute [local irreducible] Cc Dn D7 DU DD BA Dp F7 FY FD Ez Ci CS DK DV and' DW DL C9 BR Bh CB CG BG BI Aw BC Dq Fh Dt ER DX Bl CE Bv Bz Bi Az Bg BK Bj BO Du Bc DF BZ BM Cj Di fits Dv Dk Ac Am BH
attribute [local irreducible] En Eg Fv jf NE FU CV nameB A9N A7S Ti
theorem qh(kind attr height:Int)(policy unique b s:List UInt8)(hp:policy.length<=60000)(hu:unique.length<=60000)(hb:b.length<=1000000):Y E0 (.call 14 [.agg [.i kind,.i attr,.i height,.sl .u8 policy,.sl .u8 unique],.sl .u8 b,.sl .u8 s] [])=some (.ret (.tup [.agg (Qu (jf ⟨kind,attr,height,policy,unique⟩ b s).1),.i (jf ⟨kind,attr,height,policy,unique⟩ b s).2.1,.i (jf ⟨kind,attr,height,policy,unique⟩ b s).2.2]) []):=by
 have ed:=bI b zaa
 have ev:=nI unique b s zaa
 have en:=GR kind attr height policy unique hp hu
 have hn:(nameB ⟨kind,attr,height,policy,unique⟩).length=32:=A4G _
 have hk:=A4F b
 rw[A5m];rw[show bits .and .i64 attr 4=BA .and attr 4 from(Ak _ _ _).symm]
 generalize Fv unique b s=R at *
 obtain⟨leaf,ok⟩:=R
 generalize NE b=D at *
 obtain⟨A,e⟩:=D
 obtain⟨key,nonce,resets,restarts,clock,safe,updates,s0,s1,digest⟩:=A
 dsimp only[Qu] at *
 obtain⟨hk1,hk2,hk3⟩:=hk
 generalize nameB ⟨kind,attr,height,policy,unique⟩=nm at *
 cases ok
 ·refine tq ?_;rw[Ju ..];refine tq ?_
  rcases AX (CV {kind:=kind,attr:=attr,height:=height,policy:=policy,unique:=unique}) 0 with hc0|hc0
  ·refine tq ?_
   (unfold Vu;dsimp only;(repeat(first|rw[if_pos zaF]|rw[if_neg zaz]));try rfl)
  refine tq ?_
  rcases AX kind 2 with hc1|hc1
  ·refine tq ?_
   (unfold Vu;dsimp only;(repeat(first|rw[if_pos zaF]|rw[if_neg zaz]));try rfl)
  subst hc1;refine tq ?_
  rcases AL (BA BinOp.and attr 4) 0 with hc2|hc2
  ·refine tq ?_
   (unfold Vu;dsimp only;(repeat(first|rw[if_pos zaF]|rw[if_neg zaz]));try rfl)
  refine tq ?_;rw[ev];refine tq ?_
  (unfold Vu;dsimp only;(repeat(first|rw[if_pos zaF]|rw[if_neg zaz]));try rfl)
 ·refine tq ?_;rw[Ju ..];refine tq ?_
  rcases AX (CV {kind:=kind,attr:=attr,height:=height,policy:=policy,unique:=unique}) 0 with hc0|hc0
  ·refine tq ?_
   (unfold Vu;dsimp only;(repeat(first|rw[if_pos zaF]|rw[if_neg zaz]));try rfl)
  refine tq ?_
  rcases AX kind 2 with hc1|hc1
  ·refine tq ?_
   (unfold Vu;dsimp only;(repeat(first|rw[if_pos zaF]|rw[if_neg zaz]));try rfl)
  subst hc1;refine tq ?_
  rcases AL (BA BinOp.and attr 4) 0 with hc2|hc2
  ·refine tq ?_
   (unfold Vu;dsimp only;(repeat(first|rw[if_pos zaF]|rw[if_neg zaz]));try rfl)
  refine tq ?_;rw[ev];refine tq ?_;rw[ed];refine tq ?_
  rcases AX e 0 with hc3|hc3
  ·refine tq ?_
   (unfold Vu;dsimp only;(repeat(first|rw[if_pos zaF]|rw[if_neg zaz]));try rfl)
  subst hc3;refine tq ?_;rw[en];refine tq ?_;rw[Bq _ _ A7];refine tq ?_
  rcases Decidable.em (key=nm) with hc4|hc4
  ·refine tq ?_
   (unfold Vu;dsimp only;(repeat(first|rw[if_pos zaF]|rw[if_neg zaz]));try rfl)
  refine tq ?_
  (unfold Vu;dsimp only;(repeat(first|rw[if_pos zaF]|rw[if_neg zaz]));try rfl)
end
end Go.Proofs.YtnhgnfdbdflhcaaGreatDoor
