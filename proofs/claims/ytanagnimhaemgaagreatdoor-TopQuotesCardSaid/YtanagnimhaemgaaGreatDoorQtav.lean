/-
  Own texts, laid together for this claim: contracts of functions of the program and its references, used by the statements of this seat.
-/
import Derived.Test.YtanagnimhaemgaaGreatDoorQtac
import Derived.Test.YtanagnimhaemgaaGreatDoorQtaf
import Derived.Test.YtanagnimhaemgaaGreatDoorQtag
import Derived.Test.YtanagnimhaemgaaGreatDoorQtai
import Derived.Test.YtanagnimhaemgaaGreatDoorQtaj
import Derived.Test.YtanagnimhaemgaaGreatDoorQtak
import Derived.Test.YtanagnimhaemgaaGreatDoorQtan
import Derived.Test.YtanagnimhaemgaaGreatDoorQtao
import Derived.Test.YtanagnimhaemgaaGreatDoorQtap
import Derived.Test.YtanagnimhaemgaaGreatDoorQtaq
import Derived.Test.YtanagnimhaemgaaGreatDoorQtas
import Derived.Test.YtanagnimhaemgaaGreatDoorQtat
set_option linter.all false
set_option maxHeartbeats 40000000
set_option maxRecDepth 100000
namespace Go.Ax
open Go.Eng
noncomputable def Ny(s:Int)(b:List (List UInt8)):Nat->List UInt8
 | 0=>[]
 | j+1=>Ny s b j++(if Ar .and (BU s (BP ((j:Nat):Int)).toNat) 1=1 then b.getD j [] else [])
theorem Tz{s:Int}{b:List (List UInt8)}(h:∀ x∈b,x.length<=1000):∀ j,(Ny s b j).length<=1000*j
 | 0=>by simp[Ny]
 | j+1=>by
  have ih:=Tz (s:=s) h j
  rw[Ny,List.length_append]
  split
  ·have hb:(b.getD j []).length<=1000:=by
    by_cases hj:j<b.length
    ·have:=h _ (List.getElem_mem hj)
     simpa [List.getD,List.getElem?_eq_getElem hj] using this
    ·simp[List.getD,List.getElem?_eq_none (show b.length<=j by omega)]
   omega
  ·simp only[List.length_nil];omega
noncomputable def MN(s:Int)(b:List (List UInt8)):List UInt8:=Ny s b 16
noncomputable def U0(s0 s1:Int)(b0 b1:List (List UInt8)):List UInt8:=sha256 (Ag 5 [BQ (BQ [] 2 s0) 2 s1,MN s0 b0++MN s1 b1])
end Go.Ax
namespace Go.Ax
abbrev YN(a:Att):List AV:=[.sl .u8 a.key,.sl .u8 a.nonce,.i a.resets,.i a.restarts,.i a.clock,.b a.safe,.i a.updates,.i a.s0,.i a.s1,.sl .u8 a.digest]
theorem ER:NJ.length=4:=rfl
end Go.Ax
namespace Go.Ax
open Go.Eng
def UC(c kind r:Int)(R:Int×Bool)(D:Att×Int)(nm:List UInt8):Att×Int×Int :=
 if c≠0 then(OJ,0,c) else if kind≠2 then(OJ,0,19) else if r=0 then(OJ,0,20) else if R.2=false then(OJ,0,17) else if D.2≠0 then(OJ,0,D.2) else if D.1.key≠nm then(OJ,0,16) else(D.1,R.1,0)
def UD(k:Pub)(b s:List UInt8):Att×Int×Int:=UC (Cb k) k.kind (bits .and .i64 k.attr 4) (G6 k.unique b s) (Nq b) (nameB k)
theorem A6w(kind attr height:Int)(policy unique b s:List UInt8):UD ⟨kind,attr,height,policy,unique⟩ b s=UC (Cb ⟨kind,attr,height,policy,unique⟩) kind (bits .and .i64 attr 4) (G6 unique b s) (Nq b) (nameB ⟨kind,attr,height,policy,unique⟩):=rfl
theorem A4f(p:Pub):(nameB p).length=32:=A7 _
def UE(a:UInt8):Int:=bits .or .i64 (bits .or .i64 ((a.toNat%4:Nat):Int) 1) 4
theorem four{a:Int}(h:0<=a/\a<=3):a=0\/a=1\/a=2\/a=3:=zaa
theorem o9(a:UInt8):0<=UE a/\UE a<=7/\bits .and .i64 (UE a) 4≠0/\bits .and .i64 (UE a) 1≠0:=by
 unfold UE
 rcases four (show 0<=((a.toNat%4:Nat):Int)/\((a.toNat%4:Nat):Int)<=3 by omega) with h|h|h|h<;>rw[h]<;>decide
def Yu(seed:List UInt8)(t:UInt8)(o:List UInt8):Pub:=⟨2,UE t,0,Di o,FM seed 0⟩
theorem xe{seed o:List UInt8}{t:UInt8}:Cb (Yu seed t o)=0:=by
 obtain⟨h1,h2,h3,h4⟩:=o9 t
 unfold Cb
 simp only[Yu,Tf (seed:=seed) (h:=0) zaa,Bd];rw[if_neg zaa,if_neg,if_neg]
 ·rintro(q|q|q|q|q)
  ·omega
  ·omega
  ·exact q.2 rfl
  ·omega
  ·exact q zad
 ·rintro(q|q|q|q)
  ·omega
  ·omega
  ·exact q.2 rfl
  ·exact h4 q.1
theorem A9B{seed m s o:List UInt8}{leaf:Int}{t:UInt8}{A:Att}(hv:G6 (FM seed 0) m s=(leaf,true))(hd:Nq m=(A,0)):UD (Yu seed t o) m s=if A.key=nameB (Yu seed t o) then(A,leaf,0) else(OJ,0,16):=by
 have h1:UD (Yu seed t o) m s=UC (Cb (Yu seed t o)) 2 (bits .and .i64 (UE t) 4) (G6 (FM seed 0) m s) (Nq m) (nameB (Yu seed t o)):=rfl
 rw[h1,xe,hv,hd,UC,if_neg zad,if_neg zad,if_neg (o9 t).2.2.1,if_neg zak,if_neg zak]
 by_cases h:A.key=nameB (Yu seed t o)
 ·rw[if_neg zaN,if_pos h]
 ·rw[if_pos h,if_neg h]
end Go.Ax
namespace Go.Proofs.YtanagnimhaemgaaGreatDoor
open Go Go.Ax Go.Eng
variable (b0 b1:List (List UInt8))(u s0 s1:Int)
section
attribute [local irreducible] Bl CQ CS Bo Bg Ar CU Dw EN Dy EC Bf BU Bv Bz and' C9 CB BK Au BA BL BN Aa Ad AP AZ CV Dq CW DI CE BP BM BF BG BB AU BC Ae Ap Ai CX BH Bh Ba BO CG CY CJ fits CZ CO A8 AA Ac
attribute [local irreducible] Aw Di DC nameB EL EJ Ag
theorem Vf:RY E0 (.loop 32 0 0 2 [(2,AV.pa 0 0),(3,AV.pa 1 0),(6,AV.i 0)] [(0,some (Rs.var [AV.sl Ty.u8.sl.sl [b0,b1],AV.i u])),(1,some (Rs.var [AV.i s0,AV.i s1]))]) fun r=>(¬(0<=s0/\s0<=65535/\0<=s1/\s1<=65535)/\r=some (.fin .ret 2 [(2,.pa 0 0),(3,.pa 1 0),(4,.nil),(5,.i 1)] [(0,some (Rs.var [AV.sl Ty.u8.sl.sl [b0,b1],AV.i u])),(1,some (Rs.var [AV.i s0,AV.i s1]))]))\/((0<=s0/\s0<=65535/\0<=s1/\s1<=65535)/\r=some (.fin (.exit 0) 2 [(2,.pa 0 0),(3,.pa 1 0)] [(0,some (Rs.var [AV.sl Ty.u8.sl.sl [b0,b1],AV.i u])),(1,some (Rs.var [AV.i s0,AV.i s1]))])):=by
 refine rF fun P hP=>?_
 refine tw ?_
 rcases D7 s0 0 with hc0|hc0
 ·refine tw ?_;exact hP _ (Or.inl ⟨Aq,rfl⟩)
 refine tw ?_
 rcases D7 65535 s0 with hc1|hc1
 ·refine tw ?_;exact hP _ (Or.inl ⟨Aq,rfl⟩)
 refine tw ?_;refine tw ?_
 rcases D7 s1 0 with hc2|hc2
 ·refine tw ?_;exact hP _ (Or.inl ⟨Aq,rfl⟩)
 refine tw ?_
 rcases D7 65535 s1 with hc3|hc3
 ·refine tw ?_;exact hP _ (Or.inl ⟨Aq,rfl⟩)
 refine tw ?_;refine tw ?_;exact hP _ (Or.inr ⟨Aq,rfl⟩)
theorem aF:∀ i<16,Ar .and (BU 0 (BP ((i:Nat):Int)).toNat) 1=0:=by
 rw[NF,UO,F6]
 decide +kernel
theorem Vg(b0 b1:List (List UInt8))(u s0 s1:Int)(acc:List UInt8)(ha:acc.length<=20000)(h:s0=0\/b0.length=16)(hm:∀ x∈b0,x.length<=1000):∀(n j:Nat),j+n=16->Y E0 (.loop 32 2 0 3 [(2,AV.pa 0 0),(3,AV.pa 1 0),(7,AV.nm 2),(8,AV.i 0),(9,AV.i (j:Int))] [(0,some (Rs.var [AV.sl Ty.u8.sl.sl [b0,b1],AV.i u])),(1,some (Rs.var [AV.i s0,AV.i s1])),(2,some (Rs.row 5 Ty.u8 (acc++Ny s0 b0 j)))])=some (.fin (.exit 4) 3 [(2,AV.pa 0 0),(3,AV.pa 1 0),(7,AV.nm 2),(8,AV.i 0)] [(0,some (Rs.var [AV.sl Ty.u8.sl.sl [b0,b1],AV.i u])),(1,some (Rs.var [AV.i s0,AV.i s1])),(2,some (Rs.row 5 Ty.u8 (acc++MN s0 b0)))])
 | 0,j,hj=>by
  obtain rfl:j=16:=zaa
  refine tq ?_
  rfl
 | n+1,j,hj=>by
  have ih:=Vg b0 b1 u s0 s1 acc ha h hm n (j+1) zaa
  rw[show((j+1:Nat):Int)=(j:Int)+1 from by omega,Ny] at ih
  have hle:=Tz (s:=s0) hm j
  by_cases hb:Ar .and (BU s0 (BP ((j:Nat):Int)).toNat) 1=1
  ·have hs:b0.length=16:=by
    rcases h with h|h
    ·subst h;rw[aF j zaa] at hb;cases hb
    ·exact h
   rw[if_pos hb,<-List.append_assoc] at ih
   have hg:Ai b0 (j:Int)=some (b0.getD j []):=by rw[IC zaa];simp[List.getD,List.getElem?_eq_getElem (show j<b0.length by omega)]
   have hx:(b0.getD j []).length<=1000:=by
    have:=hm _ (List.getElem_mem (show j<b0.length by omega))
    simpa [List.getD,List.getElem?_eq_getElem (show j<b0.length by omega)] using this
   have happ:BO (acc++Ny s0 b0 j) (b0.getD j [])=acc++Ny s0 b0 j++b0.getD j []:=Am _ _
   rw[AO];conv=>lhs;whnf
   rw[Dp zaa]
   conv=>lhs;whnf
   try dsimp -iota -beta -eta -zeta only
   rw[Fg zaa]
   conv=>lhs;whnf
   rw[Dp zaa]
   conv=>lhs;whnf
   rw[Ff hb];refine to ?_;rw[hg];refine tq ?_;rw[happ];exact ih
  ·rw[if_neg hb,List.append_nil] at ih
   rw[AO];conv=>lhs;whnf
   rw[Dp zaa]
   conv=>lhs;whnf
   try dsimp -iota -beta -eta -zeta only
   rw[Fg zaa]
   conv=>lhs;whnf
   rw[Dp zaa]
   conv=>lhs;whnf
   rw[Jc hb];refine tq ?_;exact ih
theorem Vh(b0 b1:List (List UInt8))(u s0 s1:Int)(acc:List UInt8)(ha:acc.length<=20000)(h:s1=0\/b1.length=16)(hm:∀ x∈b1,x.length<=1000):∀(n j:Nat),j+n=16->Y E0 (.loop 32 2 0 3 [(2,AV.pa 0 0),(3,AV.pa 1 0),(7,AV.nm 2),(8,AV.i 1),(9,AV.i (j:Int))] [(0,some (Rs.var [AV.sl Ty.u8.sl.sl [b0,b1],AV.i u])),(1,some (Rs.var [AV.i s0,AV.i s1])),(2,some (Rs.row 5 Ty.u8 (acc++Ny s1 b1 j)))])=some (.fin (.exit 4) 3 [(2,AV.pa 0 0),(3,AV.pa 1 0),(7,AV.nm 2),(8,AV.i 1)] [(0,some (Rs.var [AV.sl Ty.u8.sl.sl [b0,b1],AV.i u])),(1,some (Rs.var [AV.i s0,AV.i s1])),(2,some (Rs.row 5 Ty.u8 (acc++MN s1 b1)))])
 | 0,j,hj=>by
  obtain rfl:j=16:=zaa
  refine tq ?_
  rfl
 | n+1,j,hj=>by
  have ih:=Vh b0 b1 u s0 s1 acc ha h hm n (j+1) zaa
  rw[show((j+1:Nat):Int)=(j:Int)+1 from by omega,Ny] at ih
  have hle:=Tz (s:=s1) hm j
  by_cases hb:Ar .and (BU s1 (BP ((j:Nat):Int)).toNat) 1=1
  ·have hs:b1.length=16:=by
    rcases h with h|h
    ·subst h;rw[aF j zaa] at hb;cases hb
    ·exact h
   rw[if_pos hb,<-List.append_assoc] at ih
   have hg:Ai b1 (j:Int)=some (b1.getD j []):=by rw[IC zaa];simp[List.getD,List.getElem?_eq_getElem (show j<b1.length by omega)]
   have hx:(b1.getD j []).length<=1000:=by
    have:=hm _ (List.getElem_mem (show j<b1.length by omega))
    simpa [List.getD,List.getElem?_eq_getElem (show j<b1.length by omega)] using this
   have happ:BO (acc++Ny s1 b1 j) (b1.getD j [])=acc++Ny s1 b1 j++b1.getD j []:=Am _ _
   rw[AO];conv=>lhs;whnf
   rw[Dp zaa]
   conv=>lhs;whnf
   try dsimp -iota -beta -eta -zeta only
   rw[Fg zaa]
   conv=>lhs;whnf
   rw[Dp zaa]
   conv=>lhs;whnf
   rw[Ff hb];refine to ?_;rw[hg];refine tq ?_;rw[happ];exact ih
  ·rw[if_neg hb,List.append_nil] at ih
   rw[AO];conv=>lhs;whnf
   rw[Dp zaa]
   conv=>lhs;whnf
   try dsimp -iota -beta -eta -zeta only
   rw[Fg zaa]
   conv=>lhs;whnf
   rw[Dp zaa]
   conv=>lhs;whnf
   rw[Jc hb];refine tq ?_;exact ih
theorem NC{s:Int}{b:List (List UInt8)}(h:∀ x∈b,x.length<=1000):(MN s b).length<=16000:=Tz h 16
theorem Vj(h0:b0=[]\/EF 20 b0)(h1:b1=[]\/EF 32 b1):RY E0 (.loop 32 1 0 3 [(2,AV.pa 0 0),(3,AV.pa 1 0),(7,AV.nm 2),(8,AV.i 0)] [(0,some (Rs.var [AV.sl Ty.u8.sl.sl [b0,b1],AV.i u])),(1,some (Rs.var [AV.i s0,AV.i s1])),(2,some (Rs.row 5 Ty.u8 []))]) fun r=>(∃ x:List UInt8,(¬((s0=0\/0<b0.length)/\(s1=0\/0<b1.length)))/\r=some (.fin .ret 1 [(3,AV.pa 0 0),(4,AV.nil),(5,AV.i 27),(7,AV.sl Ty.u8 x)] [(0,some (Rs.var [AV.i s0,AV.i s1]))]))\/(((s0=0\/0<b0.length)/\(s1=0\/0<b1.length))/\r=some (.fin (.exit 2) 1 [(3,AV.pa 0 0),(7,AV.sl Ty.u8 (MN s0 b0++MN s1 b1))] [(0,some (Rs.var [AV.i s0,AV.i s1]))])):=by
 have q0:=wZ h0
 have q1:=wZ h1
 have k0:=(Og h0 zad).2
 have k1:=(Og h1 zad).2
 have e0:=fun h=>Vg b0 b1 u s0 s1 [] zak h k0 16 0 zaa
 have e1:=fun h=>Vh b0 b1 u s0 s1 (MN s0 b0) (by have:=NC (s:=s0) k0;omega) h k1 16 0 zaa
 simp only[List.nil_append,show Ny s0 b0 0=[] from rfl,show Ny s1 b1 0=[] from rfl,List.append_nil,show((0:Nat):Int)=0 from rfl] at e0 e1
 refine rF fun P hP=>?_
 refine tw ?_
 rcases Bj s0 0 with hc0|hc0
 ·refine tw ?_;rw[Zz _ _ _ Aq];refine tw ?_
  rcases Decidable.em (0<b0.length) with hc1|hc1
  ·refine tw ?_;rw[e0 zaa];refine tw ?_;refine tw ?_
   rcases Bj s1 0 with hc2|hc2
   ·refine tw ?_;rw[V4 _ _ _ _ Aq];refine tw ?_
    rcases Decidable.em (0<b1.length) with hc3|hc3
    ·refine tw ?_;rw[e1 zaa];refine tw ?_;refine tw ?_;exact hP _ (Or.inr ⟨Aq,rfl⟩)
    refine tw ?_;exact hP _ (Or.inl ⟨MN s0 b0,Aq,rfl⟩)
   subst hc2;refine tw ?_;rw[e1 zaa];refine tw ?_;refine tw ?_;exact hP _ (Or.inr ⟨Aq,rfl⟩)
  refine tw ?_;exact hP _ (Or.inl ⟨[],Aq,rfl⟩)
 subst hc0;refine tw ?_;rw[e0 zaa];refine tw ?_;refine tw ?_
 rcases Bj s1 0 with hc4|hc4
 ·refine tw ?_;rw[V4 _ _ _ _ Aq];refine tw ?_
  rcases Decidable.em (0<b1.length) with hc5|hc5
  ·refine tw ?_;rw[e1 zaa];refine tw ?_;refine tw ?_;exact hP _ (Or.inr ⟨Aq,rfl⟩)
  refine tw ?_;exact hP _ (Or.inl ⟨MN 0 b0,Aq,rfl⟩)
 subst hc4;refine tw ?_;rw[e1 zaa];refine tw ?_;refine tw ?_;exact hP _ (Or.inr ⟨Aq,rfl⟩)
theorem A3Q(h0:b0=[]\/EF 20 b0)(h1:b1=[]\/EF 32 b1):RY E0 (.call 32 [Om [b0,b1] u,.agg [.i s0,.i s1]] []) fun r=>(∃ e:Int,(e≠0/\¬((0<=s0/\s0<=65535/\0<=s1/\s1<=65535)/\(s0=0\/0<b0.length)/\(s1=0\/0<b1.length)))/\r=some (.ret (.tup [.sl .u8 [],.i e]) []))\/(((0<=s0/\s0<=65535/\0<=s1/\s1<=65535)/\(s0=0\/0<b0.length)/\(s1=0\/0<b1.length))/\r=some (.ret (.tup [.sl .u8 (U0 s0 s1 b0 b1),.i 0]) [])):=by
 have k0:=(Og h0 zad).2
 have k1:=(Og h1 zad).2
 have l0:=NC (s:=s0) k0
 have l1:=NC (s:=s1) k1
 have hf:(Ag 5 [BQ (BQ [] 2 s0) 2 s1,MN s0 b0++MN s1 b1]).length<=4294967295:=zaX
 refine rF fun P hP=>tw ?_
 obtain(⟨h0_0,yy0⟩|⟨⟨h0_1,h0_2,h0_3,h0_4⟩,yy0⟩):=Vf b0 b1 u s0 s1
 ·refine oM yy0 ?_;exact hP _ (Or.inl ⟨1,Aq,rfl⟩)
 refine oM yy0 ?_
 obtain(⟨x1,h1_1,yy1⟩|⟨⟨h1_2,h1_3⟩,yy1⟩):=Vj b0 b1 u s0 s1 Aq Aq
 ·refine oM yy1 ?_;exact hP _ (Or.inl ⟨27,Aq,rfl⟩)
 refine oM yy1 ?_;rw[Fj _ _ _ Aq];refine tw ?_;rw[Fj _ _ _ Aq];refine tw ?_;rw[HY _ _ hf zak];refine tw ?_;exact hP _ (Or.inr ⟨Aq,rfl⟩)
end
end Go.Proofs.YtanagnimhaemgaaGreatDoor
namespace Go.Proofs.YtanagnimhaemgaaGreatDoor
open Go Go.Ax
section
attribute [local irreducible] Bl CQ CS Bo Bg Ar CU Dw EN Dy EC Bf BU Bv Bz and' C9 CB BK Au BA BL BN Aa Ad AP AZ CV Dq CW DI CE BP BM BF BG BB AU BC Ae Ap Ai CX BH Bh Ba BO CG CY CJ fits CZ CO A8 AA Ac
theorem A3W:Y E0 (.call 107 [] [])=some (.ret (.sl .u8 NJ) []):=by
 refine tq ?_
 rfl
theorem MG(b:List UInt8)(a:Att)(s0 s1:Int)(hb:b.length<=1000000):Y E0 (.loop 257 0 0 2 [(1,.pa 0 0),(3,.nm 1),(37,.agg [.i s0,.i s1]),(38,.i 0)] [(0,some (.var (YN a))),(1,some (.row 5 .u8 b))])=some (.fin (.exit 0) 2 [(1,.pa 0 0),(3,.nm 1)] [(0,some (.var (YN a))),(1,some (.row 5 .u8 (BQ (BQ b 2 s0) 2 s1)))]):=by
 dsimp only[YN]
 refine tq ?_;rw[D5 _ _ _ Aq];refine tq ?_;refine tq ?_;rw[D5 _ _ _ zam];refine tq ?_;exact tq rfl
theorem Ym(a:Att)(hk:a.key.length<=100000)(hn:a.nonce.length<=100000)(hd:a.digest.length<=100000):Y E0 (.call 257 [.agg (YN a)] [])=some (.ret (.sl .u8 (Ef a)) []):=by
 obtain⟨key,nonce,resets,restarts,clock,safe,updates,s0,s1,digest⟩:=a
 simp only at hk hn hd
 dsimp only[YN]
 cases safe
 ·have hlp:=fun b hb=>MG b ⟨key,nonce,resets,restarts,clock,false,updates,s0,s1,digest⟩ s0 s1 hb
  dsimp only[YN] at hlp
  refine tq ?_;rw[Ep _ _ Aq];refine tq ?_;rw[Ep _ _ zam];refine tq ?_;rw[D5 _ _ _ zam];refine tq ?_;rw[D5 _ _ _ zam];refine tq ?_;rw[D5 _ _ _ zam];refine tq ?_;rw[D5 _ _ _ zam];refine tq ?_;rw[D5 _ _ _ zam];refine tq ?_
  rw[hlp _ zaO]
  conv=>lhs;whnf
  rw[Dx zam]
  conv=>lhs;whnf
  rw[Am];rfl
 ·have hlp:=fun b hb=>MG b ⟨key,nonce,resets,restarts,clock,true,updates,s0,s1,digest⟩ s0 s1 hb
  dsimp only[YN] at hlp
  refine tq ?_;rw[Ep _ _ Aq];refine tq ?_;rw[Ep _ _ zam];refine tq ?_;rw[D5 _ _ _ zam];refine tq ?_;rw[D5 _ _ _ zam];refine tq ?_;rw[D5 _ _ _ zam];refine tq ?_;rw[D5 _ _ _ zam];refine tq ?_;rw[D5 _ _ _ zam];refine tq ?_
  rw[hlp _ zaO]
  conv=>lhs;whnf
  rw[Dx zam]
  conv=>lhs;whnf
  rw[Am];rfl
end
section
attribute [local irreducible] Bl CQ CS Bo Bg Ar CU Dw EN Dy EC Bf BU Bv Bz and' C9 CB BK Au BA BL BN Aa Ad AP AZ CV Dq CW DI CE BP BM BF BG BB AU BC Ae Ap Ai CX BH Bh Ba BO CG CY CJ fits CZ CO A8 AA Ac
theorem Yt(b:List UInt8)(hb:b.length<=4294967296):Y E0 (.call 66 [.sl .u8 b] [])=some (.ret (.tup [.agg (YN (Nq b).1),.i (Nq b).2]) []):=by
 refine tq ?_;rw[Tm _];refine tq ?_;rw[show Y E0 (.call 106 [.pa 0 0,.i 4] [.var [.sl .u8 b,.i 0,.i 0]])=_ from kV b 0 0 4 hb (Nat.zero_le _) zad];generalize g0:OH b 0 0 4=x0;obtain⟨v0,p0,er0⟩:=x0;have k0:p0<=b.length:=(by have:=A28 (b:=b) (at':=0) (e:=0) (n:=4) (Nat.zero_le _);rw[g0] at this;exact this);have l0:v0.length<=b.length:=(by have:=dX (b:=b) (at':=0) (e:=0) (n:=4);rw[g0] at this;exact this)
 refine tq ?_
 rcases Bj er0 0 with hc0|hc0
 ·refine tq ?_;rw[A85 g0 zbk];rfl
 subst hc0;refine tq ?_;rw[A3W];refine tq ?_;rw[OM _ _ Aq];refine tq ?_
 rcases Decidable.em (v0=NJ) with hc1|hc1
 ·refine tq ?_;rw[KC b p0 0 32 hb k0];generalize g1:JK b p0 0 32=x1;obtain⟨v1,p1,er1⟩:=x1;have k1:p1<=b.length:=(by have:=Xf (b:=b) (at':=p0) (e:=0) (most:=32) k0;rw[g1] at this;exact this);have l1:v1.length<=b.length:=(by have:=QG (b:=b) (at':=p0) (e:=0) (most:=32);rw[g1] at this;exact this)
  refine tq ?_;rw[KC b p1 er1 128 hb k1];generalize g2:JK b p1 er1 128=x2;obtain⟨v2,p2,er2⟩:=x2;have k2:p2<=b.length:=(by have:=Xf (b:=b) (at':=p1) (e:=er1) (most:=128) k1;rw[g2] at this;exact this);have l2:v2.length<=b.length:=(by have:=QG (b:=b) (at':=p1) (e:=er1) (most:=128);rw[g2] at this;exact this)
  refine tq ?_;rw[EY b p2 er2 8 hb k2];generalize g3:Ey b p2 er2 8=x3;obtain⟨v3,p3,er3⟩:=x3;have k3:p3<=b.length:=(by have:=MB (b:=b) (at':=p2) (e:=er2) (size:=8) k2;rw[g3] at this;exact this)
  refine tq ?_;rw[EY b p3 er3 8 hb k3];generalize g4:Ey b p3 er3 8=x4;obtain⟨v4,p4,er4⟩:=x4;have k4:p4<=b.length:=(by have:=MB (b:=b) (at':=p3) (e:=er3) (size:=8) k3;rw[g4] at this;exact this)
  refine tq ?_;rw[EY b p4 er4 8 hb k4];generalize g5:Ey b p4 er4 8=x5;obtain⟨v5,p5,er5⟩:=x5;have k5:p5<=b.length:=(by have:=MB (b:=b) (at':=p4) (e:=er4) (size:=8) k4;rw[g5] at this;exact this)
  refine tq ?_;rw[EY b p5 er5 1 hb k5];generalize g6:Ey b p5 er5 1=x6;obtain⟨v6,p6,er6⟩:=x6;have k6:p6<=b.length:=(by have:=MB (b:=b) (at':=p5) (e:=er5) (size:=1) k5;rw[g6] at this;exact this)
  refine tq ?_;rw[EY b p6 er6 8 hb k6];generalize g7:Ey b p6 er6 8=x7;obtain⟨v7,p7,er7⟩:=x7;have k7:p7<=b.length:=(by have:=MB (b:=b) (at':=p6) (e:=er6) (size:=8) k6;rw[g7] at this;exact this)
  refine tq ?_;rw[EY b p7 er7 2 hb k7];generalize g8:Ey b p7 er7 2=x8;obtain⟨v8,p8,er8⟩:=x8;have k8:p8<=b.length:=(by have:=MB (b:=b) (at':=p7) (e:=er7) (size:=2) k7;rw[g8] at this;exact this)
  refine tq ?_;rw[EY b p8 er8 2 hb k8];generalize g9:Ey b p8 er8 2=x9;obtain⟨v9,p9,er9⟩:=x9;have k9:p9<=b.length:=(by have:=MB (b:=b) (at':=p8) (e:=er8) (size:=2) k8;rw[g9] at this;exact this)
  refine tq ?_;rw[kV b p9 er9 32 hb k9 zad];generalize g10:OH b p9 er9 32=x10;obtain⟨v10,p10,er10⟩:=x10;have k10:p10<=b.length:=(by have:=A28 (b:=b) (at':=p9) (e:=er9) (n:=32) k9;rw[g10] at this;exact this);have l10:v10.length<=b.length:=(by have:=dX (b:=b) (at':=p9) (e:=er9) (n:=32);rw[g10] at this;exact this)
  refine tq ?_;rw[Tn _ _ _ Aq Aq]
  conv=>lhs;whnf
  rw[AO]
  conv=>lhs;whnf
  rcases Bj (VT b p10 er10) 0 with hc2|hc2
  ·refine tq ?_
   rw[WS g0 zbk g1 g2 g3 g4 g5 g6 g7 g8 g9 g10];(repeat(first|rw[if_pos zab]|rw[if_neg zab]));rfl
  refine tq ?_
  rcases Bj (↑v1.length) 32 with hc3|hc3
  ·rw[IY zai]
   conv=>lhs;whnf
   try dsimp -iota -beta -eta -zeta only
   rw[WS g0 zbk g1 g2 g3 g4 g5 g6 g7 g8 g9 g10];(repeat(first|rw[if_pos zab]|rw[if_neg zab]));rfl
  rw[DY zai]
  conv=>lhs;whnf
  rcases D7 1 v6 with hc4|hc4
  ·refine tq ?_
   rw[WS g0 zbk g1 g2 g3 g4 g5 g6 g7 g8 g9 g10];(repeat(first|rw[if_pos zab]|rw[if_neg zab]));rfl
  refine tq ?_
  rw[WS g0 zbk g1 g2 g3 g4 g5 g6 g7 g8 g9 g10];(repeat(first|rw[if_pos zab]|rw[if_neg zab]));rw[<-A5P]
 refine tq ?_;rw[A86 g0 zbk];rfl
end
end Go.Proofs.YtanagnimhaemgaaGreatDoor
namespace Go.Proofs.YtanagnimhaemgaaGreatDoor
open Go Go.Ax Go.Eng
section
attribute [local irreducible] Bl CQ CS Bo Bg Ar CU Dw EN Dy EC Bf BU Bv Bz and' C9 CB BK Au BA BL BN Aa Ad AP AZ CV Dq CW DI CE BP BM BF BG BB AU BC Ae Ap Ai CX BH Bh Ba BO CG CY CJ fits CZ CO A8 AA Ac
attribute [local irreducible] FM ES G6 UD Nq Ef Cb nameB ACQ A9A UE
theorem oC(kind attr height:Int)(policy unique b s:List UInt8)(hp:policy.length<=60000)(hu:unique.length<=60000)(hb:b.length<=1000000):Y E0 (.call 31 [.agg [.i kind,.i attr,.i height,.sl .u8 policy,.sl .u8 unique],.sl .u8 b,.sl .u8 s] [])=some (.ret (.tup [.agg (YN (UD ⟨kind,attr,height,policy,unique⟩ b s).1),.i (UD ⟨kind,attr,height,policy,unique⟩ b s).2.1,.i (UD ⟨kind,attr,height,policy,unique⟩ b s).2.2]) []):=by
 have ed:=Yt b zaa
 have ev:=A3J unique b s zaa
 have en:=rH kind attr height policy unique hp hu
 have hn:(nameB ⟨kind,attr,height,policy,unique⟩).length=32:=A4f _
 have hk:=A4e b
 rw[A6w];rw[show bits .and .i64 attr 4=Ar .and attr 4 from(Af _ _ _).symm]
 generalize G6 unique b s=R at *
 obtain⟨leaf,ok⟩:=R
 generalize Nq b=D at *
 obtain⟨A,e⟩:=D
 obtain⟨key,nonce,resets,restarts,clock,safe,updates,s0,s1,digest⟩:=A
 dsimp only[YN] at *
 obtain⟨hk1,hk2,hk3⟩:=hk
 generalize nameB ⟨kind,attr,height,policy,unique⟩=nm at *
 cases ok
 ·refine tq ?_;rw[PX ..];refine tq ?_
  rcases Bj (Cb {kind:=kind,attr:=attr,height:=height,policy:=policy,unique:=unique}) 0 with hc0|hc0
  ·refine tq ?_
   (unfold UC;dsimp only;(repeat(first|rw[if_pos zaD]|rw[if_neg zau]));try rfl)
  refine tq ?_
  rcases Bj kind 2 with hc1|hc1
  ·refine tq ?_
   (unfold UC;dsimp only;(repeat(first|rw[if_pos zaD]|rw[if_neg zau]));try rfl)
  subst hc1;refine tq ?_
  rcases FK (Ar BinOp.and attr 4) 0 with hc2|hc2
  ·refine tq ?_
   (unfold UC;dsimp only;(repeat(first|rw[if_pos zaD]|rw[if_neg zau]));try rfl)
  refine tq ?_;rw[ev];refine tq ?_
  (unfold UC;dsimp only;(repeat(first|rw[if_pos zaD]|rw[if_neg zau]));try rfl)
 ·refine tq ?_;rw[PX ..];refine tq ?_
  rcases Bj (Cb {kind:=kind,attr:=attr,height:=height,policy:=policy,unique:=unique}) 0 with hc0|hc0
  ·refine tq ?_
   (unfold UC;dsimp only;(repeat(first|rw[if_pos zaD]|rw[if_neg zau]));try rfl)
  refine tq ?_
  rcases Bj kind 2 with hc1|hc1
  ·refine tq ?_
   (unfold UC;dsimp only;(repeat(first|rw[if_pos zaD]|rw[if_neg zau]));try rfl)
  subst hc1;refine tq ?_
  rcases FK (Ar BinOp.and attr 4) 0 with hc2|hc2
  ·refine tq ?_
   (unfold UC;dsimp only;(repeat(first|rw[if_pos zaD]|rw[if_neg zau]));try rfl)
  refine tq ?_;rw[ev];refine tq ?_;rw[ed];refine tq ?_
  rcases Bj e 0 with hc3|hc3
  ·refine tq ?_
   (unfold UC;dsimp only;(repeat(first|rw[if_pos zaD]|rw[if_neg zau]));try rfl)
  subst hc3;refine tq ?_;rw[en];refine tq ?_;rw[OM _ _ Aq];refine tq ?_
  rcases Decidable.em (key=nm) with hc4|hc4
  ·refine tq ?_
   (unfold UC;dsimp only;(repeat(first|rw[if_pos zaD]|rw[if_neg zau]));try rfl)
  refine tq ?_
  (unfold UC;dsimp only;(repeat(first|rw[if_pos zaD]|rw[if_neg zau]));try rfl)
end
end Go.Proofs.YtanagnimhaemgaaGreatDoor
