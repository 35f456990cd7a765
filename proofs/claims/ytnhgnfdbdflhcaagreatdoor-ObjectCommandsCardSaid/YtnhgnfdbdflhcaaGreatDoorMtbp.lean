/-
  Own texts, laid together for this claim: contracts of functions of the program and its references, used by the statements of this seat.
-/
import Derived.Test.YtnhgnfdbdflhcaaGreatDoorMtab
import Derived.Test.YtnhgnfdbdflhcaaGreatDoorMtad
import Derived.Test.YtnhgnfdbdflhcaaGreatDoorMtae
import Derived.Test.YtnhgnfdbdflhcaaGreatDoorMtaf
import Derived.Test.YtnhgnfdbdflhcaaGreatDoorMtah
import Derived.Test.YtnhgnfdbdflhcaaGreatDoorMtai
import Derived.Test.YtnhgnfdbdflhcaaGreatDoorMtaj
import Derived.Test.YtnhgnfdbdflhcaaGreatDoorMtaq
import Derived.Test.YtnhgnfdbdflhcaaGreatDoorMtaw
import Derived.Test.YtnhgnfdbdflhcaaGreatDoorMtaz
import Derived.Test.YtnhgnfdbdflhcaaGreatDoorMtbg
set_option linter.all false
set_option maxHeartbeats 40000000
set_option maxRecDepth 100000
namespace Go.Proofs.YtnhgnfdbdflhcaaGreatDoor
open Go Go.Ax Go.Eng
variable (b0 b1:List (List UInt8))(u s0 s1:Int)
section
attribute [local irreducible] Cc Dn D7 DU DD BA Dp F7 FY FD Ez Ci CS DK DV and' DW DL C9 BR Bh CB CG BG BI Aw BC Dq Fh Dt ER DX Bl CE Bv Bz Bi Az Bg BK Bj BO Du Bc DF BZ BM Cj Di fits Dv Dk Ac Am BH
attribute [local irreducible] Dw CJ Be nameB EL Eh Ar ET E8 Ea ES F8 BV GX Eg Fv FU EE Fa Ej Ho I5 En
theorem zI:BA .or 0 (Ci 1 (Bl 0).toNat)=1/\BA .or 0 (Ci 1 (Bl (0+1)).toNat)=2/\BA .or 1 (Ci 1 (Bl (0+1)).toNat)=3:=by
 rw[Q5,fO,GK]
 decide +kernel
def wQ(b0 b1:List (List UInt8)):Int:=(if b0.length=16 then 1 else 0)+(if b1.length=16 then 2 else 0)
theorem qC(h0:b0.length=0\/b0.length=16)(h1:b1.length=0\/b1.length=16):Y E0 (.call 163 [.agg [.sl (.sl (.sl .u8)) [b0,b1],.i u]] [])=some (.ret (.i (wQ b0 b1)) []):=by
 have hg1:BO [b0,b1] (0+1)=some b1:=lg1 _ _ _
 have hq:Y E0 (.loop 163 0 0 1 [(1,.pa 0 0),(3,.i 0),(7,.i (Bj [b0,b1])),(8,.i 0)] [(0,some (.var [.sl (.sl (.sl .u8)) [b0,b1],.i u]))])=some (.fin (.exit 0) 0 [(3,.i (wQ b0 b1))] []):=by
  unfold wQ
  rcases h0 with h0|h0<;>rcases h1 with h1|h1
  ·rw[if_neg zaa,if_neg zaa];refine tq ?_;refine tq ?_;rw[hg1];refine tq ?_;refine tq ?_
   rfl
  ·rw[if_neg zaa,if_pos h1];refine tq ?_;refine tq ?_;rw[hg1];refine tq ?_;refine tq ?_
   (rw[zI.2.1];rfl)
  ·rw[if_pos h0,if_neg zaa];refine tq ?_;refine tq ?_;rw[hg1];refine tq ?_;refine tq ?_
   (rw[zI.1];rfl)
  ·rw[if_pos h0,if_pos h1];refine tq ?_;refine tq ?_;rw[hg1];refine tq ?_;refine tq ?_
   (rw[zI.1,zI.2.2];rfl)
 refine tq ?_;rw[hq];exact tq rfl
theorem XC:(∀ v:Int,v=0\/v=2->BA .and (CS v (Bl 0).toNat) 1=0)/\(∀ v:Int,v=1\/v=3->BA .and (CS v (Bl 0).toNat) 1=1)/\(∀ v:Int,v=0\/v=1->BA .and (CS v (Bl 1).toNat) 1=0)/\(∀ v:Int,v=2\/v=3->BA .and (CS v (Bl 1).toNat) 1=1):=by
 rw[Q5,fP,GK]
 refine⟨?_,?_,?_,?_⟩<;>(rintro v (rfl|rfl)<;>decide +kernel)
theorem A5g(h0:b0.length=0\/b0.length=16)(h1:b1.length=0\/b1.length=16):Y E0 (.call 103 [.agg [.sl (.sl (.sl .u8)) [b0,b1],.i u],.i 0] [])=some (.ret (.b (decide (0<b0.length))) []):=by
 have hb:BA .and (CS (wQ b0 b1) (Bl 0).toNat) 1=if 0<b0.length then 1 else 0:=by
  unfold wQ
  rcases h0 with h0|h0
  ·rw[if_neg (show ¬b0.length=16 by omega),if_neg (show ¬0<b0.length by omega)]
   exact XC.1 _ (by split<;>omega)
  ·rw[if_pos h0,if_pos (show 0<b0.length by omega)]
   exact XC.2.1 _ (by split<;>omega)
 refine tq ?_;rw[qC _ _ _ h0 h1];refine tq ?_;rw[hb]
 (rw[Dz];by_cases h:0<b0.length<;>simp[h])
theorem zJ(h0:b0.length=0\/b0.length=16)(h1:b1.length=0\/b1.length=16):Y E0 (.call 103 [.agg [.sl (.sl (.sl .u8)) [b0,b1],.i u],.i 1] [])=some (.ret (.b (decide (0<b1.length))) []):=by
 have hb:BA .and (CS (wQ b0 b1) (Bl 1).toNat) 1=if 0<b1.length then 1 else 0:=by
  unfold wQ
  rcases h1 with h1|h1
  ·rw[if_neg (show ¬b1.length=16 by omega),if_neg (show ¬0<b1.length by omega)]
   exact XC.2.2.1 _ (by split<;>omega)
  ·rw[if_pos h1,if_pos (show 0<b1.length by omega)]
   exact XC.2.2.2 _ (by split<;>omega)
 refine tq ?_;rw[qC _ _ _ h0 h1];refine tq ?_;rw[hb]
 (rw[Dz];by_cases h:0<b1.length<;>simp[h])
theorem wR:Ah E0 (.loop 46 0 0 3 [(2,.pa 0 0),(3,.pa 1 0),(6,.nil),(7,.nm 2),(13,AV.agg [AV.i s0,AV.i s1]),(14,AV.i 0)] [(0,some (Rs.var [AV.sl Ty.u8.sl.sl [b0,b1],AV.i u])),(1,some (Rs.var [AV.i s0,AV.i s1])),(2,some (Rs.row 5 Ty.u8 []))]) fun r=>(∃ x:AV,(¬(0<=s0/\s0<=65535/\0<=s1/\s1<=65535))/\r=some (.fin .ret 3 [(2,.pa 0 0),(3,.pa 1 0),(4,.nil),(5,.i 1),(6,x),(7,.nm 2)] [(0,some (Rs.var [AV.sl Ty.u8.sl.sl [b0,b1],AV.i u])),(1,some (Rs.var [AV.i s0,AV.i s1])),(2,some (Rs.row 5 Ty.u8 []))]))\/((0<=s0/\s0<=65535/\0<=s1/\s1<=65535)/\r=some (.fin (.exit 0) 3 [(2,AV.pa 0 0),(3,AV.pa 1 0),(6,AV.sl Ty.u8 (BV (BV [] 2 s0) 2 s1)),(7,AV.nm 2)] [(0,some (Rs.var [AV.sl Ty.u8.sl.sl [b0,b1],AV.i u])),(1,some (Rs.var [AV.i s0,AV.i s1])),(2,some (Rs.row 5 Ty.u8 []))])):=by
 refine CU fun P hP=>?_
 refine tw ?_
 rcases AZ s0 0 with hc0|hc0
 ·refine tw ?_;exact hP _ (Or.inl ⟨AV.nil,A7,rfl⟩)
 refine tw ?_
 rcases AZ 65535 s0 with hc1|hc1
 ·refine tw ?_;exact hP _ (Or.inl ⟨AV.nil,A7,rfl⟩)
 refine tw ?_;rw[GN _ _ _ A7];refine tw ?_;refine tw ?_
 rcases AZ s1 0 with hc2|hc2
 ·refine tw ?_;exact hP _ (Or.inl ⟨AV.sl Ty.u8 (BV [] 2 s0),A7,rfl⟩)
 refine tw ?_
 rcases AZ 65535 s1 with hc3|hc3
 ·refine tw ?_;exact hP _ (Or.inl ⟨AV.sl Ty.u8 (BV [] 2 s0),A7,rfl⟩)
 refine tw ?_;rw[GN _ _ _ A7];refine tw ?_;refine tw ?_;exact hP _ (Or.inr ⟨A7,rfl⟩)
theorem XD(b0 b1 b:List (List UInt8))(u a s s0 s1:Int)(hd acc:List UInt8)(ha:acc.length<=20000)(hgb:BO [b0,b1] a=some b)(h:s=0\/b.length=16)(hm:∀ x∈b,x.length<=1000):∀(n j:Nat),j+n=16->Y E0 (.loop 46 2 0 2 [(2,.pa 0 0),(6,.sl .u8 hd),(7,.nm 1),(10,.i a),(11,.i s),(27,.agg [.i s0,.i s1]),(28,.i a),(40,.i (j:Int))] [(0,some (.var [.sl (.sl (.sl .u8)) [b0,b1],.i u])),(1,some (.row 5 .u8 (acc++Ob s b j)))])=some (.fin (.exit 4) 2 [(2,.pa 0 0),(6,.sl .u8 hd),(7,.nm 1),(27,.agg [.i s0,.i s1]),(28,.i a)] [(0,some (.var [.sl (.sl (.sl .u8)) [b0,b1],.i u])),(1,some (.row 5 .u8 (acc++NW s b)))])
 | 0,j,hj=>by
  obtain rfl:j=16:=zaa
  refine tq ?_
  rfl
 | n+1,j,hj=>by
  have ih:=XD b0 b1 b u a s s0 s1 hd acc ha hgb h hm n (j+1) zaa
  rw[show((j+1:Nat):Int)=(j:Int)+1 from by omega,Ob] at ih
  have hle:=VN (s:=s) hm j
  by_cases hb:BA .and (CS s (Bl ((j:Nat):Int)).toNat) 1=1
  ·have hs:b.length=16:=by
    rcases h with h|h
    ·subst h;rw[Zz j zaa] at hb;cases hb
    ·exact h
   rw[if_pos hb,<-List.append_assoc] at ih
   have hg:BO b (j:Int)=some (b.getD j []):=by rw[Fe zaa];simp[List.getD,List.getElem?_eq_getElem (show j<b.length by omega)]
   have hx:(b.getD j []).length<=1000:=by
    have:=hm _ (List.getElem_mem (show j<b.length by omega))
    simpa [List.getD,List.getElem?_eq_getElem (show j<b.length by omega)] using this
   have happ:BM (acc++Ob s b j) (b.getD j [])=acc++Ob s b j++b.getD j []:=Ag _ _
   rw[Ad];conv=>lhs;whnf
   rw[EZ zaa]
   conv=>lhs;whnf
   rw[EH hb];refine tq ?_;rw[hgb];refine to ?_;rw[hg];refine tq ?_;rw[happ];exact ih
  ·rw[if_neg hb,List.append_nil] at ih
   rw[Ad];conv=>lhs;whnf
   rw[EZ zaa]
   conv=>lhs;whnf
   rw[AA hb];refine tq ?_;exact ih
theorem wS(hd:List UInt8)(h0:b0=[]\/Fg 20 b0)(h1:b1=[]\/Fg 32 b1):Ah E0 (.loop 46 1 0 2 [(2,.pa 0 0),(6,.sl .u8 hd),(7,.nm 1),(27,AV.agg [AV.i s0,AV.i s1]),(28,AV.i 0)] [(0,some (Rs.var [AV.sl Ty.u8.sl.sl [b0,b1],AV.i u])),(1,some (Rs.row 5 Ty.u8 []))]) fun r=>(∃ x:List UInt8,(¬((s0=0\/0<b0.length)/\(s1=0\/0<b1.length)))/\r=some (.fin .ret 0 [(4,.nil),(5,.i 27),(6,.sl .u8 hd),(7,.sl .u8 x)] []))\/(((s0=0\/0<b0.length)/\(s1=0\/0<b1.length))/\r=some (.fin (.exit 2) 0 [(6,.sl .u8 hd),(7,AV.sl Ty.u8 (NW s0 b0++NW s1 b1))] [])):=by
 have q0:=Nq h0
 have q1:=Nq h1
 have k0:=(Jv h0 zal).2
 have k1:=(Jv h1 zal).2
 have g0:BO [b0,b1] 0=some b0:=lg0 _ _
 have g1:BO [b0,b1] 1=some b1:=lg1 _ _ _
 have e0:=fun h=>XD b0 b1 b0 u 0 s0 s0 s1 hd [] zam g0 h k0 16 0 zaa
 have e1:=fun h=>XD b0 b1 b1 u 1 s1 s0 s1 hd (NW s0 b0) (by have:=Nr (s:=s0) k0;omega) g1 h k1 16 0 zaa
 simp only[List.nil_append,show ∀ s b,Ob s b 0=[] from fun _ _=>rfl,List.append_nil,show((0:Nat):Int)=0 from rfl] at e0 e1
 refine CU fun P hP=>?_
 refine tw ?_
 rcases AX s0 0 with hc0|hc0
 ·refine tw ?_;rw[A5g _ _ _ q0 q1];refine tw ?_
  rcases Decidable.em (0<b0.length) with hc1|hc1
  ·refine tw ?_;rw[e0 zaa];refine tw ?_;refine tw ?_
   rcases AX s1 0 with hc2|hc2
   ·refine tw ?_;rw[zJ _ _ _ q0 q1];refine tw ?_
    rcases Decidable.em (0<b1.length) with hc3|hc3
    ·refine tw ?_;rw[e1 zaa];refine tw ?_;refine tw ?_;exact hP _ (Or.inr ⟨A7,rfl⟩)
    refine tw ?_;exact hP _ (Or.inl ⟨NW s0 b0,A7,rfl⟩)
   subst hc2;refine tw ?_;rw[e1 zaa];refine tw ?_;refine tw ?_;exact hP _ (Or.inr ⟨A7,rfl⟩)
  refine tw ?_;exact hP _ (Or.inl ⟨[],A7,rfl⟩)
 subst hc0;refine tw ?_;rw[e0 zaa];refine tw ?_;refine tw ?_
 rcases AX s1 0 with hc4|hc4
 ·refine tw ?_;rw[zJ _ _ _ q0 q1];refine tw ?_
  rcases Decidable.em (0<b1.length) with hc5|hc5
  ·refine tw ?_;rw[e1 zaa];refine tw ?_;refine tw ?_;exact hP _ (Or.inr ⟨A7,rfl⟩)
  refine tw ?_;exact hP _ (Or.inl ⟨NW 0 b0,A7,rfl⟩)
 subst hc4;refine tw ?_;rw[e1 zaa];refine tw ?_;refine tw ?_;exact hP _ (Or.inr ⟨A7,rfl⟩)
theorem zK(h0:b0=[]\/Fg 20 b0)(h1:b1=[]\/Fg 32 b1):Ah E0 (.call 46 [.agg [.sl (.sl (.sl .u8)) [b0,b1],.i u],.agg [.i s0,.i s1]] []) fun r=>(∃ e:Int,(e=1/\¬(0<=s0/\s0<=65535/\0<=s1/\s1<=65535)\/e=27/\(0<=s0/\s0<=65535/\0<=s1/\s1<=65535)/\¬((s0=0\/0<b0.length)/\(s1=0\/0<b1.length)))/\r=some (.ret (.tup [.sl .u8 [],.i e]) []))\/(((0<=s0/\s0<=65535/\0<=s1/\s1<=65535)/\(s0=0\/0<b0.length)/\(s1=0\/0<b1.length))/\r=some (.ret (.tup [.sl .u8 (X7 s0 s1 b0 b1),.i 0]) [])):=by
 have k0:=(Jv h0 zal).2
 have k1:=(Jv h1 zal).2
 have l0:=Nr (s:=s0) k0
 have l1:=Nr (s:=s1) k1
 have hf:(Ar 5 [BV (BV [] 2 s0) 2 s1,NW s0 b0++NW s1 b1]).length<=4294967295:=zbk
 refine CU fun P hP=>tw ?_
 obtain(⟨x0,h0_1,yy0⟩|⟨⟨h0_2,h0_3,h0_4,h0_5⟩,yy0⟩):=wR b0 b1 u s0 s1
 ·refine Aq yy0 ?_;exact hP _ (Or.inl ⟨1,A7,rfl⟩)
 refine Aq yy0 ?_
 obtain(⟨x1,h1_1,yy1⟩|⟨⟨h1_2,h1_3⟩,yy1⟩):=wS b0 b1 u s0 s1 (BV (BV [] 2 s0) 2 s1) A7 A7
 ·refine Aq yy1 ?_;exact hP _ (Or.inl ⟨27,A7,rfl⟩)
 refine Aq yy1 ?_;rw[I8 _ _ hf zam];refine tw ?_;exact hP _ (Or.inr ⟨A7,rfl⟩)
end
end Go.Proofs.YtnhgnfdbdflhcaaGreatDoor
