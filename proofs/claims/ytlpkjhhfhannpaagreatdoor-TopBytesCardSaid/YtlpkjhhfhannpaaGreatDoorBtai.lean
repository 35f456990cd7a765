/- Own texts of this claim: contracts of functions. -/
import Derived.Test.YtlpkjhhfhannpaaGreatDoorBtad
set_option linter.all false
set_option maxHeartbeats 40000000
set_option maxRecDepth 100000
namespace Go.Ax
open Go.Eng
noncomputable def OB(s:Int)(b:List (List UInt8)):Nat->List UInt8
 | 0=>[]
 | j+1=>OB s b j++(if BC .and (Bi s (BZ ((j:Nat):Int)).toNat) 1=1 then b.getD j [] else [])
theorem Ua{s:Int}{b:List (List UInt8)}(h:∀ x∈b,x.length<=1000):∀ j,(OB s b j).length<=1000*j
 | 0=>by simp[OB]
 | j+1=>by
  have ih:=Ua (s:=s) h j
  rw[OB,List.length_append]
  split
  ·have hb:(b.getD j []).length<=1000:=by
    by_cases hj:j<b.length
    ·have:=h _ (List.getElem_mem hj)
     simpa [List.getD,List.getElem?_eq_getElem hj] using this
    ·simp[List.getD,List.getElem?_eq_none (show b.length<=j by omega)]
   omega
  ·simp only[List.length_nil];omega
noncomputable def OC(s:Int)(b:List (List UInt8)):List UInt8:=OB s b 16
noncomputable def AAS(s0 s1:Int)(b0 b1:List (List UInt8)):List UInt8:=sha256 (Az 5 [Bg (Bg [] 2 s0) 2 s1,OC s0 b0++OC s1 b1])
end Go.Ax
namespace Go.Proofs.YtlpkjhhfhannpaaGreatDoor
open Go Go.Ax Go.Eng
attribute [local irreducible] CS Cj CP CW CQ BC Cm ED ES Dx EG CJ Bi Ce CX and' Cf CU BL Au BI BP BR Ag Ai AY Ae D5 EJ D6 DX Cb BZ BQ BM BO BJ AZ BK Aj Ak Ap D7 BB CV BU BF CO D8 Cc fits D9 Ci AC AQ Ah
section
attribute [local irreducible] BG DY CY nameB Eh Ef Az
theorem pW(b0 b1:List (List UInt8))(u s0 s1:Int):EC E0 (.loop 12 0 0 2 [(2,AV.pa 0 0),(3,AV.pa 1 0),(6,AV.i 0)] [(0,some (Rs.var [AV.sl Ty.u8.sl.sl [b0,b1],AV.i u])),(1,some (Rs.var [AV.i s0,AV.i s1]))]) fun r=>(¬(0<=s0/\s0<=65535/\0<=s1/\s1<=65535)/\r=some (.fin .ret 2 [(2,.pa 0 0),(3,.pa 1 0),(4,.nil),(5,.i 1)] [(0,some (Rs.var [AV.sl Ty.u8.sl.sl [b0,b1],AV.i u])),(1,some (Rs.var [AV.i s0,AV.i s1]))]))\/((0<=s0/\s0<=65535/\0<=s1/\s1<=65535)/\r=some (.fin (.exit 0) 2 [(2,.pa 0 0),(3,.pa 1 0)] [(0,some (Rs.var [AV.sl Ty.u8.sl.sl [b0,b1],AV.i u])),(1,some (Rs.var [AV.i s0,AV.i s1]))])):=by
 refine G5 fun P hP=>?_
 refine tw ?_
 rcases Bc s0 0 with hc0|hc0
 ·refine tw ?_;exact hP _ (Or.inl ⟨AA,rfl⟩)
 refine tw ?_
 rcases Bc 65535 s0 with hc1|hc1
 ·refine tw ?_;exact hP _ (Or.inl ⟨AA,rfl⟩)
 refine tw ?_;refine tw ?_
 rcases Bc s1 0 with hc2|hc2
 ·refine tw ?_;exact hP _ (Or.inl ⟨AA,rfl⟩)
 refine tw ?_
 rcases Bc 65535 s1 with hc3|hc3
 ·refine tw ?_;exact hP _ (Or.inl ⟨AA,rfl⟩)
 refine tw ?_;refine tw ?_;exact hP _ (Or.inr ⟨AA,rfl⟩)
theorem cO:∀ i<16,BC .and (Bi 0 (BZ ((i:Nat):Int)).toNat) 1=0:=by
 rw[NP,Ux,FP]
 decide +kernel
theorem WP(b0 b1:List (List UInt8))(u s0 s1:Int)(acc:List UInt8)(ha:acc.length<=20000)(h:s0=0\/b0.length=16)(hm:∀ x∈b0,x.length<=1000):∀(n j:Nat),j+n=16->Y E0 (.loop 12 2 0 3 [(2,AV.pa 0 0),(3,AV.pa 1 0),(7,AV.nm 2),(8,AV.i 0),(9,AV.i (j:Int))] [(0,some (Rs.var [AV.sl Ty.u8.sl.sl [b0,b1],AV.i u])),(1,some (Rs.var [AV.i s0,AV.i s1])),(2,some (Rs.row 5 Ty.u8 (acc++OB s0 b0 j)))])=some (.fin (.exit 4) 3 [(2,AV.pa 0 0),(3,AV.pa 1 0),(7,AV.nm 2),(8,AV.i 0)] [(0,some (Rs.var [AV.sl Ty.u8.sl.sl [b0,b1],AV.i u])),(1,some (Rs.var [AV.i s0,AV.i s1])),(2,some (Rs.row 5 Ty.u8 (acc++OC s0 b0)))])
 | 0,j,hj=>by
  obtain rfl:j=16:=zaa
  refine tq ?_
  rfl
 | n+1,j,hj=>by
  have ih:=WP b0 b1 u s0 s1 acc ha h hm n (j+1) zaa
  rw[show((j+1:Nat):Int)=(j:Int)+1 from by omega,OB] at ih
  have hle:=Ua (s:=s0) hm j
  by_cases hb:BC .and (Bi s0 (BZ ((j:Nat):Int)).toNat) 1=1
  ·have hs:b0.length=16:=by
    rcases h with h|h
    ·subst h;rw[cO j zaa] at hb;cases hb
    ·exact h
   rw[if_pos hb,<-List.append_assoc] at ih
   have hg:Ap b0 (j:Int)=some (b0.getD j []):=by rw[JC zaa];simp[List.getD,List.getElem?_eq_getElem (show j<b0.length by omega)]
   have hx:(b0.getD j []).length<=1000:=by
    have:=hm _ (List.getElem_mem (show j<b0.length by omega))
    simpa [List.getD,List.getElem?_eq_getElem (show j<b0.length by omega)] using this
   have happ:BF (acc++OB s0 b0 j) (b0.getD j [])=acc++OB s0 b0 j++b0.getD j []:=Ac _ _
   rw[AL];conv=>lhs;whnf
   rw[Dl zaa]
   conv=>lhs;whnf
   try dsimp -iota -beta -eta -zeta only
   rw[Fb zaa]
   conv=>lhs;whnf
   rw[Dl zaa]
   conv=>lhs;whnf
   rw[Dz hb];refine to ?_;rw[hg];refine tq ?_;rw[happ];exact ih
  ·rw[if_neg hb,List.append_nil] at ih
   rw[AL];conv=>lhs;whnf
   rw[Dl zaa]
   conv=>lhs;whnf
   try dsimp -iota -beta -eta -zeta only
   rw[Fb zaa]
   conv=>lhs;whnf
   rw[Dl zaa]
   conv=>lhs;whnf
   rw[Aa hb];refine tq ?_;exact ih
theorem WQ(b0 b1:List (List UInt8))(u s0 s1:Int)(acc:List UInt8)(ha:acc.length<=20000)(h:s1=0\/b1.length=16)(hm:∀ x∈b1,x.length<=1000):∀(n j:Nat),j+n=16->Y E0 (.loop 12 2 0 3 [(2,AV.pa 0 0),(3,AV.pa 1 0),(7,AV.nm 2),(8,AV.i 1),(9,AV.i (j:Int))] [(0,some (Rs.var [AV.sl Ty.u8.sl.sl [b0,b1],AV.i u])),(1,some (Rs.var [AV.i s0,AV.i s1])),(2,some (Rs.row 5 Ty.u8 (acc++OB s1 b1 j)))])=some (.fin (.exit 4) 3 [(2,AV.pa 0 0),(3,AV.pa 1 0),(7,AV.nm 2),(8,AV.i 1)] [(0,some (Rs.var [AV.sl Ty.u8.sl.sl [b0,b1],AV.i u])),(1,some (Rs.var [AV.i s0,AV.i s1])),(2,some (Rs.row 5 Ty.u8 (acc++OC s1 b1)))])
 | 0,j,hj=>by
  obtain rfl:j=16:=zaa
  refine tq ?_
  rfl
 | n+1,j,hj=>by
  have ih:=WQ b0 b1 u s0 s1 acc ha h hm n (j+1) zaa
  rw[show((j+1:Nat):Int)=(j:Int)+1 from by omega,OB] at ih
  have hle:=Ua (s:=s1) hm j
  by_cases hb:BC .and (Bi s1 (BZ ((j:Nat):Int)).toNat) 1=1
  ·have hs:b1.length=16:=by
    rcases h with h|h
    ·subst h;rw[cO j zaa] at hb;cases hb
    ·exact h
   rw[if_pos hb,<-List.append_assoc] at ih
   have hg:Ap b1 (j:Int)=some (b1.getD j []):=by rw[JC zaa];simp[List.getD,List.getElem?_eq_getElem (show j<b1.length by omega)]
   have hx:(b1.getD j []).length<=1000:=by
    have:=hm _ (List.getElem_mem (show j<b1.length by omega))
    simpa [List.getD,List.getElem?_eq_getElem (show j<b1.length by omega)] using this
   have happ:BF (acc++OB s1 b1 j) (b1.getD j [])=acc++OB s1 b1 j++b1.getD j []:=Ac _ _
   rw[AL];conv=>lhs;whnf
   rw[Dl zaa]
   conv=>lhs;whnf
   try dsimp -iota -beta -eta -zeta only
   rw[Fb zaa]
   conv=>lhs;whnf
   rw[Dl zaa]
   conv=>lhs;whnf
   rw[Dz hb];refine to ?_;rw[hg];refine tq ?_;rw[happ];exact ih
  ·rw[if_neg hb,List.append_nil] at ih
   rw[AL];conv=>lhs;whnf
   rw[Dl zaa]
   conv=>lhs;whnf
   try dsimp -iota -beta -eta -zeta only
   rw[Fb zaa]
   conv=>lhs;whnf
   rw[Dl zaa]
   conv=>lhs;whnf
   rw[Aa hb];refine tq ?_;exact ih
theorem Qn{s:Int}{b:List (List UInt8)}(h:∀ x∈b,x.length<=1000):(OC s b).length<=16000:=Ua h 16
theorem pX(b0 b1:List (List UInt8))(u s0 s1:Int)(h0:b0=[]\/Eg 20 b0)(h1:b1=[]\/Eg 32 b1):EC E0 (.loop 12 1 0 3 [(2,AV.pa 0 0),(3,AV.pa 1 0),(7,AV.nm 2),(8,AV.i 0)] [(0,some (Rs.var [AV.sl Ty.u8.sl.sl [b0,b1],AV.i u])),(1,some (Rs.var [AV.i s0,AV.i s1])),(2,some (Rs.row 5 Ty.u8 []))]) fun r=>(∃ x:List UInt8,(¬((s0=0\/0<b0.length)/\(s1=0\/0<b1.length)))/\r=some (.fin .ret 1 [(3,AV.pa 0 0),(4,AV.nil),(5,AV.i 27),(7,AV.sl Ty.u8 x)] [(0,some (Rs.var [AV.i s0,AV.i s1]))]))\/(((s0=0\/0<b0.length)/\(s1=0\/0<b1.length))/\r=some (.fin (.exit 2) 1 [(3,AV.pa 0 0),(7,AV.sl Ty.u8 (OC s0 b0++OC s1 b1))] [(0,some (Rs.var [AV.i s0,AV.i s1]))])):=by
 have q0:=yc h0
 have q1:=yc h1
 have k0:=(WO h0 zaj).2
 have k1:=(WO h1 zaj).2
 have e0:=fun h=>WP b0 b1 u s0 s1 [] zat h k0 16 0 zaa
 have e1:=fun h=>WQ b0 b1 u s0 s1 (OC s0 b0) (by have:=Qn (s:=s0) k0;omega) h k1 16 0 zaa
 simp only[List.nil_append,show OB s0 b0 0=[] from rfl,show OB s1 b1 0=[] from rfl,List.append_nil,show((0:Nat):Int)=0 from rfl] at e0 e1
 refine G5 fun P hP=>?_
 refine tw ?_
 rcases CE s0 0 with hc0|hc0
 ·refine tw ?_;rw[A16 _ _ _ AA];refine tw ?_
  rcases Decidable.em (0<b0.length) with hc1|hc1
  ·refine tw ?_;rw[e0 zaa];refine tw ?_;refine tw ?_
   rcases CE s1 0 with hc2|hc2
   ·refine tw ?_;rw[bu _ _ _ _ AA];refine tw ?_
    rcases Decidable.em (0<b1.length) with hc3|hc3
    ·refine tw ?_;rw[e1 zaa];refine tw ?_;refine tw ?_;exact hP _ (Or.inr ⟨AA,rfl⟩)
    refine tw ?_;exact hP _ (Or.inl ⟨OC s0 b0,AA,rfl⟩)
   subst hc2;refine tw ?_;rw[e1 zaa];refine tw ?_;refine tw ?_;exact hP _ (Or.inr ⟨AA,rfl⟩)
  refine tw ?_;exact hP _ (Or.inl ⟨[],AA,rfl⟩)
 subst hc0;refine tw ?_;rw[e0 zaa];refine tw ?_;refine tw ?_
 rcases CE s1 0 with hc4|hc4
 ·refine tw ?_;rw[bu _ _ _ _ AA];refine tw ?_
  rcases Decidable.em (0<b1.length) with hc5|hc5
  ·refine tw ?_;rw[e1 zaa];refine tw ?_;refine tw ?_;exact hP _ (Or.inr ⟨AA,rfl⟩)
  refine tw ?_;exact hP _ (Or.inl ⟨OC 0 b0,AA,rfl⟩)
 subst hc4;refine tw ?_;rw[e1 zaa];refine tw ?_;refine tw ?_;exact hP _ (Or.inr ⟨AA,rfl⟩)
end
end Go.Proofs.YtlpkjhhfhannpaaGreatDoor
