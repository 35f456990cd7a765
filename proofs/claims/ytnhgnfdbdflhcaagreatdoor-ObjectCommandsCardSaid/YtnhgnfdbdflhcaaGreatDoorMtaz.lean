/-
  Own texts, laid together for this claim: contracts of functions of the program and its references, used by the statements of this seat.
-/
import Derived.Test.YtnhgnfdbdflhcaaGreatDoorMtab
import Derived.Test.YtnhgnfdbdflhcaaGreatDoorMtad
import Derived.Test.YtnhgnfdbdflhcaaGreatDoorMtae
import Derived.Test.YtnhgnfdbdflhcaaGreatDoorMtaf
import Derived.Test.YtnhgnfdbdflhcaaGreatDoorMtag
import Derived.Test.YtnhgnfdbdflhcaaGreatDoorMtah
import Derived.Test.YtnhgnfdbdflhcaaGreatDoorMtai
import Derived.Test.YtnhgnfdbdflhcaaGreatDoorMtaj
import Derived.Test.YtnhgnfdbdflhcaaGreatDoorMtao
import Derived.Test.YtnhgnfdbdflhcaaGreatDoorMtaw
set_option linter.all false
set_option maxHeartbeats 40000000
set_option maxRecDepth 100000
namespace Go.Ax
open Go.Eng
noncomputable def Ob(s:Int)(b:List (List UInt8)):Nat->List UInt8
 | 0=>[]
 | j+1=>Ob s b j++(if BA .and (CS s (Bl ((j:Nat):Int)).toNat) 1=1 then b.getD j [] else [])
theorem VN{s:Int}{b:List (List UInt8)}(h:∀ x∈b,x.length<=1000):∀ j,(Ob s b j).length<=1000*j
 | 0=>by simp[Ob]
 | j+1=>by
  have ih:=VN (s:=s) h j
  rw[Ob,List.length_append]
  split
  ·have hb:(b.getD j []).length<=1000:=by
    by_cases hj:j<b.length
    ·have:=h _ (List.getElem_mem hj)
     simpa [List.getD,List.getElem?_eq_getElem hj] using this
    ·simp[List.getD,List.getElem?_eq_none (show b.length<=j by omega)]
   omega
  ·simp only[List.length_nil];omega
noncomputable def NW(s:Int)(b:List (List UInt8)):List UInt8:=Ob s b 16
noncomputable def X7(s0 s1:Int)(b0 b1:List (List UInt8)):List UInt8:=sha256 (Ar 5 [BV (BV [] 2 s0) 2 s1,NW s0 b0++NW s1 b1])
theorem A3t(par s:Sen)(p:Pub):(Ea par p s).length<=1200:=by
 unfold Ea
 have hn:=Aa p
 by_cases h:1024<(PG s).length
 ·rw[NH,if_pos (.inr h)];simp
 ·rw[Ws za5 zaa,List.length_take];omega
end Go.Ax
namespace Go.Proofs.YtnhgnfdbdflhcaaGreatDoor
open Go Go.Ax Go.Eng
variable (b0 b1:List (List UInt8))(u s0 s1:Int)
section
attribute [local irreducible] Cc Dn D7 DU DD BA Dp F7 FY FD Ez Ci CS DK DV and' DW DL C9 BR Bh CB CG BG BI Aw BC Dq Fh Dt ER DX Bl CE Bv Bz Bi Az Bg BK Bj BO Du Bc DF BZ BM Cj Di fits Dv Dk Ac Am BH
attribute [local irreducible] Dw CJ Be nameB EL Eh Ar
theorem Xc:Ah E0 (.loop 54 0 0 2 [(2,AV.pa 0 0),(3,AV.pa 1 0),(6,AV.i 0)] [(0,some (Rs.var [AV.sl Ty.u8.sl.sl [b0,b1],AV.i u])),(1,some (Rs.var [AV.i s0,AV.i s1]))]) fun r=>(¬(0<=s0/\s0<=65535/\0<=s1/\s1<=65535)/\r=some (.fin .ret 2 [(2,.pa 0 0),(3,.pa 1 0),(4,.nil),(5,.i 1)] [(0,some (Rs.var [AV.sl Ty.u8.sl.sl [b0,b1],AV.i u])),(1,some (Rs.var [AV.i s0,AV.i s1]))]))\/((0<=s0/\s0<=65535/\0<=s1/\s1<=65535)/\r=some (.fin (.exit 0) 2 [(2,.pa 0 0),(3,.pa 1 0)] [(0,some (Rs.var [AV.sl Ty.u8.sl.sl [b0,b1],AV.i u])),(1,some (Rs.var [AV.i s0,AV.i s1]))])):=by
 refine CU fun P hP=>?_
 refine tw ?_
 rcases AZ s0 0 with hc0|hc0
 ·refine tw ?_;exact hP _ (Or.inl ⟨A7,rfl⟩)
 refine tw ?_
 rcases AZ 65535 s0 with hc1|hc1
 ·refine tw ?_;exact hP _ (Or.inl ⟨A7,rfl⟩)
 refine tw ?_;refine tw ?_
 rcases AZ s1 0 with hc2|hc2
 ·refine tw ?_;exact hP _ (Or.inl ⟨A7,rfl⟩)
 refine tw ?_
 rcases AZ 65535 s1 with hc3|hc3
 ·refine tw ?_;exact hP _ (Or.inl ⟨A7,rfl⟩)
 refine tw ?_;refine tw ?_;exact hP _ (Or.inr ⟨A7,rfl⟩)
theorem Zz:∀ i<16,BA .and (CS 0 (Bl ((i:Nat):Int)).toNat) 1=0:=by
 rw[Q5,fP,GK]
 decide +kernel
theorem Xd(b0 b1:List (List UInt8))(u s0 s1:Int)(acc:List UInt8)(ha:acc.length<=20000)(h:s0=0\/b0.length=16)(hm:∀ x∈b0,x.length<=1000):∀(n j:Nat),j+n=16->Y E0 (.loop 54 2 0 3 [(2,AV.pa 0 0),(3,AV.pa 1 0),(7,AV.nm 2),(8,AV.i 0),(9,AV.i (j:Int))] [(0,some (Rs.var [AV.sl Ty.u8.sl.sl [b0,b1],AV.i u])),(1,some (Rs.var [AV.i s0,AV.i s1])),(2,some (Rs.row 5 Ty.u8 (acc++Ob s0 b0 j)))])=some (.fin (.exit 4) 3 [(2,AV.pa 0 0),(3,AV.pa 1 0),(7,AV.nm 2),(8,AV.i 0)] [(0,some (Rs.var [AV.sl Ty.u8.sl.sl [b0,b1],AV.i u])),(1,some (Rs.var [AV.i s0,AV.i s1])),(2,some (Rs.row 5 Ty.u8 (acc++NW s0 b0)))])
 | 0,j,hj=>by
  obtain rfl:j=16:=zaa
  refine tq ?_
  rfl
 | n+1,j,hj=>by
  have ih:=Xd b0 b1 u s0 s1 acc ha h hm n (j+1) zaa
  rw[show((j+1:Nat):Int)=(j:Int)+1 from by omega,Ob] at ih
  have hle:=VN (s:=s0) hm j
  by_cases hb:BA .and (CS s0 (Bl ((j:Nat):Int)).toNat) 1=1
  ·have hs:b0.length=16:=by
    rcases h with h|h
    ·subst h;rw[Zz j zaa] at hb;cases hb
    ·exact h
   rw[if_pos hb,<-List.append_assoc] at ih
   have hg:BO b0 (j:Int)=some (b0.getD j []):=by rw[Fe zaa];simp[List.getD,List.getElem?_eq_getElem (show j<b0.length by omega)]
   have hx:(b0.getD j []).length<=1000:=by
    have:=hm _ (List.getElem_mem (show j<b0.length by omega))
    simpa [List.getD,List.getElem?_eq_getElem (show j<b0.length by omega)] using this
   have happ:BM (acc++Ob s0 b0 j) (b0.getD j [])=acc++Ob s0 b0 j++b0.getD j []:=Ag _ _
   rw[Ad];conv=>lhs;whnf
   rw[EZ zaa]
   conv=>lhs;whnf
   try dsimp -iota -beta -eta -zeta only
   rw[Gm zaa]
   conv=>lhs;whnf
   rw[EZ zaa]
   conv=>lhs;whnf
   rw[EH hb];refine to ?_;rw[hg];refine tq ?_;rw[happ];exact ih
  ·rw[if_neg hb,List.append_nil] at ih
   rw[Ad];conv=>lhs;whnf
   rw[EZ zaa]
   conv=>lhs;whnf
   try dsimp -iota -beta -eta -zeta only
   rw[Gm zaa]
   conv=>lhs;whnf
   rw[EZ zaa]
   conv=>lhs;whnf
   rw[AA hb];refine tq ?_;exact ih
theorem Xe(b0 b1:List (List UInt8))(u s0 s1:Int)(acc:List UInt8)(ha:acc.length<=20000)(h:s1=0\/b1.length=16)(hm:∀ x∈b1,x.length<=1000):∀(n j:Nat),j+n=16->Y E0 (.loop 54 2 0 3 [(2,AV.pa 0 0),(3,AV.pa 1 0),(7,AV.nm 2),(8,AV.i 1),(9,AV.i (j:Int))] [(0,some (Rs.var [AV.sl Ty.u8.sl.sl [b0,b1],AV.i u])),(1,some (Rs.var [AV.i s0,AV.i s1])),(2,some (Rs.row 5 Ty.u8 (acc++Ob s1 b1 j)))])=some (.fin (.exit 4) 3 [(2,AV.pa 0 0),(3,AV.pa 1 0),(7,AV.nm 2),(8,AV.i 1)] [(0,some (Rs.var [AV.sl Ty.u8.sl.sl [b0,b1],AV.i u])),(1,some (Rs.var [AV.i s0,AV.i s1])),(2,some (Rs.row 5 Ty.u8 (acc++NW s1 b1)))])
 | 0,j,hj=>by
  obtain rfl:j=16:=zaa
  refine tq ?_
  rfl
 | n+1,j,hj=>by
  have ih:=Xe b0 b1 u s0 s1 acc ha h hm n (j+1) zaa
  rw[show((j+1:Nat):Int)=(j:Int)+1 from by omega,Ob] at ih
  have hle:=VN (s:=s1) hm j
  by_cases hb:BA .and (CS s1 (Bl ((j:Nat):Int)).toNat) 1=1
  ·have hs:b1.length=16:=by
    rcases h with h|h
    ·subst h;rw[Zz j zaa] at hb;cases hb
    ·exact h
   rw[if_pos hb,<-List.append_assoc] at ih
   have hg:BO b1 (j:Int)=some (b1.getD j []):=by rw[Fe zaa];simp[List.getD,List.getElem?_eq_getElem (show j<b1.length by omega)]
   have hx:(b1.getD j []).length<=1000:=by
    have:=hm _ (List.getElem_mem (show j<b1.length by omega))
    simpa [List.getD,List.getElem?_eq_getElem (show j<b1.length by omega)] using this
   have happ:BM (acc++Ob s1 b1 j) (b1.getD j [])=acc++Ob s1 b1 j++b1.getD j []:=Ag _ _
   rw[Ad];conv=>lhs;whnf
   rw[EZ zaa]
   conv=>lhs;whnf
   try dsimp -iota -beta -eta -zeta only
   rw[Gm zaa]
   conv=>lhs;whnf
   rw[EZ zaa]
   conv=>lhs;whnf
   rw[EH hb];refine to ?_;rw[hg];refine tq ?_;rw[happ];exact ih
  ·rw[if_neg hb,List.append_nil] at ih
   rw[Ad];conv=>lhs;whnf
   rw[EZ zaa]
   conv=>lhs;whnf
   try dsimp -iota -beta -eta -zeta only
   rw[Gm zaa]
   conv=>lhs;whnf
   rw[EZ zaa]
   conv=>lhs;whnf
   rw[AA hb];refine tq ?_;exact ih
theorem Nr{s:Int}{b:List (List UInt8)}(h:∀ x∈b,x.length<=1000):(NW s b).length<=16000:=VN h 16
theorem Xf(h0:b0=[]\/Fg 20 b0)(h1:b1=[]\/Fg 32 b1):Ah E0 (.loop 54 1 0 3 [(2,AV.pa 0 0),(3,AV.pa 1 0),(7,AV.nm 2),(8,AV.i 0)] [(0,some (Rs.var [AV.sl Ty.u8.sl.sl [b0,b1],AV.i u])),(1,some (Rs.var [AV.i s0,AV.i s1])),(2,some (Rs.row 5 Ty.u8 []))]) fun r=>(∃ x:List UInt8,(¬((s0=0\/0<b0.length)/\(s1=0\/0<b1.length)))/\r=some (.fin .ret 1 [(3,AV.pa 0 0),(4,AV.nil),(5,AV.i 27),(7,AV.sl Ty.u8 x)] [(0,some (Rs.var [AV.i s0,AV.i s1]))]))\/(((s0=0\/0<b0.length)/\(s1=0\/0<b1.length))/\r=some (.fin (.exit 2) 1 [(3,AV.pa 0 0),(7,AV.sl Ty.u8 (NW s0 b0++NW s1 b1))] [(0,some (Rs.var [AV.i s0,AV.i s1]))])):=by
 have q0:=Nq h0
 have q1:=Nq h1
 have k0:=(Jv h0 zal).2
 have k1:=(Jv h1 zal).2
 have e0:=fun h=>Xd b0 b1 u s0 s1 [] zam h k0 16 0 zaa
 have e1:=fun h=>Xe b0 b1 u s0 s1 (NW s0 b0) (by have:=Nr (s:=s0) k0;omega) h k1 16 0 zaa
 simp only[List.nil_append,show Ob s0 b0 0=[] from rfl,show Ob s1 b1 0=[] from rfl,List.append_nil,show((0:Nat):Int)=0 from rfl] at e0 e1
 refine CU fun P hP=>?_
 refine tw ?_
 rcases AX s0 0 with hc0|hc0
 ·refine tw ?_;rw[Ky _ _ _ A7];refine tw ?_
  rcases Decidable.em (0<b0.length) with hc1|hc1
  ·refine tw ?_;rw[e0 zaa];refine tw ?_;refine tw ?_
   rcases AX s1 0 with hc2|hc2
   ·refine tw ?_;rw[Gi _ _ _ _ A7];refine tw ?_
    rcases Decidable.em (0<b1.length) with hc3|hc3
    ·refine tw ?_;rw[e1 zaa];refine tw ?_;refine tw ?_;exact hP _ (Or.inr ⟨A7,rfl⟩)
    refine tw ?_;exact hP _ (Or.inl ⟨NW s0 b0,A7,rfl⟩)
   subst hc2;refine tw ?_;rw[e1 zaa];refine tw ?_;refine tw ?_;exact hP _ (Or.inr ⟨A7,rfl⟩)
  refine tw ?_;exact hP _ (Or.inl ⟨[],A7,rfl⟩)
 subst hc0;refine tw ?_;rw[e0 zaa];refine tw ?_;refine tw ?_
 rcases AX s1 0 with hc4|hc4
 ·refine tw ?_;rw[Gi _ _ _ _ A7];refine tw ?_
  rcases Decidable.em (0<b1.length) with hc5|hc5
  ·refine tw ?_;rw[e1 zaa];refine tw ?_;refine tw ?_;exact hP _ (Or.inr ⟨A7,rfl⟩)
  refine tw ?_;exact hP _ (Or.inl ⟨NW 0 b0,A7,rfl⟩)
 subst hc4;refine tw ?_;rw[e1 zaa];refine tw ?_;refine tw ?_;exact hP _ (Or.inr ⟨A7,rfl⟩)
theorem o9(h0:b0=[]\/Fg 20 b0)(h1:b1=[]\/Fg 32 b1):Ah E0 (.call 54 [PM [b0,b1] u,.agg [.i s0,.i s1]] []) fun r=>(∃ e:Int,(e≠0/\¬((0<=s0/\s0<=65535/\0<=s1/\s1<=65535)/\(s0=0\/0<b0.length)/\(s1=0\/0<b1.length)))/\r=some (.ret (.tup [.sl .u8 [],.i e]) []))\/(((0<=s0/\s0<=65535/\0<=s1/\s1<=65535)/\(s0=0\/0<b0.length)/\(s1=0\/0<b1.length))/\r=some (.ret (.tup [.sl .u8 (X7 s0 s1 b0 b1),.i 0]) [])):=by
 have k0:=(Jv h0 zal).2
 have k1:=(Jv h1 zal).2
 have l0:=Nr (s:=s0) k0
 have l1:=Nr (s:=s1) k1
 have hf:(Ar 5 [BV (BV [] 2 s0) 2 s1,NW s0 b0++NW s1 b1]).length<=4294967295:=zbk
 refine CU fun P hP=>tw ?_
 obtain(⟨h0_0,yy0⟩|⟨⟨h0_1,h0_2,h0_3,h0_4⟩,yy0⟩):=Xc b0 b1 u s0 s1
 ·refine Aq yy0 ?_;exact hP _ (Or.inl ⟨1,A7,rfl⟩)
 refine Aq yy0 ?_
 obtain(⟨x1,h1_1,yy1⟩|⟨⟨h1_2,h1_3⟩,yy1⟩):=Xf b0 b1 u s0 s1 A7 A7
 ·refine Aq yy1 ?_;exact hP _ (Or.inl ⟨27,A7,rfl⟩)
 refine Aq yy1 ?_;rw[CP _ _ _ A7];refine tw ?_;rw[CP _ _ _ A7];refine tw ?_;rw[F5 _ _ hf zam];refine tw ?_;exact hP _ (Or.inr ⟨A7,rfl⟩)
end
end Go.Proofs.YtnhgnfdbdflhcaaGreatDoor
