/-
  Own texts, laid together for this claim: contracts of functions of the program and its references, used by the statements of this seat.
-/
import Derived.Test.YtanagnimhaemgaaGreatDoorQtac
import Derived.Test.YtanagnimhaemgaaGreatDoorQtae
import Derived.Test.YtanagnimhaemgaaGreatDoorQtaf
import Derived.Test.YtanagnimhaemgaaGreatDoorQtag
import Derived.Test.YtanagnimhaemgaaGreatDoorQtai
import Derived.Test.YtanagnimhaemgaaGreatDoorQtaj
import Derived.Test.YtanagnimhaemgaaGreatDoorQtak
import Derived.Test.YtanagnimhaemgaaGreatDoorQtaq
import Derived.Test.YtanagnimhaemgaaGreatDoorQtat
import Derived.Test.YtanagnimhaemgaaGreatDoorQtav
import Derived.Test.YtanagnimhaemgaaGreatDoorQtay
set_option linter.all false
set_option maxHeartbeats 40000000
set_option maxRecDepth 100000
namespace Go.Proofs.YtanagnimhaemgaaGreatDoor
open Go Go.Ax Go.Eng
variable (b b0 b1:List (List UInt8))(u i s0 s1:Int)
section
attribute [local irreducible] Bl CQ CS Bo Bg Ar CU Dw EN Dy EC Bf BU Bv Bz and' C9 CB BK Au BA BL BN Aa Ad AP AZ CV Dq CW DI CE BP BM BF BG BB AU BC Ae Ap Ai CX BH Bh Ba BO CG CY CJ fits CZ CO A8 AA Ac
attribute [local irreducible] Aw Di DC nameB EL EJ Ag Ei Eo FU FD Fb BQ Iu ES G6 Ef FN JS H8 NM NP FM
theorem ww:Ar .or 0 (Bf 1 (BP 0).toNat)=1/\Ar .or 0 (Bf 1 (BP (0+1)).toNat)=2/\Ar .or 1 (Bf 1 (BP (0+1)).toNat)=3:=by
 rw[NF,X4,F6]
 decide +kernel
def eU(b0 b1:List (List UInt8)):Int:=(if b0.length=16 then 1 else 0)+(if b1.length=16 then 2 else 0)
theorem YO(h0:b0.length=0\/b0.length=16)(h1:b1.length=0\/b1.length=16):Y E0 (.call 155 [.agg [.sl (.sl (.sl .u8)) [b0,b1],.i u]] [])=some (.ret (.i (eU b0 b1)) []):=by
 have hg1:Ai [b0,b1] (0+1)=some b1:=YF _ _ _
 have hq:Y E0 (.loop 155 0 0 1 [(1,.pa 0 0),(3,.i 0),(7,.i (Ap [b0,b1])),(8,.i 0)] [(0,some (.var [.sl (.sl (.sl .u8)) [b0,b1],.i u]))])=some (.fin (.exit 0) 0 [(3,.i (eU b0 b1))] []):=by
  unfold eU
  rcases h0 with h0|h0<;>rcases h1 with h1|h1
  ·rw[if_neg zaa,if_neg zaa];refine tq ?_;refine tq ?_;rw[hg1];refine tq ?_;refine tq ?_
   rfl
  ·rw[if_neg zaa,if_pos h1];refine tq ?_;refine tq ?_;rw[hg1];refine tq ?_;refine tq ?_
   (rw[ww.2.1];rfl)
  ·rw[if_pos h0,if_neg zaa];refine tq ?_;refine tq ?_;rw[hg1];refine tq ?_;refine tq ?_
   (rw[ww.1];rfl)
  ·rw[if_pos h0,if_pos h1];refine tq ?_;refine tq ?_;rw[hg1];refine tq ?_;refine tq ?_
   (rw[ww.1,ww.2.2];rfl)
 refine tq ?_;rw[hq];exact tq rfl
theorem V8:(∀ v:Int,v=0\/v=2->Ar .and (BU v (BP 0).toNat) 1=0)/\(∀ v:Int,v=1\/v=3->Ar .and (BU v (BP 0).toNat) 1=1)/\(∀ v:Int,v=0\/v=1->Ar .and (BU v (BP 1).toNat) 1=0)/\(∀ v:Int,v=2\/v=3->Ar .and (BU v (BP 1).toNat) 1=1):=by
 rw[NF,UO,F6]
 refine⟨?_,?_,?_,?_⟩<;>(rintro v (rfl|rfl)<;>decide +kernel)
theorem wz(h0:b0.length=0\/b0.length=16)(h1:b1.length=0\/b1.length=16):Y E0 (.call 283 [.agg [.sl (.sl (.sl .u8)) [b0,b1],.i u],.i 0] [])=some (.ret (.b (decide (0<b0.length))) []):=by
 have hb:Ar .and (BU (eU b0 b1) (BP 0).toNat) 1=if 0<b0.length then 1 else 0:=by
  unfold eU
  rcases h0 with h0|h0
  ·rw[if_neg (show ¬b0.length=16 by omega),if_neg (show ¬0<b0.length by omega)]
   exact V8.1 _ (by split<;>omega)
  ·rw[if_pos h0,if_pos (show 0<b0.length by omega)]
   exact V8.2.1 _ (by split<;>omega)
 refine tq ?_;rw[YO _ _ _ h0 h1];refine tq ?_;rw[hb]
 (rw[J3];by_cases h:0<b0.length<;>simp[h])
theorem eX(h0:b0.length=0\/b0.length=16)(h1:b1.length=0\/b1.length=16):Y E0 (.call 283 [.agg [.sl (.sl (.sl .u8)) [b0,b1],.i u],.i 1] [])=some (.ret (.b (decide (0<b1.length))) []):=by
 have hb:Ar .and (BU (eU b0 b1) (BP 1).toNat) 1=if 0<b1.length then 1 else 0:=by
  unfold eU
  rcases h1 with h1|h1
  ·rw[if_neg (show ¬b1.length=16 by omega),if_neg (show ¬0<b1.length by omega)]
   exact V8.2.2.1 _ (by split<;>omega)
  ·rw[if_pos h1,if_pos (show 0<b1.length by omega)]
   exact V8.2.2.2 _ (by split<;>omega)
 refine tq ?_;rw[YO _ _ _ h0 h1];refine tq ?_;rw[hb]
 (rw[J3];by_cases h:0<b1.length<;>simp[h])
theorem rP:RY E0 (.loop 256 0 0 3 [(2,.pa 0 0),(3,.pa 1 0),(6,.nil),(7,.nm 2),(13,AV.agg [AV.i s0,AV.i s1]),(14,AV.i 0)] [(0,some (Rs.var [AV.sl Ty.u8.sl.sl [b0,b1],AV.i u])),(1,some (Rs.var [AV.i s0,AV.i s1])),(2,some (Rs.row 5 Ty.u8 []))]) fun r=>(∃ x:AV,(¬(0<=s0/\s0<=65535/\0<=s1/\s1<=65535))/\r=some (.fin .ret 3 [(2,.pa 0 0),(3,.pa 1 0),(4,.nil),(5,.i 1),(6,x),(7,.nm 2)] [(0,some (Rs.var [AV.sl Ty.u8.sl.sl [b0,b1],AV.i u])),(1,some (Rs.var [AV.i s0,AV.i s1])),(2,some (Rs.row 5 Ty.u8 []))]))\/((0<=s0/\s0<=65535/\0<=s1/\s1<=65535)/\r=some (.fin (.exit 0) 3 [(2,AV.pa 0 0),(3,AV.pa 1 0),(6,AV.sl Ty.u8 (BQ (BQ [] 2 s0) 2 s1)),(7,AV.nm 2)] [(0,some (Rs.var [AV.sl Ty.u8.sl.sl [b0,b1],AV.i u])),(1,some (Rs.var [AV.i s0,AV.i s1])),(2,some (Rs.row 5 Ty.u8 []))])):=by
 refine rF fun P hP=>?_
 refine tw ?_
 rcases D7 s0 0 with hc0|hc0
 ·refine tw ?_;exact hP _ (Or.inl ⟨AV.nil,Aq,rfl⟩)
 refine tw ?_
 rcases D7 65535 s0 with hc1|hc1
 ·refine tw ?_;exact hP _ (Or.inl ⟨AV.nil,Aq,rfl⟩)
 refine tw ?_;rw[D5 _ _ _ Aq];refine tw ?_;refine tw ?_
 rcases D7 s1 0 with hc2|hc2
 ·refine tw ?_;exact hP _ (Or.inl ⟨AV.sl Ty.u8 (BQ [] 2 s0),Aq,rfl⟩)
 refine tw ?_
 rcases D7 65535 s1 with hc3|hc3
 ·refine tw ?_;exact hP _ (Or.inl ⟨AV.sl Ty.u8 (BQ [] 2 s0),Aq,rfl⟩)
 refine tw ?_;rw[D5 _ _ _ Aq];refine tw ?_;refine tw ?_;exact hP _ (Or.inr ⟨Aq,rfl⟩)
theorem V9(b0 b1 b:List (List UInt8))(u a s s0 s1:Int)(hd acc:List UInt8)(ha:acc.length<=20000)(hgb:Ai [b0,b1] a=some b)(h:s=0\/b.length=16)(hm:∀ x∈b,x.length<=1000):∀(n j:Nat),j+n=16->Y E0 (.loop 256 2 0 2 [(2,.pa 0 0),(6,.sl .u8 hd),(7,.nm 1),(10,.i a),(11,.i s),(27,.agg [.i s0,.i s1]),(28,.i a),(40,.i (j:Int))] [(0,some (.var [.sl (.sl (.sl .u8)) [b0,b1],.i u])),(1,some (.row 5 .u8 (acc++Ny s b j)))])=some (.fin (.exit 4) 2 [(2,.pa 0 0),(6,.sl .u8 hd),(7,.nm 1),(27,.agg [.i s0,.i s1]),(28,.i a)] [(0,some (.var [.sl (.sl (.sl .u8)) [b0,b1],.i u])),(1,some (.row 5 .u8 (acc++MN s b)))])
 | 0,j,hj=>by
  obtain rfl:j=16:=zaa
  refine tq ?_
  rfl
 | n+1,j,hj=>by
  have ih:=V9 b0 b1 b u a s s0 s1 hd acc ha hgb h hm n (j+1) zaa
  rw[show((j+1:Nat):Int)=(j:Int)+1 from by omega,Ny] at ih
  have hle:=Tz (s:=s) hm j
  by_cases hb:Ar .and (BU s (BP ((j:Nat):Int)).toNat) 1=1
  ·have hs:b.length=16:=by
    rcases h with h|h
    ·subst h;rw[aF j zaa] at hb;cases hb
    ·exact h
   rw[if_pos hb,<-List.append_assoc] at ih
   have hg:Ai b (j:Int)=some (b.getD j []):=by rw[IC zaa];simp[List.getD,List.getElem?_eq_getElem (show j<b.length by omega)]
   have hx:(b.getD j []).length<=1000:=by
    have:=hm _ (List.getElem_mem (show j<b.length by omega))
    simpa [List.getD,List.getElem?_eq_getElem (show j<b.length by omega)] using this
   have happ:BO (acc++Ny s b j) (b.getD j [])=acc++Ny s b j++b.getD j []:=Am _ _
   rw[AO];conv=>lhs;whnf
   rw[Dp zaa]
   conv=>lhs;whnf
   rw[Ff hb];refine tq ?_;rw[hgb];refine to ?_;rw[hg];refine tq ?_;rw[happ];exact ih
  ·rw[if_neg hb,List.append_nil] at ih
   rw[AO];conv=>lhs;whnf
   rw[Dp zaa]
   conv=>lhs;whnf
   rw[Jc hb];refine tq ?_;exact ih
theorem rQ(hd:List UInt8)(h0:b0=[]\/EF 20 b0)(h1:b1=[]\/EF 32 b1):RY E0 (.loop 256 1 0 2 [(2,.pa 0 0),(6,.sl .u8 hd),(7,.nm 1),(27,AV.agg [AV.i s0,AV.i s1]),(28,AV.i 0)] [(0,some (Rs.var [AV.sl Ty.u8.sl.sl [b0,b1],AV.i u])),(1,some (Rs.row 5 Ty.u8 []))]) fun r=>(∃ x:List UInt8,(¬((s0=0\/0<b0.length)/\(s1=0\/0<b1.length)))/\r=some (.fin .ret 0 [(4,.nil),(5,.i 27),(6,.sl .u8 hd),(7,.sl .u8 x)] []))\/(((s0=0\/0<b0.length)/\(s1=0\/0<b1.length))/\r=some (.fin (.exit 2) 0 [(6,.sl .u8 hd),(7,AV.sl Ty.u8 (MN s0 b0++MN s1 b1))] [])):=by
 have q0:=wZ h0
 have q1:=wZ h1
 have k0:=(Og h0 zad).2
 have k1:=(Og h1 zad).2
 have g0:Ai [b0,b1] 0=some b0:=oL _ _
 have g1:Ai [b0,b1] 1=some b1:=YF _ _ _
 have e0:=fun h=>V9 b0 b1 b0 u 0 s0 s0 s1 hd [] zak g0 h k0 16 0 zaa
 have e1:=fun h=>V9 b0 b1 b1 u 1 s1 s0 s1 hd (MN s0 b0) (by have:=NC (s:=s0) k0;omega) g1 h k1 16 0 zaa
 simp only[List.nil_append,show ∀ s b,Ny s b 0=[] from fun _ _=>rfl,List.append_nil,show((0:Nat):Int)=0 from rfl] at e0 e1
 refine rF fun P hP=>?_
 refine tw ?_
 rcases Bj s0 0 with hc0|hc0
 ·refine tw ?_;rw[wz _ _ _ q0 q1];refine tw ?_
  rcases Decidable.em (0<b0.length) with hc1|hc1
  ·refine tw ?_;rw[e0 zaa];refine tw ?_;refine tw ?_
   rcases Bj s1 0 with hc2|hc2
   ·refine tw ?_;rw[eX _ _ _ q0 q1];refine tw ?_
    rcases Decidable.em (0<b1.length) with hc3|hc3
    ·refine tw ?_;rw[e1 zaa];refine tw ?_;refine tw ?_;exact hP _ (Or.inr ⟨Aq,rfl⟩)
    refine tw ?_;exact hP _ (Or.inl ⟨MN s0 b0,Aq,rfl⟩)
   subst hc2;refine tw ?_;rw[e1 zaa];refine tw ?_;refine tw ?_;exact hP _ (Or.inr ⟨Aq,rfl⟩)
  refine tw ?_;exact hP _ (Or.inl ⟨[],Aq,rfl⟩)
 subst hc0;refine tw ?_;rw[e0 zaa];refine tw ?_;refine tw ?_
 rcases Bj s1 0 with hc4|hc4
 ·refine tw ?_;rw[eX _ _ _ q0 q1];refine tw ?_
  rcases Decidable.em (0<b1.length) with hc5|hc5
  ·refine tw ?_;rw[e1 zaa];refine tw ?_;refine tw ?_;exact hP _ (Or.inr ⟨Aq,rfl⟩)
  refine tw ?_;exact hP _ (Or.inl ⟨MN 0 b0,Aq,rfl⟩)
 subst hc4;refine tw ?_;rw[e1 zaa];refine tw ?_;refine tw ?_;exact hP _ (Or.inr ⟨Aq,rfl⟩)
theorem xA(h0:b0=[]\/EF 20 b0)(h1:b1=[]\/EF 32 b1):RY E0 (.call 256 [.agg [.sl (.sl (.sl .u8)) [b0,b1],.i u],.agg [.i s0,.i s1]] []) fun r=>(∃ e:Int,(e=1/\¬(0<=s0/\s0<=65535/\0<=s1/\s1<=65535)\/e=27/\(0<=s0/\s0<=65535/\0<=s1/\s1<=65535)/\¬((s0=0\/0<b0.length)/\(s1=0\/0<b1.length)))/\r=some (.ret (.tup [.sl .u8 [],.i e]) []))\/(((0<=s0/\s0<=65535/\0<=s1/\s1<=65535)/\(s0=0\/0<b0.length)/\(s1=0\/0<b1.length))/\r=some (.ret (.tup [.sl .u8 (U0 s0 s1 b0 b1),.i 0]) [])):=by
 have k0:=(Og h0 zad).2
 have k1:=(Og h1 zad).2
 have l0:=NC (s:=s0) k0
 have l1:=NC (s:=s1) k1
 have hf:(Ag 5 [BQ (BQ [] 2 s0) 2 s1,MN s0 b0++MN s1 b1]).length<=4294967295:=zaX
 refine rF fun P hP=>tw ?_
 obtain(⟨x0,h0_1,yy0⟩|⟨⟨h0_2,h0_3,h0_4,h0_5⟩,yy0⟩):=rP b0 b1 u s0 s1
 ·refine oM yy0 ?_;exact hP _ (Or.inl ⟨1,Aq,rfl⟩)
 refine oM yy0 ?_
 obtain(⟨x1,h1_1,yy1⟩|⟨⟨h1_2,h1_3⟩,yy1⟩):=rQ b0 b1 u s0 s1 (BQ (BQ [] 2 s0) 2 s1) Aq Aq
 ·refine oM yy1 ?_;exact hP _ (Or.inl ⟨27,Aq,rfl⟩)
 refine oM yy1 ?_;rw[Eu _ _ hf zak];refine tw ?_;exact hP _ (Or.inr ⟨Aq,rfl⟩)
end
section
attribute [local irreducible] Bl CQ CS Bo Bg Ar CU Dw EN Dy EC Bf BU Bv Bz and' C9 CB BK Au BA BL BN Aa Ad AP AZ CV Dq CW DI CE BP BM BF BG BB AU BC Ae Ap Ai CX BH Bh Ba BO CG CY CJ fits CZ CO A8 AA Ac
theorem O3(x:UInt8):Y E0 (.call 210 [.i 32,.u8 x] [])=some (.ret (.sl .u8 (List.replicate 32 x)) []):=by
 refine tq ?_
 refine tq ?_
 with_reducible rfl
theorem b20:Ar .and (BU 2 (BP 0).toNat) 1=0:=by
 rw[show(BP 0).toNat=0 from by rw[Ip];rfl,Hf zaa];exact(I5 1 zad _).trans zak
theorem b21:Ar .and (BU 2 (BP 1).toNat) 1=1:=by
 rw[show(BP 1).toNat=1 from by rw[Ip];rfl,Hf zaa];exact(I5 1 zad _).trans zak
theorem KN:Y E0 (.call 171 [.i 1] [])=some (.ret (.i 32) []):=by
 refine tq ?_
 with_reducible rfl
theorem A3i:Y E0 (.loop 170 1 0 3 [(0,.i 2),(2,.pa 0 0),(3,.pa 1 0),(4,.i 0),(5,.nm 2),(6,.i 0),(12,.i 0)] [(0,some (.var [.nil,.i 0])),(1,some (.var [.nil,.i 0])),(2,some (.row 22 (.sl .u8) []))])=some (.fin (.exit 2) 3 [(0,.i 2),(2,.pa 0 0),(3,.pa 1 0),(5,.nm 2),(12,.i 0)] [(0,some (.var [.nil,.i 0])),(1,some (.var [.nil,.i 0])),(2,some (.row 22 (.sl .u8) []))]):=by
 have b:=b20
 rw[AO];conv=>lhs;whnf
 refine tq ?_
 with_reducible rfl
theorem lV:∀(k j:Nat),j+k=16->Y E0 (.loop 170 1 0 5 [(0,.i 2),(2,.pa 0 0),(3,.pa 1 0),(4,.i 1),(5,.nm 2),(6,.i (j:Int)),(12,.i 1)] [(0,some (.var [.nil,.i 0])),(1,some (.var [.nm 3,.i 0])),(2,some (.row 22 (.sl .u8) (Gs 32 j))),(3,some (.rowA 24 1 1 [.nm 4])),(4,some (.row 22 (.sl .u8) []))])=some (.fin (.exit 2) 5 [(0,.i 2),(2,.pa 0 0),(3,.pa 1 0),(5,.nm 2),(12,.i 1)] [(0,some (.var [.nil,.i 0])),(1,some (.var [.nm 3,.i 0])),(2,some (.row 22 (.sl .u8) (Gs 32 16))),(3,some (.rowA 24 1 1 [.nm 4])),(4,some (.row 22 (.sl .u8) []))])
 | 0,j,hj=>by
  have b:=b21
  obtain rfl:j=16:=zaa
  rw[AO];conv=>lhs;whnf
  refine tq ?_
  with_reducible rfl
 | k+1,j,hj=>by
  have b:=b21
  have ih:=lV k (j+1) zaa
  have e:Gs 32 (j+1)=BO (Gs 32 j) [List.replicate 32 (if(12:Int)<=(j:Int) then(255:UInt8) else 0)]:=(YG 1 32 j rfl).symm
  rw[show((j+1:Nat):Int)=(j:Int)+1 from by omega,e] at ih
  by_cases hc:(12:Int)<=(j:Int)
  ·rw[if_pos hc] at ih
   rw[AO];conv=>lhs;whnf
   rw[Dp zaa]
   conv=>lhs;whnf
   rw[b]
   refine tq ?_
   rw[KN]
   refine tq ?_
   rw[O3 _]
   refine tq ?_
   exact ih
  ·rw[if_neg hc] at ih
   rw[AO];conv=>lhs;whnf
   rw[Dp zaa]
   conv=>lhs;whnf
   rw[b]
   refine tq ?_
   rw[KN]
   refine tq ?_
   rw[O3 _]
   refine tq ?_
   exact ih
theorem A6M:Y E0 (.loop 170 0 0 2 [(0,.i 2),(2,.pa 0 0),(3,.pa 1 0),(12,.i 0)] [(0,some (.var [.nil,.i 0])),(1,some (.var [.nil,.i 0]))])=some (.fin (.exit 0) 5 [(2,.pa 0 0),(3,.pa 1 0)] [(0,some (.var [.nil,.i 0])),(1,some (.var [.nm 2,.i 0])),(2,some (.rowA 24 1 2 [.nm 3,.nm 4])),(3,some (.row 22 (.sl .u8) [])),(4,some (.row 22 (.sl .u8) (Gs 32 16)))]):=by
 have q0:=A3i
 have q1:=lV 16 0 rfl
 rw[show((0:Nat):Int)=0 from rfl,show Gs 32 0=[] from rfl] at q1
 refine tq ?_
 rw[q0]
 refine tq ?_
 refine tq ?_
 rw[show(0:Int)+1=1 from rfl,q1]
 refine tq ?_
 exact tq rfl
theorem lW:Y E0 (.call 170 [.i 2] [])=some (.ret (.agg [.nm 0,.i 0]) [some (.rowA 24 1 2 [.nm 1,.nm 2]),some (.row 22 (.sl .u8) []),some (.row 22 (.sl .u8) (Gs 32 16))]):=by
 have e3:Ar .and 2 3=2:=I5 2 zad 2
 rw[AO]
 conv=>lhs;whnf
 rw[e3]
 refine tq ?_
 rw[A6M]
 exact tq rfl
end
section
attribute [local irreducible] Bl CQ CS Bo Bg Ar CU Dw EN Dy EC Bf BU Bv Bz and' C9 CB BK Au BA BL BN Aa Ad AP AZ CV Dq CW DI CE BP BM BF BG BB AU BC Ae Ap Ai CX BH Bh Ba BO CG CY CJ fits CZ CO A8 AA Ac
theorem sJ:Y E0 (.loop 281 1 0 3 [(2,.pa 0 0),(3,.pa 1 0),(6,.nm 2),(13,.sl (.sl (.sl .u8)) [[],b]),(14,.i (Ap [[],b])),(15,.i 0),(19,.sl (.sl .u8) []),(20,.i (Ap ([]:List (List UInt8)))),(21,.i 0)] [(0,some (.var [.nil,.i 0])),(1,some (.var [.nil,.i u])),(2,some (.row 22 (.sl .u8) []))])=some (.fin (.exit 2) 3 [(2,.pa 0 0),(3,.pa 1 0),(6,.nm 2),(13,.sl (.sl (.sl .u8)) [[],b]),(14,.i (Ap [[],b])),(15,.i 0)] [(0,some (.var [.nil,.i 0])),(1,some (.var [.nil,.i u])),(2,some (.row 22 (.sl .u8) []))]):=by
 have e:Ap ([]:List (List UInt8))=0:=zaK
 rw[e]
 rw[AO];conv=>lhs;whnf
 refine tq ?_
 with_reducible rfl
theorem YX(b:List (List UInt8))(u:Int)(h:EF 32 b):∀(k j:Nat),j+k=16->Y E0 (.loop 281 1 0 5 [(2,.pa 0 0),(3,.pa 1 0),(6,.nm 2),(13,.sl (.sl (.sl .u8)) [[],b]),(14,.i (Ap [[],b])),(15,.i 1),(19,.sl (.sl .u8) b),(20,.i (Ap b)),(21,.i (j:Int))] [(0,some (.var [.nil,.i 0])),(1,some (.var [.nm 3,.i u])),(2,some (.row 22 (.sl .u8) (b.take j))),(3,some (.rowA 24 1 1 [.nm 4])),(4,some (.row 22 (.sl .u8) []))])=some (.fin (.exit 2) 5 [(2,.pa 0 0),(3,.pa 1 0),(6,.nm 2),(13,.sl (.sl (.sl .u8)) [[],b]),(14,.i (Ap [[],b])),(15,.i 1)] [(0,some (.var [.nil,.i 0])),(1,some (.var [.nm 3,.i u])),(2,some (.row 22 (.sl .u8) b)),(3,some (.rowA 24 1 1 [.nm 4])),(4,some (.row 22 (.sl .u8) []))])
 | 0,j,hj=>by
  have hb:=h.1
  have hl:Ap b=16:=by rw[AC,hb];rfl
  obtain rfl:j=16:=zaa
  rw[List.take_of_length_le zaa]
  rw[AO];conv=>lhs;whnf
  refine tq ?_
  with_reducible rfl
 | k+1,j,hj=>by
  have hb:=h.1
  have hl:Ap b=16:=by rw[AC,hb];rfl
  have hg:Ai b (j:Int)=some (b[j]'zaa):=IC zaa
  have hx:=h.2 _ (List.getElem_mem (show j<b.length by omega))
  have ih:=YX b u h k (j+1) zaa
  rw[show((j+1:Nat):Int)=(j:Int)+1 from by omega,<-Tv (show j<b.length by omega)] at ih
  rw[AO];conv=>lhs;whnf
  refine tq ?_
  exact ih
theorem zq(h:EF 32 b):Y E0 (.loop 281 0 0 2 [(2,.pa 0 0),(3,.pa 1 0),(13,.sl (.sl (.sl .u8)) [[],b]),(14,.i (Ap [[],b])),(15,.i 0)] [(0,some (.var [.nil,.i 0])),(1,some (.var [.nil,.i u]))])=some (.fin (.exit 0) 5 [(2,.pa 0 0),(3,.pa 1 0)] [(0,some (.var [.nil,.i 0])),(1,some (.var [.nm 2,.i u])),(2,some (.rowA 24 1 2 [.nm 3,.nm 4])),(3,some (.row 22 (.sl .u8) [])),(4,some (.row 22 (.sl .u8) b))]):=by
 have hi:=YX b u h 16 0 rfl
 rw[List.take_zero,show((0:Nat):Int)=0 from rfl] at hi
 obtain⟨h1,h2⟩:=h
 have hg1:Ai [[],b] (0+1)=some b:=YF _ _ _
 refine tq ?_
 rw[sJ]
 refine tq ?_
 refine tq ?_
 rw[hg1]
 refine tq ?_
 rw[show(0:Int)+1=1 from rfl,hi]
 refine tq ?_
 exact tq rfl
theorem xC(h:EF 32 b):Y E0 (.call 281 [Om [[],b] u] [])=some (.ret (.agg [.nm 0,.i u]) [some (.rowA 24 1 2 [.nm 1,.nm 2]),some (.row 22 (.sl .u8) []),some (.row 22 (.sl .u8) b)]):=by
 have e:=zq b u h
 refine tq ?_
 rw[e]
 exact tq rfl
theorem A6N(h:EF 32 b):Y E0 (.call 155 [Om [[],b] u] [])=some (.ret (.i 2) []):=by
 have e:=YO [] b u (.inl rfl) (.inr h.1)
 rw[show eU [] b=2 from by unfold eU;rw[if_neg zak,if_pos h.1];rfl] at e
 exact e
theorem U6(h:EF 32 b):Y E0 (.call 283 [Om [[],b] u,.i 0] [])=some (.ret (.b false) []):=wz [] b u (.inl rfl) (.inr h.1)
theorem U7(h:EF 32 b):Y E0 (.call 283 [Om [[],b] u,.i 1] [])=some (.ret (.b true) []):=by
 have e:=eX [] b u (.inl rfl) (.inr h.1)
 rw[decide_eq_true (by have:=h.1;omega)] at e
 exact e
theorem VB(hi:0<=i/\i<16):Y E0 (.call 282 [.i i] [])=some (.ret (.b true) []):=by
 refine tq ?_
 with_reducible rfl
theorem A3j(h:EF 32 b):Y E0 (.call 218 [Om [[],b] u,.i 0,.i 0] [])=some (.ret (.tup [.sl .u8 [],.i 27]) []):=by
 refine tq ?_
 rw[VB _ Aq]
 refine tq ?_
 rw[U6 b u h]
 exact tq rfl
theorem A3k(h:EF 32 b):∃ x,Y E0 (.call 218 [Om [[],b] u,.i 1,.i 0] [])=some (.ret (.tup [.sl .u8 x,.i 0]) []):=by
 have hb:=h.1
 have hg:Ai b 0=some (b[0]'zaa):=D8 (i:=0) zaa
 have hx:=h.2 _ (List.getElem_mem (show 0<b.length by omega))
 refine⟨b[0]'zaa,?_⟩
 refine tq ?_
 rw[VB _ Aq]
 refine tq ?_
 rw[U7 b u h]
 refine tq ?_
 rw[hg]
 exact tq rfl
theorem zt(hi:0<=i/\i<16):∃ n:Int,n<=4/\Y E0 (.call 284 [.i i,.b false] [])=some (.ret (.i n) []):=by
 by_cases h14:i=14
 ·subst h14
  refine⟨2,by omega,?_⟩
  refine tq ?_
  with_reducible rfl
 ·by_cases h15:i=15
  ·subst h15
   refine⟨3,by omega,?_⟩
   refine tq ?_
   with_reducible rfl
  ·refine⟨0,by omega,?_⟩
   refine tq ?_
   with_reducible rfl
theorem lX(h:EF 32 b)(i:Int)(d:List UInt8)(hd:d.length<=100):Y E0 (.loop 220 0 0 3 [(1,AV.i 4),(2,AV.i i),(3,AV.sl Ty.u8 d),(4,AV.pa 0 0),(8,AV.pa 1 0),(10,AV.nm 2),(18,AV.i (Ap (Ba 2 ([]:List UInt8)))),(19,AV.i 0)] [(0,some (Rs.var [AV.sl Ty.u8.sl.sl [[],b],AV.i u])),(1,some (Rs.var [AV.nil,AV.i 0])),(2,some (Rs.row 22 Ty.u8.sl (Ba 2 [])))])=some (.fin (.exit 0) 2 [(1,.i 4),(2,.i i),(4,.pa 0 0),(8,.pa 1 0),(10,.sl (.sl .u8) [[],sha256 d])] [(0,some (.var [.sl (.sl (.sl .u8)) [[],b],.i u])),(1,some (.var [.nil,.i 0]))]):=by
 have e:BH [([]:List UInt8),[]] 1 (sha256 d)=[[],sha256 d]:=by rw[Ea];rfl
 have e2:Ba 2 ([]:List UInt8)=[[],[]]:=zbj
 have e3:Ap [([]:List UInt8),[]]=2:=zaK
 rw[e2,e3]
 refine tq ?_
 rw[U6 b u h]
 refine tq ?_
 refine tq ?_
 rw[show(0:Int)+1=1 from rfl,U7 b u h]
 refine tq ?_
 rw[Gm _ Aq]
 refine tq ?_
 refine tq ?_
 rw[e]
theorem sK(h:EF 32 b)(i:Int)(hi:0<=i/\i<16)(d:List UInt8)(hd:d.length=32):Y E0 (.loop 219 0 0 2 [(2,AV.i i),(3,AV.sl Ty.u8.sl [[],d]),(4,AV.pa 0 0),(8,AV.pa 1 0),(38,AV.sl Ty.u8.sl [[],d]),(39,AV.i (Ap [[],d])),(40,AV.i 0)] [(0,some (Rs.var [AV.sl Ty.u8.sl.sl [[],b],AV.i u])),(1,some (Rs.var [AV.nil,AV.i 0]))])=some (.fin (.exit 0) 2 [(2,AV.i i),(3,AV.sl Ty.u8.sl [[],d]),(4,AV.pa 0 0),(8,AV.pa 1 0)] [(0,some (.var [AV.sl Ty.u8.sl.sl [[],b],AV.i u])),(1,some (.var [AV.nil,AV.i 0]))]):=by
 have hg1:Ai [[],d] (0+1)=some d:=YF _ _ _
 refine tq ?_
 rw[U6 b u h]
 refine tq ?_
 refine tq ?_
 rw[hg1]
 refine tq ?_
 rw[show(0:Int)+1=1 from rfl,U7 b u h]
 refine tq ?_
 exact tq rfl
theorem sN(h:EF 32 b)(i:Int)(hi:0<=i/\i<16)(d:List UInt8)(hd:d.length=32):Y E0 (.loop 219 1 0 2 [(2,AV.i i),(3,AV.sl Ty.u8.sl [[],d]),(4,AV.pa 0 0),(8,AV.pa 1 0),(56,AV.sl Ty.u8.sl [[],d]),(57,AV.i (Ap [[],d])),(58,AV.i 0)] [(0,some (Rs.var [AV.sl Ty.u8.sl.sl [[],b],AV.i u])),(1,some (Rs.var [AV.nil,AV.i 0]))])=some (.fin (.exit 2) 2 [(2,AV.i i),(3,AV.sl Ty.u8.sl [[],d]),(4,AV.pa 0 0),(8,AV.pa 1 0)] [(0,some (.var [AV.sl Ty.u8.sl.sl [[],b],AV.i u])),(1,some (.var [AV.nil,AV.i 0]))]):=by
 have hg1:Ai [[],d] (0+1)=some d:=YF _ _ _
 have e:=KN
 refine tq ?_
 rw[U6 b u h]
 refine tq ?_
 refine tq ?_
 rw[hg1]
 refine tq ?_
 rw[show(0:Int)+1=1 from rfl,U7 b u h]
 refine tq ?_
 rw[KN]
 refine tq ?_
 exact tq rfl
theorem A6O{l:List (List UInt8)}{m:Nat}(h:∀ x∈l,x.length<=m):l.flatten.length<=m*l.length:=by
 induction l with
 | nil=>simp
 | cons a l ih =>
  have h1:=ih fun x hx=>h x (List.mem_cons_of_mem _ hx)
  have h2:=h a (List.mem_cons_self ..)
  rw[List.flatten_cons,List.length_append,List.length_cons,Nat.mul_add];omega
theorem A7Y(h:EF 32 b):BQ [DI 2] 8 u++b.flatten=NS [[],b] u:=by
 have ha:A8m [[],b]=2:=by unfold A8m;rw[List.getD_cons_zero,List.getD_cons_succ,List.getD_cons_zero,if_neg zak,if_pos h.1];rfl
 rw[NS,ha,KL,Dh]
 simp
theorem lY(l:List UInt8):Y E0 (.loop 124 1 0 2 [(1,AV.pa 0 0),(3,AV.nm 1),(16,AV.i (Ap [[],b])),(17,AV.i 0),(24,AV.sl Ty.u8.sl []),(25,AV.i (Ap ([]:List (List UInt8)))),(26,AV.i 0)] [(0,some (Rs.var [AV.sl Ty.u8.sl.sl [[],b],AV.i u])),(1,some (Rs.row 5 Ty.u8 l))])=some (.fin (.exit 2) 2 [(1,AV.pa 0 0),(3,AV.nm 1),(16,AV.i (Ap [[],b])),(17,AV.i 0)] [(0,some (Rs.var [AV.sl Ty.u8.sl.sl [[],b],AV.i u])),(1,some (Rs.row 5 Ty.u8 l))]):=by
 have e:Ap ([]:List (List UInt8))=0:=zaK
 rw[e]
 rw[AO];conv=>lhs;whnf
 refine tq ?_
 with_reducible rfl
theorem Vr(b:List (List UInt8))(u:Int)(h:EF 32 b)(l:List UInt8)(hl:l.length<=100):∀(k j:Nat),j+k=16->Y E0 (.loop 124 1 0 2 [(1,AV.pa 0 0),(3,AV.nm 1),(16,AV.i (Ap [[],b])),(17,AV.i 1),(24,AV.sl Ty.u8.sl b),(25,AV.i (Ap b)),(26,AV.i (j:Int))] [(0,some (Rs.var [AV.sl Ty.u8.sl.sl [[],b],AV.i u])),(1,some (Rs.row 5 Ty.u8 (l++(b.take j).flatten)))])=some (.fin (.exit 2) 2 [(1,AV.pa 0 0),(3,AV.nm 1),(16,AV.i (Ap [[],b])),(17,AV.i 1)] [(0,some (Rs.var [AV.sl Ty.u8.sl.sl [[],b],AV.i u])),(1,some (Rs.row 5 Ty.u8 (l++b.flatten)))])
 | 0,j,hj=>by
  have hb:=h.1
  have hl:Ap b=16:=by rw[AC,hb];rfl
  obtain rfl:j=16:=zaa
  rw[List.take_of_length_le zaa]
  rw[AO];conv=>lhs;whnf
  refine tq ?_
  with_reducible rfl
 | k+1,j,hj=>by
  have hb:=h.1
  have hll:Ap b=16:=by rw[AC,hb];rfl
  have hg:Ai b (j:Int)=some (b[j]'zaa):=IC zaa
  have hx:=h.2 _ (List.getElem_mem (show j<b.length by omega))
  have hle:(l++(b.take j).flatten).length<=10000:=by
   rw[List.length_append];have:=A6O (l:=b.take j) (m:=32) (fun x hx=>Nat.le_of_eq (h.2 x (List.mem_of_mem_take hx)));rw[List.length_take] at this;omega
  have ih:=Vr b u h l hl k (j+1) zaa
  rw[show((j+1:Nat):Int)=(j:Int)+1 from by omega,<-Tv (show j<b.length by omega),Am,List.flatten_append,List.flatten_cons,List.flatten_nil,List.append_nil,<-List.append_assoc,<-Am (l++(b.take j).flatten)] at ih
  rw[AO];conv=>lhs;whnf
  refine tq ?_
  exact ih
theorem sO(h:EF 32 b)(l:List UInt8)(hl:l.length<=100):Y E0 (.loop 124 0 0 2 [(1,AV.pa 0 0),(3,AV.nm 1),(16,AV.i (Ap [[],b])),(17,AV.i 0)] [(0,some (Rs.var [AV.sl Ty.u8.sl.sl [[],b],AV.i u])),(1,some (Rs.row 5 Ty.u8 l))])=some (.fin (.exit 0) 0 [(3,.sl .u8 (l++b.flatten))] []):=by
 have hi:=Vr b u h l hl 16 0 rfl
 rw[List.take_zero,List.flatten_nil,List.append_nil,show((0:Nat):Int)=0 from rfl] at hi
 have hg1:Ai [[],b] (0+1)=some b:=YF _ _ _
 refine tq ?_
 rw[lY]
 refine tq ?_
 refine tq ?_
 rw[hg1]
 refine tq ?_
 rw[show(0:Int)+1=1 from rfl,hi]
 refine tq ?_
 exact tq rfl
theorem A3l(h:EF 32 b):Y E0 (.call 124 [Om [[],b] u] [])=some (.ret (.sl .u8 (NS [[],b] u)) []):=by
 have e:=sO b u h (BQ [DI 2] 8 u) (by rw[BD];simp)
 refine tq ?_
 rw[A6N b u h]
 refine tq ?_
 rw[D5 _ _ _ Aq]
 refine tq ?_
 rw[e]
 refine tq ?_
 rw[A7Y b u h]
noncomputable def LH(b:List (List UInt8)):List (List UInt8):=BH (BH (BH (BH b 12 (List.replicate 32 (UInt8.ofNat 255))) (12+1) (List.replicate 32 (UInt8.ofNat 255))) (12+1+1) (List.replicate 32 (UInt8.ofNat 255))) (12+1+1+1) (List.replicate 32 (UInt8.ofNat 255))
theorem sQ(h:EF 32 b):Y E0 (.loop 217 1 0 5 [(2,.pa 0 0),(3,.pa 1 0),(4,AV.i 0),(5,AV.i 12),(10,.i 2),(11,.i 0)] [(0,some (.var [.nil,.i 0])),(1,some (.var [.nm 2,.i u])),(2,some (.rowA 24 1 2 [.nm 3,.nm 4])),(3,some (.row 22 (.sl .u8) [])),(4,some (.row 22 (.sl .u8) b))])=some (.fin (.exit 2) 5 [(2,.pa 0 0),(3,.pa 1 0),(10,.i 2),(11,.i 0)] [(0,some (.var [.nil,.i 0])),(1,some (.var [.nm 2,.i u])),(2,some (.rowA 24 1 2 [.nm 3,.nm 4])),(3,some (.row 22 (.sl .u8) [])),(4,some (.row 22 (.sl .u8) b))]):=by
 exact tq rfl
theorem sS(h:EF 32 b):Y E0 (.loop 217 1 0 5 [(2,.pa 0 0),(3,.pa 1 0),(4,AV.i 1),(5,AV.i 12),(10,.i 2),(11,.i 1)] [(0,some (.var [.nil,.i 0])),(1,some (.var [.nm 2,.i u])),(2,some (.rowA 24 1 2 [.nm 3,.nm 4])),(3,some (.row 22 (.sl .u8) [])),(4,some (.row 22 (.sl .u8) b))])=some (.fin (.exit 2) 5 [(2,.pa 0 0),(3,.pa 1 0),(10,.i 2),(11,.i 1)] [(0,some (.var [.nil,.i 0])),(1,some (.var [.nm 2,.i u])),(2,some (.rowA 24 1 2 [.nm 3,.nm 4])),(3,some (.row 22 (.sl .u8) [])),(4,some (.row 22 (.sl .u8) (LH b)))]):=by
 have hb:=h.1
 have e:=KN
 refine tq ?_
 rw[KN]
 refine tq ?_
 rw[O3 _]
 conv=>lhs;whnf
 rw[GL zaa]
 conv=>lhs;whnf
 rw[D8 zaa]
 conv=>lhs;whnf
 try dsimp -iota -beta -eta -zeta only
 rw[drw zaj];conv=>lhs;whnf
 try dsimp -iota -beta -eta -zeta only
 rw[Bc zaa]
 refine tq ?_
 rw[KN]
 refine tq ?_
 rw[O3 _]
 conv=>lhs;whnf
 rw[GL zao]
 conv=>lhs;whnf
 rw[D8 zao]
 conv=>lhs;whnf
 try dsimp -iota -beta -eta -zeta only
 rw[drw zaj];conv=>lhs;whnf
 try dsimp -iota -beta -eta -zeta only
 rw[Bc zaa]
 refine tq ?_
 rw[KN]
 refine tq ?_
 rw[O3 _]
 conv=>lhs;whnf
 rw[GL zao]
 conv=>lhs;whnf
 rw[D8 zao]
 conv=>lhs;whnf
 try dsimp -iota -beta -eta -zeta only
 rw[drw zaj];conv=>lhs;whnf
 try dsimp -iota -beta -eta -zeta only
 rw[Bc zaa]
 refine tq ?_
 rw[KN]
 refine tq ?_
 rw[O3 _]
 conv=>lhs;whnf
 rw[GL zao]
 conv=>lhs;whnf
 rw[D8 zao]
 conv=>lhs;whnf
 try dsimp -iota -beta -eta -zeta only
 rw[drw zaj];conv=>lhs;whnf
 try dsimp -iota -beta -eta -zeta only
 rw[Bc zaa]
 refine tq ?_
 rfl
theorem zu(h:EF 32 b):Y E0 (.loop 217 0 0 5 [(2,.pa 0 0),(3,.pa 1 0),(10,.i 2),(11,.i 0)] [(0,some (.var [.nil,.i 0])),(1,some (.var [.nm 2,.i u])),(2,some (.rowA 24 1 2 [.nm 3,.nm 4])),(3,some (.row 22 (.sl .u8) [])),(4,some (.row 22 (.sl .u8) b))])=some (.fin (.exit 0) 5 [(2,.pa 0 0),(3,.pa 1 0)] [(0,some (.var [.nil,.i 0])),(1,some (.var [.nm 2,.i u])),(2,some (.rowA 24 1 2 [.nm 3,.nm 4])),(3,some (.row 22 (.sl .u8) [])),(4,some (.row 22 (.sl .u8) (LH b)))]):=by
 refine tq ?_
 rw[sQ b u h]
 refine tq ?_
 refine tq ?_
 rw[show(0:Int)+1=1 from rfl,sS b u h]
 refine tq ?_
 exact tq rfl
theorem A6P(h:EF 32 b):Y E0 (.call 217 [Om [[],b] u] [])=some (.ret (Om [[],LH b] u) []):=by
 have hl:=zu b u h
 refine tq ?_
 rw[xC b u h]
 refine tq ?_
 erw[hl]
 exact tq rfl
theorem sU(h:EF 32 b)(i:Int)(hi:0<=i/\i<16)(d x:List UInt8)(hd:d.length=32)(hg:Ai b i=some x)(hx:x.length=32):Y E0 (.loop 219 2 0 6 [(2,AV.i i),(3,AV.sl Ty.u8.sl [[],d]),(4,AV.pa 0 0),(8,AV.pa 1 0),(14,AV.pa 2 0),(79,AV.i 2),(80,AV.i 0)] [(0,some (Rs.var [AV.sl Ty.u8.sl.sl [[],b],AV.i u])),(1,some (Rs.var [AV.nil,AV.i 0])),(2,some (.var [.nm 3,.i u])),(3,some (.rowA 24 1 2 [.nm 4,.nm 5])),(4,some (.row 22 (.sl .u8) [])),(5,some (.row 22 (.sl .u8) b))])=some (.fin (.exit 4) 5 [(8,.pa 0 0),(14,.pa 1 0)] [(0,some (.var [.nil,.i 0])),(1,some (.var [.nm 2,.i u])),(2,some (.rowA 24 1 2 [.nm 3,.nm 4])),(3,some (.row 22 (.sl .u8) [])),(4,some (.row 22 (.sl .u8) (BH b i (sha256 (BO x d)))))]):=by
 have hb:=h.1
 have hg1:Ai [[],d] 1=some d:=YF _ _ _
 have hg2:Ai [[],b] 1=some b:=YF _ _ _
 have e:=U6 b u h
 have e1:=U7 b u h
 refine tq ?_
 rw[e]
 refine tq ?_
 refine tq ?_
 rw[show(0:Int)+1=1 from rfl,e1]
 conv=>lhs;whnf
 rw[Fg zaa]
 conv=>lhs;whnf
 rw[Dp zaa]
 conv=>lhs;whnf
 rw[hg2]
 refine tq ?_
 rw[hg]
 conv=>lhs;whnf
 rw[Dx zaa]
 conv=>lhs;whnf
 rw[hg1]
 refine tq ?_
 rw[Gm _ Aq]
 refine tq ?_
 rw[hg]
 refine tq ?_
 exact tq rfl
theorem A6Q(h:EF 32 b)(hu:0<=u/\u<=1000000)(i:Int)(hi:0<=i/\i<16)(d x:List UInt8)(hd:d.length=32)(hg:Ai b i=some x):Y E0 (.call 219 [Om [[],b] u,.i 4,.i i,.sl (.sl .u8) [[],d]] [])=some (.ret (.tup [Om [[],BH b i (sha256 (BO x d))] (u+1),.i 0]) []):=by
 obtain⟨n,hn,e⟩:=zt i hi
 have e0:=sK b u h i hi d hd
 have e1:=sN b u h i hi d hd
 have hx:x.length=32:=by
  obtain⟨y,hm,hy⟩:=Gp (l:=b) (i:=i) (by have:=h.1;omega)
  rw[hg] at hy;cases hy;exact h.2 x hm
 have e2:=sU b u h i hi d x hd hg hx
 refine tq ?_
 rw[VB _ Aq]
 refine tq ?_
 rw[e]
 refine tq ?_
 rw[e0]
 refine tq ?_
 rw[e1]
 refine tq ?_
 rw[xC b u h]
 refine tq ?_
 rw[show((2:Nat):Int)=2 from rfl];erw[e2]
 conv=>lhs;whnf
 rw[Bc zaa]
 rw[AO]
 conv=>lhs;whnf
theorem zx(h:EF 32 b)(hu:0<=u/\u<=1000000)(i:Int)(hi:0<=i/\i<16)(d x:List UInt8)(hd:d.length<=100)(hg:Ai b i=some x):Y E0 (.call 220 [Om [[],b] u,.i 4,.i i,.sl .u8 d] [])=some (.ret (.tup [Om [[],BH b i (sha256 (BO x (sha256 d)))] (u+1),.i 0]) []):=by
 have e1:=lX b u h i d hd
 have e2:=A6Q b u h hu i hi (sha256 d) x (A7 _) hg
 refine tq ?_
 rw[e1]
 refine tq ?_
 rw[e2]
 exact tq rfl
end
end Go.Proofs.YtanagnimhaemgaaGreatDoor
