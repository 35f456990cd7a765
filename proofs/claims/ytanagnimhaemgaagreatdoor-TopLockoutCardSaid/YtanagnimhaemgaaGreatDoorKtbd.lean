/-
  Own texts, laid together for this claim: contracts of functions of the program and its references, used by the statements of this seat.
-/
import Derived.Test.YtanagnimhaemgaaGreatDoorKtac
import Derived.Test.YtanagnimhaemgaaGreatDoorKtad
import Derived.Test.YtanagnimhaemgaaGreatDoorKtaf
import Derived.Test.YtanagnimhaemgaaGreatDoorKtag
import Derived.Test.YtanagnimhaemgaaGreatDoorKtah
import Derived.Test.YtanagnimhaemgaaGreatDoorKtaj
import Derived.Test.YtanagnimhaemgaaGreatDoorKtan
import Derived.Test.YtanagnimhaemgaaGreatDoorKtas
import Derived.Test.YtanagnimhaemgaaGreatDoorKtat
import Derived.Test.YtanagnimhaemgaaGreatDoorKtax
set_option linter.all false
set_option maxHeartbeats 40000000
set_option maxRecDepth 100000
namespace Go.Proofs.YtanagnimhaemgaaGreatDoor
open Go Go.Ax Go.Eng
variable (b0:List (List UInt8))(u:Int)(b1:List (List UInt8))(s0 s1:Int)
section
attribute [local irreducible] Bl CS CU CJ Bh Ak CV Du EN E5 EH Be BN CE Bz and' CG CO BC Ag Ar BF BG AY Aa AP AX CW Dv CX DT C9 BJ BD BA BB Au AQ Az Ac Aw Ah CY BL Bi BR BI CB CZ CP fits Cb CQ A8 AA AZ
attribute [local irreducible] BK Dl Cj nameB ET Dz Af Ef Ec FM FC Hr BH Ik I9 Ip Jd Iy JR Gl N7 N8 JE
theorem qh:Ak .or 0 (Be 1 (BJ 0).toNat)=1/\Ak .or 0 (Be 1 (BJ (0+1)).toNat)=2/\Ak .or 1 (Be 1 (BJ (0+1)).toNat)=3:=by
 rw[Nl,VU,En]
 decide +kernel
def mO(b0 b1:List (List UInt8)):Int:=(if b0.length=16 then 1 else 0)+(if b1.length=16 then 2 else 0)
theorem jH(u:Int)(h0:b0.length=0\/b0.length=16)(h1:b1.length=0\/b1.length=16):Y E0 (.call 155 [.agg [.sl (.sl (.sl .u8)) [b0,b1],.i u]] [])=some (.ret (.i (mO b0 b1)) []):=by
 have hg1:Ah [b0,b1] (0+1)=some b1:=lg1 _ _ _
 have hq:Y E0 (.loop 155 0 0 1 [(1,.pa 0 0),(3,.i 0),(7,.i (Aw [b0,b1])),(8,.i 0)] [(0,some (.var [.sl (.sl (.sl .u8)) [b0,b1],.i u]))])=some (.fin (.exit 0) 0 [(3,.i (mO b0 b1))] []):=by
  unfold mO
  rcases h0 with h0|h0<;>rcases h1 with h1|h1
  ·rw[if_neg zaa,if_neg zaa];refine tq ?_;refine tq ?_;rw[hg1];refine tq ?_;refine tq ?_
   rfl
  ·rw[if_neg zaa,if_pos h1];refine tq ?_;refine tq ?_;rw[hg1];refine tq ?_;refine tq ?_
   (rw[qh.2.1];rfl)
  ·rw[if_pos h0,if_neg zaa];refine tq ?_;refine tq ?_;rw[hg1];refine tq ?_;refine tq ?_
   (rw[qh.1];rfl)
  ·rw[if_pos h0,if_pos h1];refine tq ?_;refine tq ?_;rw[hg1];refine tq ?_;refine tq ?_
   (rw[qh.1,qh.2.2];rfl)
 refine tq ?_;rw[hq];exact tq rfl
theorem UG:(∀ v:Int,v=0\/v=2->Ak .and (BN v (BJ 0).toNat) 1=0)/\(∀ v:Int,v=1\/v=3->Ak .and (BN v (BJ 0).toNat) 1=1)/\(∀ v:Int,v=0\/v=1->Ak .and (BN v (BJ 1).toNat) 1=0)/\(∀ v:Int,v=2\/v=3->Ak .and (BN v (BJ 1).toNat) 1=1):=by
 rw[Nl,TM,En]
 refine⟨?_,?_,?_,?_⟩<;>(rintro v (rfl|rfl)<;>decide +kernel)
theorem A3P(u:Int)(h0:b0.length=0\/b0.length=16)(h1:b1.length=0\/b1.length=16):Y E0 (.call 283 [.agg [.sl (.sl (.sl .u8)) [b0,b1],.i u],.i 0] [])=some (.ret (.b (decide (0<b0.length))) []):=by
 have hb:Ak .and (BN (mO b0 b1) (BJ 0).toNat) 1=if 0<b0.length then 1 else 0:=by
  unfold mO
  rcases h0 with h0|h0
  ·rw[if_neg (show ¬b0.length=16 by omega),if_neg (show ¬0<b0.length by omega)]
   exact UG.1 _ (by split<;>omega)
  ·rw[if_pos h0,if_pos (show 0<b0.length by omega)]
   exact UG.2.1 _ (by split<;>omega)
 refine tq ?_;rw[jH _ _ _ h0 h1];refine tq ?_;rw[hb]
 (rw[Hq];by_cases h:0<b0.length<;>simp[h])
theorem qj(u:Int)(h0:b0.length=0\/b0.length=16)(h1:b1.length=0\/b1.length=16):Y E0 (.call 283 [.agg [.sl (.sl (.sl .u8)) [b0,b1],.i u],.i 1] [])=some (.ret (.b (decide (0<b1.length))) []):=by
 have hb:Ak .and (BN (mO b0 b1) (BJ 1).toNat) 1=if 0<b1.length then 1 else 0:=by
  unfold mO
  rcases h1 with h1|h1
  ·rw[if_neg (show ¬b1.length=16 by omega),if_neg (show ¬0<b1.length by omega)]
   exact UG.2.2.1 _ (by split<;>omega)
  ·rw[if_pos h1,if_pos (show 0<b1.length by omega)]
   exact UG.2.2.2 _ (by split<;>omega)
 refine tq ?_;rw[jH _ _ _ h0 h1];refine tq ?_;rw[hb]
 (rw[Hq];by_cases h:0<b1.length<;>simp[h])
theorem mP(u s0 s1:Int):SI E0 (.loop 256 0 0 3 [(2,.pa 0 0),(3,.pa 1 0),(6,.nil),(7,.nm 2),(13,AV.agg [AV.i s0,AV.i s1]),(14,AV.i 0)] [(0,some (Rs.var [AV.sl Ty.u8.sl.sl [b0,b1],AV.i u])),(1,some (Rs.var [AV.i s0,AV.i s1])),(2,some (Rs.row 5 Ty.u8 []))]) fun r=>(∃ x:AV,(¬(0<=s0/\s0<=65535/\0<=s1/\s1<=65535))/\r=some (.fin .ret 3 [(2,.pa 0 0),(3,.pa 1 0),(4,.nil),(5,.i 1),(6,x),(7,.nm 2)] [(0,some (Rs.var [AV.sl Ty.u8.sl.sl [b0,b1],AV.i u])),(1,some (Rs.var [AV.i s0,AV.i s1])),(2,some (Rs.row 5 Ty.u8 []))]))\/((0<=s0/\s0<=65535/\0<=s1/\s1<=65535)/\r=some (.fin (.exit 0) 3 [(2,AV.pa 0 0),(3,AV.pa 1 0),(6,AV.sl Ty.u8 (BH (BH [] 2 s0) 2 s1)),(7,AV.nm 2)] [(0,some (Rs.var [AV.sl Ty.u8.sl.sl [b0,b1],AV.i u])),(1,some (Rs.var [AV.i s0,AV.i s1])),(2,some (Rs.row 5 Ty.u8 []))])):=by
 refine pY fun P hP=>?_
 refine tw ?_
 rcases DU s0 0 with hc0|hc0
 ·refine tw ?_;exact hP _ (Or.inl ⟨AV.nil,Am,rfl⟩)
 refine tw ?_
 rcases DU 65535 s0 with hc1|hc1
 ·refine tw ?_;exact hP _ (Or.inl ⟨AV.nil,Am,rfl⟩)
 refine tw ?_;rw[DN _ _ _ Am];refine tw ?_;refine tw ?_
 rcases DU s1 0 with hc2|hc2
 ·refine tw ?_;exact hP _ (Or.inl ⟨AV.sl Ty.u8 (BH [] 2 s0),Am,rfl⟩)
 refine tw ?_
 rcases DU 65535 s1 with hc3|hc3
 ·refine tw ?_;exact hP _ (Or.inl ⟨AV.sl Ty.u8 (BH [] 2 s0),Am,rfl⟩)
 refine tw ?_;rw[DN _ _ _ Am];refine tw ?_;refine tw ?_;exact hP _ (Or.inr ⟨Am,rfl⟩)
theorem UH(b0 b1 b:List (List UInt8))(u a s s0 s1:Int)(hd acc:List UInt8)(ha:acc.length<=20000)(hgb:Ah [b0,b1] a=some b)(h:s=0\/b.length=16)(hm:∀ x∈b,x.length<=1000):∀(n j:Nat),j+n=16->Y E0 (.loop 256 2 0 2 [(2,.pa 0 0),(6,.sl .u8 hd),(7,.nm 1),(10,.i a),(11,.i s),(27,.agg [.i s0,.i s1]),(28,.i a),(40,.i (j:Int))] [(0,some (.var [.sl (.sl (.sl .u8)) [b0,b1],.i u])),(1,some (.row 5 .u8 (acc++NU s b j)))])=some (.fin (.exit 4) 2 [(2,.pa 0 0),(6,.sl .u8 hd),(7,.nm 1),(27,.agg [.i s0,.i s1]),(28,.i a)] [(0,some (.var [.sl (.sl (.sl .u8)) [b0,b1],.i u])),(1,some (.row 5 .u8 (acc++NV s b)))])
 | 0,j,hj=>by
  obtain rfl:j=16:=zaa
  refine tq ?_
  rfl
 | n+1,j,hj=>by
  have ih:=UH b0 b1 b u a s s0 s1 hd acc ha hgb h hm n (j+1) zaa
  rw[show((j+1:Nat):Int)=(j:Int)+1 from by omega,NU] at ih
  have hle:=Sj (s:=s) hm j
  by_cases hb:Ak .and (BN s (BJ ((j:Nat):Int)).toNat) 1=1
  ·have hs:b.length=16:=by
    rcases h with h|h
    ·subst h;rw[Yc j zaa] at hb;cases hb
    ·exact h
   rw[if_pos hb,<-List.append_assoc] at ih
   have hg:Ah b (j:Int)=some (b.getD j []):=by rw[O4 zaa];simp[List.getD,List.getElem?_eq_getElem (show j<b.length by omega)]
   have hx:(b.getD j []).length<=1000:=by
    have:=hm _ (List.getElem_mem (show j<b.length by omega))
    simpa [List.getD,List.getElem?_eq_getElem (show j<b.length by omega)] using this
   have happ:BI (acc++NU s b j) (b.getD j [])=acc++NU s b j++b.getD j []:=Ap _ _
   rw[AU];conv=>lhs;whnf
   rw[Dn zaa]
   conv=>lhs;whnf
   rw[Ep hb];refine tq ?_;rw[hgb];refine to ?_;rw[hg];refine tq ?_;rw[happ];exact ih
  ·rw[if_neg hb,List.append_nil] at ih
   rw[AU];conv=>lhs;whnf
   rw[Dn zaa]
   conv=>lhs;whnf
   rw[JK hb];refine tq ?_;exact ih
theorem mQ(u s0 s1:Int)(hd:List UInt8)(h0:b0=[]\/SK 20 b0)(h1:b1=[]\/SK 32 b1):SI E0 (.loop 256 1 0 2 [(2,.pa 0 0),(6,.sl .u8 hd),(7,.nm 1),(27,AV.agg [AV.i s0,AV.i s1]),(28,AV.i 0)] [(0,some (Rs.var [AV.sl Ty.u8.sl.sl [b0,b1],AV.i u])),(1,some (Rs.row 5 Ty.u8 []))]) fun r=>(∃ x:List UInt8,(¬((s0=0\/0<b0.length)/\(s1=0\/0<b1.length)))/\r=some (.fin .ret 0 [(4,.nil),(5,.i 27),(6,.sl .u8 hd),(7,.sl .u8 x)] []))\/(((s0=0\/0<b0.length)/\(s1=0\/0<b1.length))/\r=some (.fin (.exit 2) 0 [(6,.sl .u8 hd),(7,AV.sl Ty.u8 (NV s0 b0++NV s1 b1))] [])):=by
 have q0:=qP h0
 have q1:=qP h1
 have k0:=(Uj h0 zac).2
 have k1:=(Uj h1 zac).2
 have g0:Ah [b0,b1] 0=some b0:=wI _ _
 have g1:Ah [b0,b1] 1=some b1:=lg1 _ _ _
 have e0:=fun h=>UH b0 b1 b0 u 0 s0 s0 s1 hd [] zan g0 h k0 16 0 zaa
 have e1:=fun h=>UH b0 b1 b1 u 1 s1 s0 s1 hd (NV s0 b0) (by have:=Pq (s:=s0) k0;omega) g1 h k1 16 0 zaa
 simp only[List.nil_append,show ∀ s b,NU s b 0=[] from fun _ _=>rfl,List.append_nil,show((0:Nat):Int)=0 from rfl] at e0 e1
 refine pY fun P hP=>?_
 refine tw ?_
 rcases Dc s0 0 with hc0|hc0
 ·refine tw ?_;rw[A3P _ _ _ q0 q1];refine tw ?_
  rcases Decidable.em (0<b0.length) with hc1|hc1
  ·refine tw ?_;rw[e0 zaa];refine tw ?_;refine tw ?_
   rcases Dc s1 0 with hc2|hc2
   ·refine tw ?_;rw[qj _ _ _ q0 q1];refine tw ?_
    rcases Decidable.em (0<b1.length) with hc3|hc3
    ·refine tw ?_;rw[e1 zaa];refine tw ?_;refine tw ?_;exact hP _ (Or.inr ⟨Am,rfl⟩)
    refine tw ?_;exact hP _ (Or.inl ⟨NV s0 b0,Am,rfl⟩)
   subst hc2;refine tw ?_;rw[e1 zaa];refine tw ?_;refine tw ?_;exact hP _ (Or.inr ⟨Am,rfl⟩)
  refine tw ?_;exact hP _ (Or.inl ⟨[],Am,rfl⟩)
 subst hc0;refine tw ?_;rw[e0 zaa];refine tw ?_;refine tw ?_
 rcases Dc s1 0 with hc4|hc4
 ·refine tw ?_;rw[qj _ _ _ q0 q1];refine tw ?_
  rcases Decidable.em (0<b1.length) with hc5|hc5
  ·refine tw ?_;rw[e1 zaa];refine tw ?_;refine tw ?_;exact hP _ (Or.inr ⟨Am,rfl⟩)
  refine tw ?_;exact hP _ (Or.inl ⟨NV 0 b0,Am,rfl⟩)
 subst hc4;refine tw ?_;rw[e1 zaa];refine tw ?_;refine tw ?_;exact hP _ (Or.inr ⟨Am,rfl⟩)
theorem A3Q(u s0 s1:Int)(h0:b0=[]\/SK 20 b0)(h1:b1=[]\/SK 32 b1):SI E0 (.call 256 [.agg [.sl (.sl (.sl .u8)) [b0,b1],.i u],.agg [.i s0,.i s1]] []) fun r=>(∃ e:Int,(e=1/\¬(0<=s0/\s0<=65535/\0<=s1/\s1<=65535)\/e=27/\(0<=s0/\s0<=65535/\0<=s1/\s1<=65535)/\¬((s0=0\/0<b0.length)/\(s1=0\/0<b1.length)))/\r=some (.ret (.tup [.sl .u8 [],.i e]) []))\/(((0<=s0/\s0<=65535/\0<=s1/\s1<=65535)/\(s0=0\/0<b0.length)/\(s1=0\/0<b1.length))/\r=some (.ret (.tup [.sl .u8 (A5L s0 s1 b0 b1),.i 0]) [])):=by
 have k0:=(Uj h0 zac).2
 have k1:=(Uj h1 zac).2
 have l0:=Pq (s:=s0) k0
 have l1:=Pq (s:=s1) k1
 have hf:(Af 5 [BH (BH [] 2 s0) 2 s1,NV s0 b0++NV s1 b1]).length<=4294967295:=by rw[Ce,Ad,Ad,List.length_append,List.length_nil];omega
 refine pY fun P hP=>tw ?_
 obtain(⟨x0,h0_1,yy0⟩|⟨⟨h0_2,h0_3,h0_4,h0_5⟩,yy0⟩):=mP b0 b1 u s0 s1
 ·refine wJ yy0 ?_;exact hP _ (Or.inl ⟨1,Am,rfl⟩)
 refine wJ yy0 ?_
 obtain(⟨x1,h1_1,yy1⟩|⟨⟨h1_2,h1_3⟩,yy1⟩):=mQ b0 b1 u s0 s1 (BH (BH [] 2 s0) 2 s1) Am Am
 ·refine wJ yy1 ?_;exact hP _ (Or.inl ⟨27,Am,rfl⟩)
 refine wJ yy1 ?_;rw[FB _ _ hf zan];refine tw ?_;exact hP _ (Or.inr ⟨Am,rfl⟩)
end
section
attribute [local irreducible] Bl CS CU CJ Bh Ak CV Du EN E5 EH Be BN CE Bz and' CG CO BC Ag Ar BF BG AY Aa AP AX CW Dv CX DT C9 BJ BD BA BB Au AQ Az Ac Aw Ah CY BL Bi BR BI CB CZ CP fits Cb CQ A8 AA AZ
attribute [local irreducible] BK Dl Cj nameB ET Dz Af Ef Ec FM FC Hr BH Ik I9 Ip Jd Iy JR Gl N7 N8 JE
theorem Px{E:Env}{q:Rq}{R:Option Rsp->Prop}(h:SI E q R):∃ r,Y E q=r/\R r:=⟨_,rfl,h⟩
theorem vP(u s0 s1:Int)(h0:b0=[]\/SK 20 b0)(h1:b1=[]\/SK 32 b1):SI E0 (.call 32 [rgA [b0,b1] u,.agg [.i s0,.i s1]] []) fun r=>(∃ e:Int,(e=1/\¬(0<=s0/\s0<=65535/\0<=s1/\s1<=65535)\/e=27/\(0<=s0/\s0<=65535/\0<=s1/\s1<=65535)/\¬((s0=0\/0<b0.length)/\(s1=0\/0<b1.length)))/\r=some (.ret (.tup [.sl .u8 [],.i e]) []))\/(((0<=s0/\s0<=65535/\0<=s1/\s1<=65535)/\(s0=0\/0<b0.length)/\(s1=0\/0<b1.length))/\r=some (.ret (.tup [.sl .u8 (A5L s0 s1 b0 b1),.i 0]) [])):=by
 have k0:=(Uj h0 zac).2
 have k1:=(Uj h1 zac).2
 have l0:=Pq (s:=s0) k0
 have l1:=Pq (s:=s1) k1
 have hf:(Af 5 [BH (BH [] 2 s0) 2 s1,NV s0 b0++NV s1 b1]).length<=4294967295:=by rw[Ce,Ad,Ad,List.length_append,List.length_nil];omega
 refine pY fun P hP=>?_
 refine tw ?_
 obtain(⟨h0_0,yy0⟩|⟨⟨h0_1,h0_2,h0_3,h0_4⟩,yy0⟩):=iL b0 b1 u s0 s1
 ·
  refine wJ yy0 ?_
  exact hP _ (Or.inl ⟨1,Am,rfl⟩)
 refine wJ yy0 ?_
 obtain(⟨x1,h1_1,yy1⟩|⟨⟨h1_2,h1_3⟩,yy1⟩):=iM b0 b1 u s0 s1 Am Am
 ·
  refine wJ yy1 ?_
  exact hP _ (Or.inl ⟨27,Am,rfl⟩)
 refine wJ yy1 ?_
 rw[Gj _ _ _ Am]
 refine tw ?_
 rw[Gj _ _ _ Am]
 refine tw ?_
 rw[Uf _ _ hf zan]
 refine tw ?_
 exact hP _ (Or.inr ⟨Am,rfl⟩)
theorem Zz:SI E0 (.loop 32 0 0 2 [(2,AV.pa 0 0),(3,AV.pa 1 0),(6,AV.i 0)] [(0,some (Rs.var [AV.sl Ty.u8.sl.sl [],AV.i u])),(1,some (Rs.var [AV.i s0,AV.i s1]))]) fun r=>(¬(0<=s0/\s0<=65535/\0<=s1/\s1<=65535)/\r=some (.fin .ret 2 [(2,.pa 0 0),(3,.pa 1 0),(4,.nil),(5,.i 1)] [(0,some (Rs.var [AV.sl Ty.u8.sl.sl [],AV.i u])),(1,some (Rs.var [AV.i s0,AV.i s1]))]))\/((0<=s0/\s0<=65535/\0<=s1/\s1<=65535)/\r=some (.fin (.exit 0) 2 [(2,.pa 0 0),(3,.pa 1 0)] [(0,some (Rs.var [AV.sl Ty.u8.sl.sl [],AV.i u])),(1,some (Rs.var [AV.i s0,AV.i s1]))])):=by
 refine pY fun P hP=>?_
 rw[AU];conv=>arg 1;whnf
 refine tw ?_
 rcases DU s0 0 with hc0|hc0
 ·
  refine tw ?_
  exact hP _ (Or.inl ⟨Am,rfl⟩)
 refine tw ?_
 rcases DU 65535 s0 with hc1|hc1
 ·
  refine tw ?_
  exact hP _ (Or.inl ⟨Am,rfl⟩)
 refine tw ?_
 refine tw ?_
 rcases DU s1 0 with hc2|hc2
 ·
  refine tw ?_
  exact hP _ (Or.inl ⟨Am,rfl⟩)
 refine tw ?_
 rcases DU 65535 s1 with hc3|hc3
 ·
  refine tw ?_
  exact hP _ (Or.inl ⟨Am,rfl⟩)
 refine tw ?_
 refine tw ?_
 exact hP _ (Or.inr ⟨Am,rfl⟩)
theorem Sz(u s0 s1:Int)(acc:List UInt8)(ha:acc.length<=20000)(hs:s0=0):∀(n j:Nat),j+n=16->Y E0 (.loop 32 2 0 3 [(2,AV.pa 0 0),(3,AV.pa 1 0),(7,AV.nm 2),(8,AV.i 0),(9,AV.i (j:Int))] [(0,some (Rs.var [AV.sl Ty.u8.sl.sl [],AV.i u])),(1,some (Rs.var [AV.i s0,AV.i s1])),(2,some (Rs.row 5 Ty.u8 acc))])=some (.fin (.exit 4) 3 [(2,AV.pa 0 0),(3,AV.pa 1 0),(7,AV.nm 2),(8,AV.i 0)] [(0,some (Rs.var [AV.sl Ty.u8.sl.sl [],AV.i u])),(1,some (Rs.var [AV.i s0,AV.i s1])),(2,some (Rs.row 5 Ty.u8 acc))])
 | 0,j,hj=>by
  obtain rfl:j=16:=zaa
  rw[AU];conv=>lhs;whnf
  refine tq ?_
  with_reducible rfl
 | n+1,j,hj=>by
  have ih:=Sz u s0 s1 acc ha hs n (j+1) zaa
  rw[show((j+1:Nat):Int)=(j:Int)+1 from by omega] at ih
  have hb:¬Ak .and (BN s0 (BJ ((j:Nat):Int)).toNat) 1=1:=by rw[hs,Yc j zaa];decide
  rw[AU];conv=>lhs;whnf
  refine tq ?_
  exact ih
theorem TA(u s0 s1:Int)(acc:List UInt8)(ha:acc.length<=20000)(hs:s1=0):∀(n j:Nat),j+n=16->Y E0 (.loop 32 2 0 3 [(2,AV.pa 0 0),(3,AV.pa 1 0),(7,AV.nm 2),(8,AV.i 1),(9,AV.i (j:Int))] [(0,some (Rs.var [AV.sl Ty.u8.sl.sl [],AV.i u])),(1,some (Rs.var [AV.i s0,AV.i s1])),(2,some (Rs.row 5 Ty.u8 acc))])=some (.fin (.exit 4) 3 [(2,AV.pa 0 0),(3,AV.pa 1 0),(7,AV.nm 2),(8,AV.i 1)] [(0,some (Rs.var [AV.sl Ty.u8.sl.sl [],AV.i u])),(1,some (Rs.var [AV.i s0,AV.i s1])),(2,some (Rs.row 5 Ty.u8 acc))])
 | 0,j,hj=>by
  obtain rfl:j=16:=zaa
  rw[AU];conv=>lhs;whnf
  refine tq ?_
  with_reducible rfl
 | n+1,j,hj=>by
  have ih:=TA u s0 s1 acc ha hs n (j+1) zaa
  rw[show((j+1:Nat):Int)=(j:Int)+1 from by omega] at ih
  have hb:¬Ak .and (BN s1 (BJ ((j:Nat):Int)).toNat) 1=1:=by rw[hs,Yc j zaa];decide
  rw[AU];conv=>lhs;whnf
  refine tq ?_
  exact ih
theorem aA:SI E0 (.loop 32 1 0 3 [(2,AV.pa 0 0),(3,AV.pa 1 0),(7,AV.nm 2),(8,AV.i 0)] [(0,some (Rs.var [AV.sl Ty.u8.sl.sl [],AV.i u])),(1,some (Rs.var [AV.i s0,AV.i s1])),(2,some (Rs.row 5 Ty.u8 []))]) fun r=>(∃ x:List UInt8,(¬(s0=0/\s1=0))/\r=some (.fin .ret 1 [(3,AV.pa 0 0),(4,AV.nil),(5,AV.i 27),(7,AV.sl Ty.u8 x)] [(0,some (Rs.var [AV.i s0,AV.i s1]))]))\/((s0=0/\s1=0)/\r=some (.fin (.exit 2) 1 [(3,AV.pa 0 0),(7,AV.sl Ty.u8 [])] [(0,some (Rs.var [AV.i s0,AV.i s1]))])):=by
 have e0:=fun h=>Sz u s0 s1 [] zan h 16 0 zaa
 have e1:=fun h=>TA u s0 s1 [] zan h 16 0 zaa
 simp only[show((0:Nat):Int)=0 from rfl] at e0 e1
 refine pY fun P hP=>?_
 rw[AU];conv=>arg 1;whnf
 refine tw ?_
 rcases Dc s0 0 with hc0|hc0
 ·
  refine tw ?_
  rw[Yb _ _ Am]
  refine tw ?_
  exact hP _ (Or.inl ⟨[],Am,rfl⟩)
 subst hc0
 replace e0:=e0 rfl
 refine tw ?_
 rw[e0]
 refine tw ?_
 refine tw ?_
 rcases Dc s1 0 with hc1|hc1
 ·
  refine tw ?_
  rw[Yb _ _ Am]
  refine tw ?_
  exact hP _ (Or.inl ⟨[],Am,rfl⟩)
 subst hc1
 replace e1:=e1 rfl
 refine tw ?_
 rw[e1]
 refine tw ?_
 refine tw ?_
 exact hP _ (Or.inr ⟨Am,rfl⟩)
theorem vS:SI E0 (.call 32 [.agg [AV.sl Ty.u8.sl.sl [],AV.i u],.agg [.i s0,.i s1]] []) fun r=>(∃ e:Int,(e=1/\¬(0<=s0/\s0<=65535/\0<=s1/\s1<=65535)\/e=27/\(0<=s0/\s0<=65535/\0<=s1/\s1<=65535)/\¬(s0=0/\s1=0))/\r=some (.ret (.tup [.sl .u8 [],.i e]) []))\/(((0<=s0/\s0<=65535/\0<=s1/\s1<=65535)/\(s0=0/\s1=0))/\r=some (.ret (.tup [.sl .u8 (sha256 (Af 5 [BH (BH [] 2 s0) 2 s1,[]])),.i 0]) [])):=by
 have hf:(Af 5 [BH (BH [] 2 s0) 2 s1,[]]).length<=4294967295:=by rw[Ce,Ad,Ad,List.length_nil];simp
 obtain⟨r0,e0,hr0⟩:=Px (Zz u s0 s1)
 obtain⟨r1,e1,hr1⟩:=Px (aA u s0 s1)
 rcases hr0 with⟨hn,rfl⟩|⟨hn,rfl⟩
 ·refine pY fun P hP=>?_
  refine tw ?_
  rw[e0]
  refine tw ?_
  exact hP _ (Or.inl ⟨1,Am,rfl⟩)
 ·rcases hr1 with⟨x,hm,rfl⟩|⟨hm,rfl⟩
  ·refine pY fun P hP=>?_
   refine tw ?_
   rw[e0]
   refine tw ?_
   rw[e1]
   refine tw ?_
   exact hP _ (Or.inl ⟨27,Am,rfl⟩)
  ·refine pY fun P hP=>?_
   refine tw ?_
   rw[e0]
   refine tw ?_
   rw[e1]
   refine tw ?_
   rw[Gj _ _ _ Am]
   refine tw ?_
   rw[Gj _ _ _ Am]
   refine tw ?_
   rw[Uf _ _ hf zan]
   refine tw ?_
   exact hP _ (Or.inr ⟨Am,rfl⟩)
theorem jI:Y E0 (.call 155 [.agg [AV.sl Ty.u8.sl.sl [],AV.i u]] [])=some (.ret (.i 0) []):=by
 have hq:Y E0 (.loop 155 0 0 1 [(1,.pa 0 0),(3,.i 0),(7,.i (Aw ([]:List (List (List UInt8))))),(8,.i 0)] [(0,some (.var [AV.sl Ty.u8.sl.sl [],AV.i u]))])=some (.fin (.exit 0) 0 [(3,.i 0)] []):=by
  exact tq rfl
 refine tq ?_
 rw[hq]
 exact tq rfl
theorem ql(a:Int)(ha:a=0\/a=1):Y E0 (.call 283 [.agg [AV.sl Ty.u8.sl.sl [],AV.i u],.i a] [])=some (.ret (.b false) []):=by
 rcases ha with rfl|rfl
 ·refine tq ?_
  rw[jI]
  refine tq ?_
  rw[UG.1 0 zaa]
  (congr 3;simp only[Hq,JA,Io,JB,DJ,GZ,AC];first|rfl|(rw[decide_eq_decide];omega)|(simp;omega))
 ·refine tq ?_
  rw[jI]
  refine tq ?_
  rw[UG.2.2.1 0 zaa]
  (congr 3;simp only[Hq,JA,Io,JB,DJ,GZ,AC];first|rfl|(rw[decide_eq_decide];omega)|(simp;omega))
theorem jJ:SI E0 (.loop 256 0 0 3 [(2,.pa 0 0),(3,.pa 1 0),(6,.nil),(7,.nm 2),(13,AV.agg [AV.i s0,AV.i s1]),(14,AV.i 0)] [(0,some (Rs.var [AV.sl Ty.u8.sl.sl [],AV.i u])),(1,some (Rs.var [AV.i s0,AV.i s1])),(2,some (Rs.row 5 Ty.u8 []))]) fun r=>(∃ x:AV,(¬(0<=s0/\s0<=65535/\0<=s1/\s1<=65535))/\r=some (.fin .ret 3 [(2,.pa 0 0),(3,.pa 1 0),(4,.nil),(5,.i 1),(6,x),(7,.nm 2)] [(0,some (Rs.var [AV.sl Ty.u8.sl.sl [],AV.i u])),(1,some (Rs.var [AV.i s0,AV.i s1])),(2,some (Rs.row 5 Ty.u8 []))]))\/((0<=s0/\s0<=65535/\0<=s1/\s1<=65535)/\r=some (.fin (.exit 0) 3 [(2,AV.pa 0 0),(3,AV.pa 1 0),(6,AV.sl Ty.u8 (BH (BH [] 2 s0) 2 s1)),(7,AV.nm 2)] [(0,some (Rs.var [AV.sl Ty.u8.sl.sl [],AV.i u])),(1,some (Rs.var [AV.i s0,AV.i s1])),(2,some (Rs.row 5 Ty.u8 []))])):=by
 refine pY fun P hP=>?_
 rw[AU];conv=>arg 1;whnf
 refine tw ?_
 rcases DU s0 0 with hc0|hc0
 ·
  refine tw ?_
  exact hP _ (Or.inl ⟨AV.nil,Am,rfl⟩)
 refine tw ?_
 rcases DU 65535 s0 with hc1|hc1
 ·
  refine tw ?_
  exact hP _ (Or.inl ⟨AV.nil,Am,rfl⟩)
 refine tw ?_
 rw[DN _ _ _ Am]
 refine tw ?_
 refine tw ?_
 rcases DU s1 0 with hc2|hc2
 ·
  refine tw ?_
  exact hP _ (Or.inl ⟨AV.sl Ty.u8 (BH [] 2 s0),Am,rfl⟩)
 refine tw ?_
 rcases DU 65535 s1 with hc3|hc3
 ·
  refine tw ?_
  exact hP _ (Or.inl ⟨AV.sl Ty.u8 (BH [] 2 s0),Am,rfl⟩)
 refine tw ?_
 rw[DN _ _ _ Am]
 refine tw ?_
 refine tw ?_
 exact hP _ (Or.inr ⟨Am,rfl⟩)
theorem Qg(u a s s0 s1:Int)(hd acc:List UInt8)(ha:acc.length<=20000)(h:s=0):∀(n j:Nat),j+n=16->Y E0 (.loop 256 2 0 2 [(2,.pa 0 0),(6,.sl .u8 hd),(7,.nm 1),(10,.i a),(11,.i s),(27,.agg [.i s0,.i s1]),(28,.i a),(40,.i (j:Int))] [(0,some (.var [AV.sl Ty.u8.sl.sl [],AV.i u])),(1,some (.row 5 .u8 acc))])=some (.fin (.exit 4) 2 [(2,.pa 0 0),(6,.sl .u8 hd),(7,.nm 1),(27,.agg [.i s0,.i s1]),(28,.i a)] [(0,some (.var [AV.sl Ty.u8.sl.sl [],AV.i u])),(1,some (.row 5 .u8 acc))])
 | 0,j,hj=>by
  obtain rfl:j=16:=zaa
  rw[AU];conv=>lhs;whnf
  refine tq ?_
  with_reducible rfl
 | n+1,j,hj=>by
  have ih:=Qg u a s s0 s1 hd acc ha h n (j+1) zaa
  rw[show((j+1:Nat):Int)=(j:Int)+1 from by omega] at ih
  have hb:¬Ak .and (BN s (BJ ((j:Nat):Int)).toNat) 1=1:=by rw[h,Yc j zaa];decide
  rw[AU];conv=>lhs;whnf
  refine tq ?_
  exact ih
theorem jK(hd:List UInt8):SI E0 (.loop 256 1 0 2 [(2,.pa 0 0),(6,.sl .u8 hd),(7,.nm 1),(27,AV.agg [AV.i s0,AV.i s1]),(28,AV.i 0)] [(0,some (Rs.var [AV.sl Ty.u8.sl.sl [],AV.i u])),(1,some (Rs.row 5 Ty.u8 []))]) fun r=>(∃ x:List UInt8,(¬(s0=0/\s1=0))/\r=some (.fin .ret 0 [(4,.nil),(5,.i 27),(6,.sl .u8 hd),(7,.sl .u8 x)] []))\/((s0=0/\s1=0)/\r=some (.fin (.exit 2) 0 [(6,.sl .u8 hd),(7,AV.sl Ty.u8 [])] [])):=by
 have e0:=fun h=>Qg u 0 s0 s0 s1 hd [] zan h 16 0 zaa
 have e1:=fun h=>Qg u 1 s1 s0 s1 hd [] zan h 16 0 zaa
 simp only[show((0:Nat):Int)=0 from rfl] at e0 e1
 refine pY fun P hP=>?_
 rw[AU];conv=>arg 1;whnf
 refine tw ?_
 rcases Dc s0 0 with hc0|hc0
 ·
  refine tw ?_
  rw[ql _ _ zaa]
  refine tw ?_
  exact hP _ (Or.inl ⟨[],Am,rfl⟩)
 subst hc0
 replace e0:=e0 rfl
 refine tw ?_
 rw[e0]
 refine tw ?_
 refine tw ?_
 rcases Dc s1 0 with hc1|hc1
 ·
  refine tw ?_
  rw[ql _ _ zaa]
  refine tw ?_
  exact hP _ (Or.inl ⟨[],Am,rfl⟩)
 subst hc1
 replace e1:=e1 rfl
 refine tw ?_
 rw[e1]
 refine tw ?_
 refine tw ?_
 exact hP _ (Or.inr ⟨Am,rfl⟩)
theorem A1O:SI E0 (.call 256 [.agg [AV.sl Ty.u8.sl.sl [],AV.i u],.agg [.i s0,.i s1]] []) fun r=>(∃ e:Int,(e=1/\¬(0<=s0/\s0<=65535/\0<=s1/\s1<=65535)\/e=27/\(0<=s0/\s0<=65535/\0<=s1/\s1<=65535)/\¬(s0=0/\s1=0))/\r=some (.ret (.tup [.sl .u8 [],.i e]) []))\/(((0<=s0/\s0<=65535/\0<=s1/\s1<=65535)/\(s0=0/\s1=0))/\r=some (.ret (.tup [.sl .u8 (sha256 (Af 5 [BH (BH [] 2 s0) 2 s1,[]])),.i 0]) [])):=by
 have hf:(Af 5 [BH (BH [] 2 s0) 2 s1,[]]).length<=4294967295:=by rw[Ce,Ad,Ad,List.length_nil];simp
 refine pY fun P hP=>?_
 refine tw ?_
 obtain(⟨x0,h0_1,yy0⟩|⟨⟨h0_2,h0_3,h0_4,h0_5⟩,yy0⟩):=jJ u s0 s1
 ·
  refine wJ yy0 ?_
  exact hP _ (Or.inl ⟨1,Am,rfl⟩)
 refine wJ yy0 ?_
 obtain(⟨x1,h1_1,yy1⟩|⟨⟨h1_2,h1_3⟩,yy1⟩):=jK u s0 s1 (BH (BH [] 2 s0) 2 s1)
 ·
  refine wJ yy1 ?_
  exact hP _ (Or.inl ⟨27,Am,rfl⟩)
 refine wJ yy1 ?_
 rw[FB _ _ hf zan]
 refine tw ?_
 exact hP _ (Or.inr ⟨Am,rfl⟩)
theorem A1P{a:Int}{rb:List (List (List UInt8))}(q0 q1:Int)(h:A2y a rb):∃(d:List UInt8) (er:Int),d.length<=1000/\Y E0 (.call 256 [.agg [.sl (.sl (.sl .u8)) rb,.i u],.agg [.i q0,.i q1]] [])=some (.ret (.tup [.sl .u8 d,.i er]) [])/\Y E0 (.call 32 [.agg [.sl (.sl (.sl .u8)) rb,.i u],.agg [.i q0,.i q1]] [])=some (.ret (.tup [.sl .u8 d,.i er]) []):=by
 rcases h with rfl|⟨b0,b1,rfl,h0,h1,_⟩
 ·obtain⟨r,er,hr⟩:=Px (A1O u q0 q1)
  obtain⟨r',er',hr'⟩:=Px (vS u q0 q1)
  rcases hr with⟨e,he,rfl⟩|⟨he,rfl⟩<;>rcases hr' with⟨e',he',rfl⟩|⟨he',rfl⟩
  ·obtain rfl:e=e':=zaa
   exact⟨_,_,by simp,er,er'⟩
  ·exfalso;omega
  ·exfalso;omega
  ·exact⟨_,_,by rw[A7];decide,er,er'⟩
 ·obtain⟨r,er,hr⟩:=Px (A3Q b0 b1 u q0 q1 h0 h1)
  obtain⟨r',er',hr'⟩:=Px (vP b0 b1 u q0 q1 h0 h1)
  rcases hr with⟨e,he,rfl⟩|⟨he,rfl⟩<;>rcases hr' with⟨e',he',rfl⟩|⟨he',rfl⟩
  ·obtain rfl:e=e':=zaa
   exact⟨_,_,by simp,er,er'⟩
  ·exfalso;omega
  ·exfalso;omega
  ·exact⟨_,_,by unfold A5L;rw[A7];decide,er,er'⟩
end
end Go.Proofs.YtanagnimhaemgaaGreatDoor
