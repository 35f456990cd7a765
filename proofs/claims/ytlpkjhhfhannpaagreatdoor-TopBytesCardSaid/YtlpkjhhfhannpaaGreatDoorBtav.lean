/- Own texts of this claim: contracts of functions. -/
import Derived.Test.YtlpkjhhfhannpaaGreatDoorBtai
import Derived.Test.YtlpkjhhfhannpaaGreatDoorBtak
set_option linter.all false
set_option maxHeartbeats 40000000
set_option maxRecDepth 100000
namespace Go.Proofs.YtlpkjhhfhannpaaGreatDoor
open Go Go.Ax Go.Eng
attribute [local irreducible] CS Cj CP CW CQ BC Cm ED ES Dx EG CJ Bi Ce CX and' Cf CU BL Au BI BP BR Ag Ai AY Ae D5 EJ D6 DX Cb BZ BQ BM BO BJ AZ BK Aj Ak Ap D7 BB CV BU BF CO D8 Cc fits D9 Ci AC AQ Ah
variable (b0 b1:List (List UInt8))(u s0 s1:Int)
section
attribute [local irreducible] BG DY CY nameB Eh Ef Az Ei Eo F5 Ff Fh Bg Io GI JD Jk JE Jh Ha NZ Na IJ
theorem zF:BC .or 0 (CJ 1 (BZ 0).toNat)=1/\BC .or 0 (CJ 1 (BZ (0+1)).toNat)=2/\BC .or 1 (CJ 1 (BZ (0+1)).toNat)=3:=by
 rw[NP,Xc,FP]
 decide +kernel
def jK(b0 b1:List (List UInt8)):Int:=(if b0.length=16 then 1 else 0)+(if b1.length=16 then 2 else 0)
theorem ZQ(h0:b0.length=0\/b0.length=16)(h1:b1.length=0\/b1.length=16):Y E0 (.call 155 [.agg [.sl (.sl (.sl .u8)) [b0,b1],.i u]] [])=some (.ret (.i (jK b0 b1)) []):=by
 have hg1:Ap [b0,b1] (0+1)=some b1:=Zc _ _ _
 have hq:Y E0 (.loop 155 0 0 1 [(1,.pa 0 0),(3,.i 0),(7,.i (Ak [b0,b1])),(8,.i 0)] [(0,some (.var [.sl (.sl (.sl .u8)) [b0,b1],.i u]))])=some (.fin (.exit 0) 0 [(3,.i (jK b0 b1))] []):=by
  unfold jK
  rcases h0 with h0|h0<;>rcases h1 with h1|h1
  ·rw[if_neg zaa,if_neg zaa];refine tq ?_;refine tq ?_;rw[hg1];refine tq ?_;refine tq ?_
   rfl
  ·rw[if_neg zaa,if_pos h1];refine tq ?_;refine tq ?_;rw[hg1];refine tq ?_;refine tq ?_
   (rw[zF.2.1];rfl)
  ·rw[if_pos h0,if_neg zaa];refine tq ?_;refine tq ?_;rw[hg1];refine tq ?_;refine tq ?_
   (rw[zF.1];rfl)
  ·rw[if_pos h0,if_pos h1];refine tq ?_;refine tq ?_;rw[hg1];refine tq ?_;refine tq ?_
   (rw[zF.1,zF.2.2];rfl)
 refine tq ?_;rw[hq];exact tq rfl
theorem Vh:(∀ v:Int,v=0\/v=2->BC .and (Bi v (BZ 0).toNat) 1=0)/\(∀ v:Int,v=1\/v=3->BC .and (Bi v (BZ 0).toNat) 1=1)/\(∀ v:Int,v=0\/v=1->BC .and (Bi v (BZ 1).toNat) 1=0)/\(∀ v:Int,v=2\/v=3->BC .and (Bi v (BZ 1).toNat) 1=1):=by
 rw[NP,Ux,FP]
 refine⟨?_,?_,?_,?_⟩<;>(rintro v (rfl|rfl)<;>decide +kernel)
theorem zG(h0:b0.length=0\/b0.length=16)(h1:b1.length=0\/b1.length=16):Y E0 (.call 292 [.agg [.sl (.sl (.sl .u8)) [b0,b1],.i u],.i 0] [])=some (.ret (.b (decide (0<b0.length))) []):=by
 have hb:BC .and (Bi (jK b0 b1) (BZ 0).toNat) 1=if 0<b0.length then 1 else 0:=by
  unfold jK
  rcases h0 with h0|h0
  ·rw[if_neg (show ¬b0.length=16 by omega),if_neg (show ¬0<b0.length by omega)]
   exact Vh.1 _ (by split<;>omega)
  ·rw[if_pos h0,if_pos (show 0<b0.length by omega)]
   exact Vh.2.1 _ (by split<;>omega)
 refine tq ?_;rw[ZQ _ _ _ h0 h1];refine tq ?_;rw[hb]
 (rw[GY];by_cases h:0<b0.length<;>simp[h])
theorem jL(h0:b0.length=0\/b0.length=16)(h1:b1.length=0\/b1.length=16):Y E0 (.call 292 [.agg [.sl (.sl (.sl .u8)) [b0,b1],.i u],.i 1] [])=some (.ret (.b (decide (0<b1.length))) []):=by
 have hb:BC .and (Bi (jK b0 b1) (BZ 1).toNat) 1=if 0<b1.length then 1 else 0:=by
  unfold jK
  rcases h1 with h1|h1
  ·rw[if_neg (show ¬b1.length=16 by omega),if_neg (show ¬0<b1.length by omega)]
   exact Vh.2.2.1 _ (by split<;>omega)
  ·rw[if_pos h1,if_pos (show 0<b1.length by omega)]
   exact Vh.2.2.2 _ (by split<;>omega)
 refine tq ?_;rw[ZQ _ _ _ h0 h1];refine tq ?_;rw[hb]
 (rw[GY];by_cases h:0<b1.length<;>simp[h])
theorem wK:EC E0 (.loop 261 0 0 3 [(2,.pa 0 0),(3,.pa 1 0),(6,.nil),(7,.nm 2),(13,AV.agg [AV.i s0,AV.i s1]),(14,AV.i 0)] [(0,some (Rs.var [AV.sl Ty.u8.sl.sl [b0,b1],AV.i u])),(1,some (Rs.var [AV.i s0,AV.i s1])),(2,some (Rs.row 5 Ty.u8 []))]) fun r=>(∃ x:AV,(¬(0<=s0/\s0<=65535/\0<=s1/\s1<=65535))/\r=some (.fin .ret 3 [(2,.pa 0 0),(3,.pa 1 0),(4,.nil),(5,.i 1),(6,x),(7,.nm 2)] [(0,some (Rs.var [AV.sl Ty.u8.sl.sl [b0,b1],AV.i u])),(1,some (Rs.var [AV.i s0,AV.i s1])),(2,some (Rs.row 5 Ty.u8 []))]))\/((0<=s0/\s0<=65535/\0<=s1/\s1<=65535)/\r=some (.fin (.exit 0) 3 [(2,AV.pa 0 0),(3,AV.pa 1 0),(6,AV.sl Ty.u8 (Bg (Bg [] 2 s0) 2 s1)),(7,AV.nm 2)] [(0,some (Rs.var [AV.sl Ty.u8.sl.sl [b0,b1],AV.i u])),(1,some (Rs.var [AV.i s0,AV.i s1])),(2,some (Rs.row 5 Ty.u8 []))])):=by
 refine G5 fun P hP=>?_
 refine tw ?_
 rcases Bc s0 0 with hc0|hc0
 ·refine tw ?_;exact hP _ (Or.inl ⟨AV.nil,AA,rfl⟩)
 refine tw ?_
 rcases Bc 65535 s0 with hc1|hc1
 ·refine tw ?_;exact hP _ (Or.inl ⟨AV.nil,AA,rfl⟩)
 refine tw ?_;rw[Dy _ _ _ AA];refine tw ?_;refine tw ?_
 rcases Bc s1 0 with hc2|hc2
 ·refine tw ?_;exact hP _ (Or.inl ⟨AV.sl Ty.u8 (Bg [] 2 s0),AA,rfl⟩)
 refine tw ?_
 rcases Bc 65535 s1 with hc3|hc3
 ·refine tw ?_;exact hP _ (Or.inl ⟨AV.sl Ty.u8 (Bg [] 2 s0),AA,rfl⟩)
 refine tw ?_;rw[Dy _ _ _ AA];refine tw ?_;refine tw ?_;exact hP _ (Or.inr ⟨AA,rfl⟩)
theorem Vj(b0 b1 b:List (List UInt8))(u a s s0 s1:Int)(hd acc:List UInt8)(ha:acc.length<=20000)(hgb:Ap [b0,b1] a=some b)(h:s=0\/b.length=16)(hm:∀ x∈b,x.length<=1000):∀(n j:Nat),j+n=16->Y E0 (.loop 261 2 0 2 [(2,.pa 0 0),(6,.sl .u8 hd),(7,.nm 1),(10,.i a),(11,.i s),(27,.agg [.i s0,.i s1]),(28,.i a),(40,.i (j:Int))] [(0,some (.var [.sl (.sl (.sl .u8)) [b0,b1],.i u])),(1,some (.row 5 .u8 (acc++OB s b j)))])=some (.fin (.exit 4) 2 [(2,.pa 0 0),(6,.sl .u8 hd),(7,.nm 1),(27,.agg [.i s0,.i s1]),(28,.i a)] [(0,some (.var [.sl (.sl (.sl .u8)) [b0,b1],.i u])),(1,some (.row 5 .u8 (acc++OC s b)))])
 | 0,j,hj=>by
  obtain rfl:j=16:=zaa
  refine tq ?_
  rfl
 | n+1,j,hj=>by
  have ih:=Vj b0 b1 b u a s s0 s1 hd acc ha hgb h hm n (j+1) zaa
  rw[show((j+1:Nat):Int)=(j:Int)+1 from by omega,OB] at ih
  have hle:=Ua (s:=s) hm j
  by_cases hb:BC .and (Bi s (BZ ((j:Nat):Int)).toNat) 1=1
  ·have hs:b.length=16:=by
    rcases h with h|h
    ·subst h;rw[cO j zaa] at hb;cases hb
    ·exact h
   rw[if_pos hb,<-List.append_assoc] at ih
   have hg:Ap b (j:Int)=some (b.getD j []):=by rw[JC zaa];simp[List.getD,List.getElem?_eq_getElem (show j<b.length by omega)]
   have hx:(b.getD j []).length<=1000:=by
    have:=hm _ (List.getElem_mem (show j<b.length by omega))
    simpa [List.getD,List.getElem?_eq_getElem (show j<b.length by omega)] using this
   have happ:BF (acc++OB s b j) (b.getD j [])=acc++OB s b j++b.getD j []:=Ac _ _
   rw[AL];conv=>lhs;whnf
   rw[Dl zaa]
   conv=>lhs;whnf
   rw[Dz hb];refine tq ?_;rw[hgb];refine to ?_;rw[hg];refine tq ?_;rw[happ];exact ih
  ·rw[if_neg hb,List.append_nil] at ih
   rw[AL];conv=>lhs;whnf
   rw[Dl zaa]
   conv=>lhs;whnf
   rw[Aa hb];refine tq ?_;exact ih
theorem wL(hd:List UInt8)(h0:b0=[]\/Eg 20 b0)(h1:b1=[]\/Eg 32 b1):EC E0 (.loop 261 1 0 2 [(2,.pa 0 0),(6,.sl .u8 hd),(7,.nm 1),(27,AV.agg [AV.i s0,AV.i s1]),(28,AV.i 0)] [(0,some (Rs.var [AV.sl Ty.u8.sl.sl [b0,b1],AV.i u])),(1,some (Rs.row 5 Ty.u8 []))]) fun r=>(∃ x:List UInt8,(¬((s0=0\/0<b0.length)/\(s1=0\/0<b1.length)))/\r=some (.fin .ret 0 [(4,.nil),(5,.i 27),(6,.sl .u8 hd),(7,.sl .u8 x)] []))\/(((s0=0\/0<b0.length)/\(s1=0\/0<b1.length))/\r=some (.fin (.exit 2) 0 [(6,.sl .u8 hd),(7,AV.sl Ty.u8 (OC s0 b0++OC s1 b1))] [])):=by
 have q0:=yc h0
 have q1:=yc h1
 have k0:=(WO h0 zaj).2
 have k1:=(WO h1 zaj).2
 have g0:Ap [b0,b1] 0=some b0:=nG _ _
 have g1:Ap [b0,b1] 1=some b1:=Zc _ _ _
 have e0:=fun h=>Vj b0 b1 b0 u 0 s0 s0 s1 hd [] zat g0 h k0 16 0 zaa
 have e1:=fun h=>Vj b0 b1 b1 u 1 s1 s0 s1 hd (OC s0 b0) (by have:=Qn (s:=s0) k0;omega) g1 h k1 16 0 zaa
 simp only[List.nil_append,show ∀ s b,OB s b 0=[] from fun _ _=>rfl,List.append_nil,show((0:Nat):Int)=0 from rfl] at e0 e1
 refine G5 fun P hP=>?_
 refine tw ?_
 rcases CE s0 0 with hc0|hc0
 ·refine tw ?_;rw[zG _ _ _ q0 q1];refine tw ?_
  rcases Decidable.em (0<b0.length) with hc1|hc1
  ·refine tw ?_;rw[e0 zaa];refine tw ?_;refine tw ?_
   rcases CE s1 0 with hc2|hc2
   ·refine tw ?_;rw[jL _ _ _ q0 q1];refine tw ?_
    rcases Decidable.em (0<b1.length) with hc3|hc3
    ·refine tw ?_;rw[e1 zaa];refine tw ?_;refine tw ?_;exact hP _ (Or.inr ⟨AA,rfl⟩)
    refine tw ?_;exact hP _ (Or.inl ⟨OC s0 b0,AA,rfl⟩)
   subst hc2;refine tw ?_;rw[e1 zaa];refine tw ?_;refine tw ?_;exact hP _ (Or.inr ⟨AA,rfl⟩)
  refine tw ?_;exact hP _ (Or.inl ⟨[],AA,rfl⟩)
 subst hc0;refine tw ?_;rw[e0 zaa];refine tw ?_;refine tw ?_
 rcases CE s1 0 with hc4|hc4
 ·refine tw ?_;rw[jL _ _ _ q0 q1];refine tw ?_
  rcases Decidable.em (0<b1.length) with hc5|hc5
  ·refine tw ?_;rw[e1 zaa];refine tw ?_;refine tw ?_;exact hP _ (Or.inr ⟨AA,rfl⟩)
  refine tw ?_;exact hP _ (Or.inl ⟨OC 0 b0,AA,rfl⟩)
 subst hc4;refine tw ?_;rw[e1 zaa];refine tw ?_;refine tw ?_;exact hP _ (Or.inr ⟨AA,rfl⟩)
theorem A82(h0:b0=[]\/Eg 20 b0)(h1:b1=[]\/Eg 32 b1):EC E0 (.call 261 [.agg [.sl (.sl (.sl .u8)) [b0,b1],.i u],.agg [.i s0,.i s1]] []) fun r=>(∃ e:Int,(e=1/\¬(0<=s0/\s0<=65535/\0<=s1/\s1<=65535)\/e=27/\(0<=s0/\s0<=65535/\0<=s1/\s1<=65535)/\¬((s0=0\/0<b0.length)/\(s1=0\/0<b1.length)))/\r=some (.ret (.tup [.sl .u8 [],.i e]) []))\/(((0<=s0/\s0<=65535/\0<=s1/\s1<=65535)/\(s0=0\/0<b0.length)/\(s1=0\/0<b1.length))/\r=some (.ret (.tup [.sl .u8 (AAS s0 s1 b0 b1),.i 0]) [])):=by
 have k0:=(WO h0 zaj).2
 have k1:=(WO h1 zaj).2
 have l0:=Qn (s:=s0) k0
 have l1:=Qn (s:=s1) k1
 have hf:(Az 5 [Bg (Bg [] 2 s0) 2 s1,OC s0 b0++OC s1 b1]).length<=4294967295:=by rw[Aw,A8,A8,List.length_append,List.length_nil];omega
 refine G5 fun P hP=>tw ?_
 obtain(⟨x0,h0_1,yy0⟩|⟨⟨h0_2,h0_3,h0_4,h0_5⟩,yy0⟩):=wK b0 b1 u s0 s1
 ·refine Dv yy0 ?_;exact hP _ (Or.inl ⟨1,AA,rfl⟩)
 refine Dv yy0 ?_
 obtain(⟨x1,h1_1,yy1⟩|⟨⟨h1_2,h1_3⟩,yy1⟩):=wL b0 b1 u s0 s1 (Bg (Bg [] 2 s0) 2 s1) AA AA
 ·refine Dv yy1 ?_;exact hP _ (Or.inl ⟨27,AA,rfl⟩)
 refine Dv yy1 ?_;rw[Fe _ _ hf zat];refine tw ?_;exact hP _ (Or.inr ⟨AA,rfl⟩)
end
end Go.Proofs.YtlpkjhhfhannpaaGreatDoor
namespace Go.Proofs.YtlpkjhhfhannpaaGreatDoor
open Go Go.Ax Go.Eng
theorem ACy(c:Int)(hs:List Int)(is:List Int)(bs:List (List UInt8))(v:Int):Y E0 (.call 19 [rq c hs [] is bs,.i v] [])=some (.ret (rq c hs [(v,[],[])] is bs) []):=by
 refine tq ?_
 with_reducible rfl
theorem x9(h k a t:Int)(p u d:List UInt8):Y E0 (.call 16 [.i h,.i k,.i a,.i t,.sl .u8 p,.sl .u8 u,.sl .u8 d] [])=some (.ret (rq 9 [h] [(0,[],[])] [k,a,t] [p,u,d]) []):=by
 refine tq ?_
 refine tq ?_
 with_reducible rfl
theorem A60(k:Int):Y E0 (.call 17 [.i k] [])=some (.ret (rq 16 [] [] [k] []) []):=by
 refine tq ?_
 with_reducible rfl
theorem xA(s:Int):Y E0 (.call 18 [.i s,.i 1,.agg [.i 0,.i 1],.i 0,.i 0,.sl (.sl .u8) [[]]] [])=some (.ret (rq 17 [] [] [s,1,0,1,0,0] [[]]) []):=by
 refine tq ?_
 with_reducible rfl
theorem ACz(c h:Int):Y E0 (.call 20 [.i c,.i h,.sl (.sl .u8) []] [])=some (.ret (rq c [h] [] [] []) []):=by
 refine tq ?_
 with_reducible rfl
end Go.Proofs.YtlpkjhhfhannpaaGreatDoor
