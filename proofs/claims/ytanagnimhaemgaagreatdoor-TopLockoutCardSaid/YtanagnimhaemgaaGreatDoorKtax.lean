/-
  Own texts, laid together for this claim: contracts of functions of the program and its references, used by the statements of this seat.
-/
import Derived.Test.YtanagnimhaemgaaGreatDoorKtac
import Derived.Test.YtanagnimhaemgaaGreatDoorKtad
import Derived.Test.YtanagnimhaemgaaGreatDoorKtaf
import Derived.Test.YtanagnimhaemgaaGreatDoorKtag
import Derived.Test.YtanagnimhaemgaaGreatDoorKtah
import Derived.Test.YtanagnimhaemgaaGreatDoorKtaj
import Derived.Test.YtanagnimhaemgaaGreatDoorKtas
set_option linter.all false
set_option maxHeartbeats 40000000
set_option maxRecDepth 100000
namespace Go.Ax
open Go.Eng
noncomputable def NU(s:Int)(b:List (List UInt8)):Nat->List UInt8
 | 0=>[]
 | j+1=>NU s b j++(if Ak .and (BN s (BJ ((j:Nat):Int)).toNat) 1=1 then b.getD j [] else [])
theorem Sj{s:Int}{b:List (List UInt8)}(h:∀ x∈b,x.length<=1000):∀ j,(NU s b j).length<=1000*j
 | 0=>by simp[NU]
 | j+1=>by
  have ih:=Sj (s:=s) h j
  rw[NU,List.length_append]
  split
  ·have hb:(b.getD j []).length<=1000:=by
    by_cases hj:j<b.length
    ·have:=h _ (List.getElem_mem hj)
     simpa [List.getD,List.getElem?_eq_getElem hj] using this
    ·simp[List.getD,List.getElem?_eq_none (show b.length<=j by omega)]
   omega
  ·simp only[List.length_nil];omega
noncomputable def NV(s:Int)(b:List (List UInt8)):List UInt8:=NU s b 16
noncomputable def A5L(s0 s1:Int)(b0 b1:List (List UInt8)):List UInt8:=sha256 (Af 5 [BH (BH [] 2 s0) 2 s1,NV s0 b0++NV s1 b1])
end Go.Ax
namespace Go.Proofs.YtanagnimhaemgaaGreatDoor
open Go Go.Ax Go.Eng
variable (u:Int)
section
attribute [local irreducible] Bl CS CU CJ Bh Ak CV Du EN E5 EH Be BN CE Bz and' CG CO BC Ag Ar BF BG AY Aa AP AX CW Dv CX DT C9 BJ BD BA BB Au AQ Az Ac Aw Ah CY BL Bi BR BI CB CZ CP fits Cb CQ A8 AA AZ
attribute [local irreducible] BK Dl Cj nameB ET Dz Af
theorem iL(b0 b1:List (List UInt8))(u s0 s1:Int):SI E0 (.loop 32 0 0 2 [(2,AV.pa 0 0),(3,AV.pa 1 0),(6,AV.i 0)] [(0,some (Rs.var [AV.sl Ty.u8.sl.sl [b0,b1],AV.i u])),(1,some (Rs.var [AV.i s0,AV.i s1]))]) fun r=>(¬(0<=s0/\s0<=65535/\0<=s1/\s1<=65535)/\r=some (.fin .ret 2 [(2,.pa 0 0),(3,.pa 1 0),(4,.nil),(5,.i 1)] [(0,some (Rs.var [AV.sl Ty.u8.sl.sl [b0,b1],AV.i u])),(1,some (Rs.var [AV.i s0,AV.i s1]))]))\/((0<=s0/\s0<=65535/\0<=s1/\s1<=65535)/\r=some (.fin (.exit 0) 2 [(2,.pa 0 0),(3,.pa 1 0)] [(0,some (Rs.var [AV.sl Ty.u8.sl.sl [b0,b1],AV.i u])),(1,some (Rs.var [AV.i s0,AV.i s1]))])):=by
 refine pY fun P hP=>?_
 refine tw ?_
 rcases DU s0 0 with hc0|hc0
 ·refine tw ?_;exact hP _ (Or.inl ⟨Am,rfl⟩)
 refine tw ?_
 rcases DU 65535 s0 with hc1|hc1
 ·refine tw ?_;exact hP _ (Or.inl ⟨Am,rfl⟩)
 refine tw ?_;refine tw ?_
 rcases DU s1 0 with hc2|hc2
 ·refine tw ?_;exact hP _ (Or.inl ⟨Am,rfl⟩)
 refine tw ?_
 rcases DU 65535 s1 with hc3|hc3
 ·refine tw ?_;exact hP _ (Or.inl ⟨Am,rfl⟩)
 refine tw ?_;refine tw ?_;exact hP _ (Or.inr ⟨Am,rfl⟩)
theorem Yc:∀ i<16,Ak .and (BN 0 (BJ ((i:Nat):Int)).toNat) 1=0:=by
 rw[Nl,TM,En]
 decide +kernel
theorem Uk(b0 b1:List (List UInt8))(u s0 s1:Int)(acc:List UInt8)(ha:acc.length<=20000)(h:s0=0\/b0.length=16)(hm:∀ x∈b0,x.length<=1000):∀(n j:Nat),j+n=16->Y E0 (.loop 32 2 0 3 [(2,AV.pa 0 0),(3,AV.pa 1 0),(7,AV.nm 2),(8,AV.i 0),(9,AV.i (j:Int))] [(0,some (Rs.var [AV.sl Ty.u8.sl.sl [b0,b1],AV.i u])),(1,some (Rs.var [AV.i s0,AV.i s1])),(2,some (Rs.row 5 Ty.u8 (acc++NU s0 b0 j)))])=some (.fin (.exit 4) 3 [(2,AV.pa 0 0),(3,AV.pa 1 0),(7,AV.nm 2),(8,AV.i 0)] [(0,some (Rs.var [AV.sl Ty.u8.sl.sl [b0,b1],AV.i u])),(1,some (Rs.var [AV.i s0,AV.i s1])),(2,some (Rs.row 5 Ty.u8 (acc++NV s0 b0)))])
 | 0,j,hj=>by
  obtain rfl:j=16:=zaa
  refine tq ?_
  rfl
 | n+1,j,hj=>by
  have ih:=Uk b0 b1 u s0 s1 acc ha h hm n (j+1) zaa
  rw[show((j+1:Nat):Int)=(j:Int)+1 from by omega,NU] at ih
  have hle:=Sj (s:=s0) hm j
  by_cases hb:Ak .and (BN s0 (BJ ((j:Nat):Int)).toNat) 1=1
  ·have hs:b0.length=16:=by
    rcases h with h|h
    ·subst h;rw[Yc j zaa] at hb;cases hb
    ·exact h
   rw[if_pos hb,<-List.append_assoc] at ih
   have hg:Ah b0 (j:Int)=some (b0.getD j []):=by rw[O4 zaa];simp[List.getD,List.getElem?_eq_getElem (show j<b0.length by omega)]
   have hx:(b0.getD j []).length<=1000:=by
    have:=hm _ (List.getElem_mem (show j<b0.length by omega))
    simpa [List.getD,List.getElem?_eq_getElem (show j<b0.length by omega)] using this
   have happ:BI (acc++NU s0 b0 j) (b0.getD j [])=acc++NU s0 b0 j++b0.getD j []:=Ap _ _
   rw[AU];conv=>lhs;whnf
   rw[Dn zaa]
   conv=>lhs;whnf
   try dsimp -iota -beta -eta -zeta only
   rw[Fh zaa]
   conv=>lhs;whnf
   rw[Dn zaa]
   conv=>lhs;whnf
   rw[Ep hb];refine to ?_;rw[hg];refine tq ?_;rw[happ];exact ih
  ·rw[if_neg hb,List.append_nil] at ih
   rw[AU];conv=>lhs;whnf
   rw[Dn zaa]
   conv=>lhs;whnf
   try dsimp -iota -beta -eta -zeta only
   rw[Fh zaa]
   conv=>lhs;whnf
   rw[Dn zaa]
   conv=>lhs;whnf
   rw[JK hb];refine tq ?_;exact ih
theorem Ul(b0 b1:List (List UInt8))(u s0 s1:Int)(acc:List UInt8)(ha:acc.length<=20000)(h:s1=0\/b1.length=16)(hm:∀ x∈b1,x.length<=1000):∀(n j:Nat),j+n=16->Y E0 (.loop 32 2 0 3 [(2,AV.pa 0 0),(3,AV.pa 1 0),(7,AV.nm 2),(8,AV.i 1),(9,AV.i (j:Int))] [(0,some (Rs.var [AV.sl Ty.u8.sl.sl [b0,b1],AV.i u])),(1,some (Rs.var [AV.i s0,AV.i s1])),(2,some (Rs.row 5 Ty.u8 (acc++NU s1 b1 j)))])=some (.fin (.exit 4) 3 [(2,AV.pa 0 0),(3,AV.pa 1 0),(7,AV.nm 2),(8,AV.i 1)] [(0,some (Rs.var [AV.sl Ty.u8.sl.sl [b0,b1],AV.i u])),(1,some (Rs.var [AV.i s0,AV.i s1])),(2,some (Rs.row 5 Ty.u8 (acc++NV s1 b1)))])
 | 0,j,hj=>by
  obtain rfl:j=16:=zaa
  refine tq ?_
  rfl
 | n+1,j,hj=>by
  have ih:=Ul b0 b1 u s0 s1 acc ha h hm n (j+1) zaa
  rw[show((j+1:Nat):Int)=(j:Int)+1 from by omega,NU] at ih
  have hle:=Sj (s:=s1) hm j
  by_cases hb:Ak .and (BN s1 (BJ ((j:Nat):Int)).toNat) 1=1
  ·have hs:b1.length=16:=by
    rcases h with h|h
    ·subst h;rw[Yc j zaa] at hb;cases hb
    ·exact h
   rw[if_pos hb,<-List.append_assoc] at ih
   have hg:Ah b1 (j:Int)=some (b1.getD j []):=by rw[O4 zaa];simp[List.getD,List.getElem?_eq_getElem (show j<b1.length by omega)]
   have hx:(b1.getD j []).length<=1000:=by
    have:=hm _ (List.getElem_mem (show j<b1.length by omega))
    simpa [List.getD,List.getElem?_eq_getElem (show j<b1.length by omega)] using this
   have happ:BI (acc++NU s1 b1 j) (b1.getD j [])=acc++NU s1 b1 j++b1.getD j []:=Ap _ _
   rw[AU];conv=>lhs;whnf
   rw[Dn zaa]
   conv=>lhs;whnf
   try dsimp -iota -beta -eta -zeta only
   rw[Fh zaa]
   conv=>lhs;whnf
   rw[Dn zaa]
   conv=>lhs;whnf
   rw[Ep hb];refine to ?_;rw[hg];refine tq ?_;rw[happ];exact ih
  ·rw[if_neg hb,List.append_nil] at ih
   rw[AU];conv=>lhs;whnf
   rw[Dn zaa]
   conv=>lhs;whnf
   try dsimp -iota -beta -eta -zeta only
   rw[Fh zaa]
   conv=>lhs;whnf
   rw[Dn zaa]
   conv=>lhs;whnf
   rw[JK hb];refine tq ?_;exact ih
theorem Pq{s:Int}{b:List (List UInt8)}(h:∀ x∈b,x.length<=1000):(NV s b).length<=16000:=Sj h 16
theorem iM(b0 b1:List (List UInt8))(u s0 s1:Int)(h0:b0=[]\/SK 20 b0)(h1:b1=[]\/SK 32 b1):SI E0 (.loop 32 1 0 3 [(2,AV.pa 0 0),(3,AV.pa 1 0),(7,AV.nm 2),(8,AV.i 0)] [(0,some (Rs.var [AV.sl Ty.u8.sl.sl [b0,b1],AV.i u])),(1,some (Rs.var [AV.i s0,AV.i s1])),(2,some (Rs.row 5 Ty.u8 []))]) fun r=>(∃ x:List UInt8,(¬((s0=0\/0<b0.length)/\(s1=0\/0<b1.length)))/\r=some (.fin .ret 1 [(3,AV.pa 0 0),(4,AV.nil),(5,AV.i 27),(7,AV.sl Ty.u8 x)] [(0,some (Rs.var [AV.i s0,AV.i s1]))]))\/(((s0=0\/0<b0.length)/\(s1=0\/0<b1.length))/\r=some (.fin (.exit 2) 1 [(3,AV.pa 0 0),(7,AV.sl Ty.u8 (NV s0 b0++NV s1 b1))] [(0,some (Rs.var [AV.i s0,AV.i s1]))])):=by
 have q0:=qP h0
 have q1:=qP h1
 have k0:=(Uj h0 zac).2
 have k1:=(Uj h1 zac).2
 have e0:=fun h=>Uk b0 b1 u s0 s1 [] zan h k0 16 0 zaa
 have e1:=fun h=>Ul b0 b1 u s0 s1 (NV s0 b0) (by have:=Pq (s:=s0) k0;omega) h k1 16 0 zaa
 simp only[List.nil_append,show NU s0 b0 0=[] from rfl,show NU s1 b1 0=[] from rfl,List.append_nil,show((0:Nat):Int)=0 from rfl] at e0 e1
 refine pY fun P hP=>?_
 refine tw ?_
 rcases Dc s0 0 with hc0|hc0
 ·refine tw ?_;rw[uz _ _ _ Am];refine tw ?_
  rcases Decidable.em (0<b0.length) with hc1|hc1
  ·refine tw ?_;rw[e0 zaa];refine tw ?_;refine tw ?_
   rcases Dc s1 0 with hc2|hc2
   ·refine tw ?_;rw[Ya _ _ _ _ Am];refine tw ?_
    rcases Decidable.em (0<b1.length) with hc3|hc3
    ·refine tw ?_;rw[e1 zaa];refine tw ?_;refine tw ?_;exact hP _ (Or.inr ⟨Am,rfl⟩)
    refine tw ?_;exact hP _ (Or.inl ⟨NV s0 b0,Am,rfl⟩)
   subst hc2;refine tw ?_;rw[e1 zaa];refine tw ?_;refine tw ?_;exact hP _ (Or.inr ⟨Am,rfl⟩)
  refine tw ?_;exact hP _ (Or.inl ⟨[],Am,rfl⟩)
 subst hc0;refine tw ?_;rw[e0 zaa];refine tw ?_;refine tw ?_
 rcases Dc s1 0 with hc4|hc4
 ·refine tw ?_;rw[Ya _ _ _ _ Am];refine tw ?_
  rcases Decidable.em (0<b1.length) with hc5|hc5
  ·refine tw ?_;rw[e1 zaa];refine tw ?_;refine tw ?_;exact hP _ (Or.inr ⟨Am,rfl⟩)
  refine tw ?_;exact hP _ (Or.inl ⟨NV 0 b0,Am,rfl⟩)
 subst hc4;refine tw ?_;rw[e1 zaa];refine tw ?_;refine tw ?_;exact hP _ (Or.inr ⟨Am,rfl⟩)
end
section
attribute [local irreducible] Bl CS CU CJ Bh Ak CV Du EN E5 EH Be BN CE Bz and' CG CO BC Ag Ar BF BG AY Aa AP AX CW Dv CX DT C9 BJ BD BA BB Au AQ Az Ac Aw Ah CY BL Bi BR BI CB CZ CP fits Cb CQ A8 AA AZ
attribute [local irreducible] BK Dl Cj nameB ET Dz Af Ef Ec FM FC Hr BH Ik I9 Ip Jd
theorem jE:Ak .or 0 (Be 1 (BJ (0+1)).toNat)=2/\Ak .and (BN 2 (BJ 1).toNat) 1=1:=by
 have e:(BJ 1).toNat=1:=by rw[J5];rfl
 rw[show(0:Int)+1=1 from rfl,e,Nl,VU,TM]
 decide
theorem A3I:Y E0 (.call 155 [.agg [.sl (.sl (.sl .u8)) [[],GR 32],.i u]] [])=some (.ret (.i 2) []):=by
 have hl:(GR 32).length=16:=Gh 32 16
 have hg1:Ah [[],GR 32] (0+1)=some (GR 32):=lg1 _ _ _
 have hq:Y E0 (.loop 155 0 0 1 [(1,.pa 0 0),(3,.i 0),(7,.i (Aw [[],GR 32])),(8,.i 0)] [(0,some (.var [.sl (.sl (.sl .u8)) [[],GR 32],.i u]))])=some (.fin (.exit 0) 0 [(3,.i 2)] []):=by
  refine tq ?_;refine tq ?_;rw[hg1]
  conv=>lhs;whnf
  rw[Ep (by rw[AC,hl];rfl)]
  refine tq ?_;refine tq ?_
  (rw[jE.1])
 refine tq ?_;rw[hq];exact tq rfl
theorem A5R:Y E0 (.call 283 [.agg [.sl (.sl (.sl .u8)) [[],GR 32],.i u],.i 1] [])=some (.ret (.b true) []):=by
 refine tq ?_;rw[A3I _];refine tq ?_;rw[jE.2]
 (rw[Ep (by rfl)])
theorem A1H : Y E0 (.loop 256 0 0 3 [(2, .pa 0 0), (3, .pa 1 0), (6, .nil), (7, .nm 2), (13, AV.agg [AV.i 0, AV.i 1]), (14, AV.i 0)] [(0, some (Rs.var [AV.sl Ty.u8.sl.sl [[], GR 32], AV.i u])), (1, some (Rs.var [AV.i 0, AV.i 1])), (2, some (Rs.row 5 Ty.u8 []))]) = some (.fin (.exit 0) 3 [(2, AV.pa 0 0), (3, AV.pa 1 0), (6, AV.sl Ty.u8 (BH (BH [] 2 0) 2 1)), (7, AV.nm 2)]
        [(0, some (Rs.var [AV.sl Ty.u8.sl.sl [[], GR 32], AV.i u])), (1, some (Rs.var [AV.i 0, AV.i 1])), (2, some (Rs.row 5 Ty.u8 []))]) := by
  refine tq ?_; rw [DN _ _ _ Am]; refine tq ?_; refine tq ?_; rw [DN _ _ _ Am]; refine tq ?_; exact tq rfl
theorem mF:(∀ i<16,Ak .and (BN 0 (BJ ((i:Nat):Int)).toNat) 1=0)/\(∀ i<16,1<=i->Ak .and (BN 1 (BJ ((i:Nat):Int)).toNat) 1=0)/\Ak .and (BN 1 (BJ 0).toNat) 1=1:=by
 rw[Nl,TM,En]
 refine⟨?_,?_,?_⟩<;>decide +kernel
theorem mG(u a s:Int)(hd vs:List UInt8)(j0:Nat)(hz:∀ i<16,j0<=i->Ak .and (BN s (BJ ((i:Nat):Int)).toNat) 1=0):∀(k j:Nat),j0<=j->j+k=16->Y E0 (.loop 256 2 0 2 [(2,.pa 0 0),(6,.sl .u8 hd),(7,.nm 1),(10,.i a),(11,.i s),(27,.agg [.i 0,.i 1]),(28,.i a),(40,.i (j:Int))] [(0,some (.var [.sl (.sl (.sl .u8)) [[],GR 32],.i u])),(1,some (.row 5 .u8 vs))])=some (.fin (.exit 4) 2 [(2,.pa 0 0),(6,.sl .u8 hd),(7,.nm 1),(27,.agg [.i 0,.i 1]),(28,.i a)] [(0,some (.var [.sl (.sl (.sl .u8)) [[],GR 32],.i u])),(1,some (.row 5 .u8 vs))])
 | 0,j,hj,hk=>by
  exact tq rfl
 | k+1,j,hj,hk=>by
  have ih:=mG u a s hd vs j0 hz k (j+1) zaa zaa
  rw[show((j+1:Nat):Int)=(j:Int)+1 from by omega] at ih
  have hb:=hz j zaa hj
  rw[AU];conv=>lhs;whnf
  rw[Dn zaa]
  conv=>lhs;whnf
  rw[hb];refine tq ?_;exact ih
theorem A3J(hd:List UInt8):Y E0 (.loop 256 2 0 2 [(2,.pa 0 0),(6,.sl .u8 hd),(7,.nm 1),(10,.i 1),(11,.i 1),(27,.agg [.i 0,.i 1]),(28,.i 1),(40,.i 0)] [(0,some (.var [.sl (.sl (.sl .u8)) [[],GR 32],.i u])),(1,some (.row 5 .u8 []))])=some (.fin (.exit 4) 2 [(2,.pa 0 0),(6,.sl .u8 hd),(7,.nm 1),(27,.agg [.i 0,.i 1]),(28,.i 1)] [(0,some (.var [.sl (.sl (.sl .u8)) [[],GR 32],.i u])),(1,some (.row 5 .u8 (List.replicate 32 0)))]):=by
 have hb:=mF.2.2
 have hl:(GR 32).length=16:=Gh 32 16
 have hg:Ah (GR 32) 0=some (List.replicate 32 0):=by rw[KR];rfl
 have ha:BI [] (List.replicate 32 (0:UInt8))=List.replicate 32 0:=by rw[Ap];rfl
 have hi:=mG u 1 1 hd (List.replicate 32 0) 1 (fun i h1 h2=>mF.2.1 i h1 h2) 15 1 zaa zaa
 rw[show((1:Nat):Int)=0+1 from rfl] at hi
 rw[AU];conv=>lhs;whnf
 rw[Dn zaa]
 conv=>lhs;whnf
 rw[hb];refine tq ?_;rw[hg];refine tq ?_;rw[ha];exact hi
theorem A1I(hd:List UInt8):Y E0 (.loop 256 1 0 2 [(2,.pa 0 0),(6,.sl .u8 hd),(7,.nm 1),(27,AV.agg [AV.i 0,AV.i 1]),(28,AV.i 0)] [(0,some (Rs.var [AV.sl Ty.u8.sl.sl [[],GR 32],AV.i u])),(1,some (Rs.row 5 Ty.u8 []))])=some (.fin (.exit 2) 0 [(6,.sl .u8 hd),(7,.sl .u8 (List.replicate 32 0))] []):=by
 have h0:=mG u 0 0 hd [] 0 (fun i h1 _=>mF.1 i h1) 16 0 zaa zaa
 rw[show((0:Nat):Int)=0 from rfl] at h0
 have h1:=A3J u hd
 refine tq ?_;rw[h0];refine tq ?_;refine tq ?_;rw[show(0:Int)+1=1 from rfl,A5R];refine tq ?_;rw[h1];refine tq ?_;exact tq rfl
def NY:List UInt8:=sha256 (Af 5 [BH (BH [] 2 0) 2 1,List.replicate 32 0])
theorem qc:Y E0 (.call 256 [.agg [.sl (.sl (.sl .u8)) [[],GR 32],.i u],.agg [.i 0,.i 1]] [])=some (.ret (.tup [.sl .u8 NY,.i 0]) []):=by
 have hf:(Af 5 [BH (BH [] 2 0) 2 1,List.replicate 32 0]).length<=4294967295:=by rw[Ce,Ad,Ad];simp
 refine tq ?_;rw[A1H];refine tq ?_;rw[A1I];refine tq ?_;rw[FB _ _ hf zan];refine tq ?_
 rfl
end
end Go.Proofs.YtanagnimhaemgaaGreatDoor
