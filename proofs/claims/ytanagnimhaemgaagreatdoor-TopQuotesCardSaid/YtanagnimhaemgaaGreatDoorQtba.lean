/-
  Own texts, laid together for this claim: contracts of functions of the program and its references, used by the statements of this seat.
-/
import Derived.Test.YtanagnimhaemgaaGreatDoorQtac
import Derived.Test.YtanagnimhaemgaaGreatDoorQtaf
import Derived.Test.YtanagnimhaemgaaGreatDoorQtag
import Derived.Test.YtanagnimhaemgaaGreatDoorQtai
import Derived.Test.YtanagnimhaemgaaGreatDoorQtaj
import Derived.Test.YtanagnimhaemgaaGreatDoorQtak
import Derived.Test.YtanagnimhaemgaaGreatDoorQtao
import Derived.Test.YtanagnimhaemgaaGreatDoorQtaq
import Derived.Test.YtanagnimhaemgaaGreatDoorQtat
import Derived.Test.YtanagnimhaemgaaGreatDoorQtav
import Derived.Test.YtanagnimhaemgaaGreatDoorQtay
import Derived.Test.YtanagnimhaemgaaGreatDoorQtaz
set_option linter.all false
set_option maxHeartbeats 40000000
set_option maxRecDepth 100000
namespace Go.Proofs.YtanagnimhaemgaaGreatDoor
open Go Go.Ax Go.Eng
variable (c n u nb s0:Int)(hs:List Int)(s1:Int)(az:List (El AQ))(is:List Int)(bs:List (List UInt8))
section
attribute [local irreducible] Bl CQ CS Bo Bg Ar CU Dw EN Dy EC Bf BU Bv Bz and' C9 CB BK Au BA BL BN Aa Ad AP AZ CV Dq CW DI CE BP BM BF BG BB AU BC Ae Ap Ai CX BH Bh Ba BO CG CY CJ fits CZ CO A8 AA Ac
attribute [local irreducible] Aw Di DC nameB EL EJ Ag Ei Eo FU FD Fb BQ Iu ES G6 Ef FN JS H8 NM NP FM
theorem QV{E:Env}{q:Rq}{R:Option Rsp->Prop}(h:RY E q R):∃ r,Y E q=r/\R r:=⟨_,rfl,h⟩
theorem zY(b0 b1:List (List UInt8))(u s0 s1:Int)(h0:b0=[]\/EF 20 b0)(h1:b1=[]\/EF 32 b1):RY E0 (.call 32 [Om [b0,b1] u,.agg [.i s0,.i s1]] []) fun r=>(∃ e:Int,(e=1/\¬(0<=s0/\s0<=65535/\0<=s1/\s1<=65535)\/e=27/\(0<=s0/\s0<=65535/\0<=s1/\s1<=65535)/\¬((s0=0\/0<b0.length)/\(s1=0\/0<b1.length)))/\r=some (.ret (.tup [.sl .u8 [],.i e]) []))\/(((0<=s0/\s0<=65535/\0<=s1/\s1<=65535)/\(s0=0\/0<b0.length)/\(s1=0\/0<b1.length))/\r=some (.ret (.tup [.sl .u8 (U0 s0 s1 b0 b1),.i 0]) [])):=by
 have k0:=(Og h0 zad).2
 have k1:=(Og h1 zad).2
 have l0:=NC (s:=s0) k0
 have l1:=NC (s:=s1) k1
 have hf:(Ag 5 [BQ (BQ [] 2 s0) 2 s1,MN s0 b0++MN s1 b1]).length<=4294967295:=zaX
 refine rF fun P hP=>?_
 refine tw ?_
 obtain(⟨h0_0,yy0⟩|⟨⟨h0_1,h0_2,h0_3,h0_4⟩,yy0⟩):=Vf b0 b1 u s0 s1
 ·
  refine oM yy0 ?_
  exact hP _ (Or.inl ⟨1,Aq,rfl⟩)
 refine oM yy0 ?_
 obtain(⟨x1,h1_1,yy1⟩|⟨⟨h1_2,h1_3⟩,yy1⟩):=Vj b0 b1 u s0 s1 Aq Aq
 ·
  refine oM yy1 ?_
  exact hP _ (Or.inl ⟨27,Aq,rfl⟩)
 refine oM yy1 ?_
 rw[Fj _ _ _ Aq]
 refine tw ?_
 rw[Fj _ _ _ Aq]
 refine tw ?_
 rw[HY _ _ hf zak]
 refine tw ?_
 exact hP _ (Or.inr ⟨Aq,rfl⟩)
theorem eY:RY E0 (.loop 32 0 0 2 [(2,AV.pa 0 0),(3,AV.pa 1 0),(6,AV.i 0)] [(0,some (Rs.var [AV.sl Ty.u8.sl.sl [],AV.i u])),(1,some (Rs.var [AV.i s0,AV.i s1]))]) fun r=>(¬(0<=s0/\s0<=65535/\0<=s1/\s1<=65535)/\r=some (.fin .ret 2 [(2,.pa 0 0),(3,.pa 1 0),(4,.nil),(5,.i 1)] [(0,some (Rs.var [AV.sl Ty.u8.sl.sl [],AV.i u])),(1,some (Rs.var [AV.i s0,AV.i s1]))]))\/((0<=s0/\s0<=65535/\0<=s1/\s1<=65535)/\r=some (.fin (.exit 0) 2 [(2,.pa 0 0),(3,.pa 1 0)] [(0,some (Rs.var [AV.sl Ty.u8.sl.sl [],AV.i u])),(1,some (Rs.var [AV.i s0,AV.i s1]))])):=by
 refine rF fun P hP=>?_
 rw[AO];conv=>arg 1;whnf
 refine tw ?_
 rcases D7 s0 0 with hc0|hc0
 ·
  refine tw ?_
  exact hP _ (Or.inl ⟨Aq,rfl⟩)
 refine tw ?_
 rcases D7 65535 s0 with hc1|hc1
 ·
  refine tw ?_
  exact hP _ (Or.inl ⟨Aq,rfl⟩)
 refine tw ?_
 refine tw ?_
 rcases D7 s1 0 with hc2|hc2
 ·
  refine tw ?_
  exact hP _ (Or.inl ⟨Aq,rfl⟩)
 refine tw ?_
 rcases D7 65535 s1 with hc3|hc3
 ·
  refine tw ?_
  exact hP _ (Or.inl ⟨Aq,rfl⟩)
 refine tw ?_
 refine tw ?_
 exact hP _ (Or.inr ⟨Aq,rfl⟩)
theorem U2(u s0 s1:Int)(acc:List UInt8)(ha:acc.length<=20000)(hs:s0=0):∀(n j:Nat),j+n=16->Y E0 (.loop 32 2 0 3 [(2,AV.pa 0 0),(3,AV.pa 1 0),(7,AV.nm 2),(8,AV.i 0),(9,AV.i (j:Int))] [(0,some (Rs.var [AV.sl Ty.u8.sl.sl [],AV.i u])),(1,some (Rs.var [AV.i s0,AV.i s1])),(2,some (Rs.row 5 Ty.u8 acc))])=some (.fin (.exit 4) 3 [(2,AV.pa 0 0),(3,AV.pa 1 0),(7,AV.nm 2),(8,AV.i 0)] [(0,some (Rs.var [AV.sl Ty.u8.sl.sl [],AV.i u])),(1,some (Rs.var [AV.i s0,AV.i s1])),(2,some (Rs.row 5 Ty.u8 acc))])
 | 0,j,hj=>by
  obtain rfl:j=16:=zaa
  rw[AO];conv=>lhs;whnf
  refine tq ?_
  with_reducible rfl
 | n+1,j,hj=>by
  have ih:=U2 u s0 s1 acc ha hs n (j+1) zaa
  rw[show((j+1:Nat):Int)=(j:Int)+1 from by omega] at ih
  have hb:¬Ar .and (BU s0 (BP ((j:Nat):Int)).toNat) 1=1:=by rw[hs,aF j zaa];decide
  rw[AO];conv=>lhs;whnf
  refine tq ?_
  exact ih
theorem U3(u s0 s1:Int)(acc:List UInt8)(ha:acc.length<=20000)(hs:s1=0):∀(n j:Nat),j+n=16->Y E0 (.loop 32 2 0 3 [(2,AV.pa 0 0),(3,AV.pa 1 0),(7,AV.nm 2),(8,AV.i 1),(9,AV.i (j:Int))] [(0,some (Rs.var [AV.sl Ty.u8.sl.sl [],AV.i u])),(1,some (Rs.var [AV.i s0,AV.i s1])),(2,some (Rs.row 5 Ty.u8 acc))])=some (.fin (.exit 4) 3 [(2,AV.pa 0 0),(3,AV.pa 1 0),(7,AV.nm 2),(8,AV.i 1)] [(0,some (Rs.var [AV.sl Ty.u8.sl.sl [],AV.i u])),(1,some (Rs.var [AV.i s0,AV.i s1])),(2,some (Rs.row 5 Ty.u8 acc))])
 | 0,j,hj=>by
  obtain rfl:j=16:=zaa
  rw[AO];conv=>lhs;whnf
  refine tq ?_
  with_reducible rfl
 | n+1,j,hj=>by
  have ih:=U3 u s0 s1 acc ha hs n (j+1) zaa
  rw[show((j+1:Nat):Int)=(j:Int)+1 from by omega] at ih
  have hb:¬Ar .and (BU s1 (BP ((j:Nat):Int)).toNat) 1=1:=by rw[hs,aF j zaa];decide
  rw[AO];conv=>lhs;whnf
  refine tq ?_
  exact ih
theorem eu:RY E0 (.loop 32 1 0 3 [(2,AV.pa 0 0),(3,AV.pa 1 0),(7,AV.nm 2),(8,AV.i 0)] [(0,some (Rs.var [AV.sl Ty.u8.sl.sl [],AV.i u])),(1,some (Rs.var [AV.i s0,AV.i s1])),(2,some (Rs.row 5 Ty.u8 []))]) fun r=>(∃ x:List UInt8,(¬(s0=0/\s1=0))/\r=some (.fin .ret 1 [(3,AV.pa 0 0),(4,AV.nil),(5,AV.i 27),(7,AV.sl Ty.u8 x)] [(0,some (Rs.var [AV.i s0,AV.i s1]))]))\/((s0=0/\s1=0)/\r=some (.fin (.exit 2) 1 [(3,AV.pa 0 0),(7,AV.sl Ty.u8 [])] [(0,some (Rs.var [AV.i s0,AV.i s1]))])):=by
 have e0:=fun h=>U2 u s0 s1 [] zak h 16 0 zaa
 have e1:=fun h=>U3 u s0 s1 [] zak h 16 0 zaa
 simp only[show((0:Nat):Int)=0 from rfl] at e0 e1
 refine rF fun P hP=>?_
 rw[AO];conv=>arg 1;whnf
 refine tw ?_
 rcases Bj s0 0 with hc0|hc0
 ·
  refine tw ?_
  rw[aA _ _ Aq]
  refine tw ?_
  exact hP _ (Or.inl ⟨[],Aq,rfl⟩)
 subst hc0
 replace e0:=e0 rfl
 refine tw ?_
 rw[e0]
 refine tw ?_
 refine tw ?_
 rcases Bj s1 0 with hc1|hc1
 ·
  refine tw ?_
  rw[aA _ _ Aq]
  refine tw ?_
  exact hP _ (Or.inl ⟨[],Aq,rfl⟩)
 subst hc1
 replace e1:=e1 rfl
 refine tw ?_
 rw[e1]
 refine tw ?_
 refine tw ?_
 exact hP _ (Or.inr ⟨Aq,rfl⟩)
theorem zZ:RY E0 (.call 32 [.agg [AV.sl Ty.u8.sl.sl [],AV.i u],.agg [.i s0,.i s1]] []) fun r=>(∃ e:Int,(e=1/\¬(0<=s0/\s0<=65535/\0<=s1/\s1<=65535)\/e=27/\(0<=s0/\s0<=65535/\0<=s1/\s1<=65535)/\¬(s0=0/\s1=0))/\r=some (.ret (.tup [.sl .u8 [],.i e]) []))\/(((0<=s0/\s0<=65535/\0<=s1/\s1<=65535)/\(s0=0/\s1=0))/\r=some (.ret (.tup [.sl .u8 (sha256 (Ag 5 [BQ (BQ [] 2 s0) 2 s1,[]])),.i 0]) [])):=by
 have hf:(Ag 5 [BQ (BQ [] 2 s0) 2 s1,[]]).length<=4294967295:=by rw[BV,AB,AB,List.length_nil];simp
 obtain⟨r0,e0,hr0⟩:=QV (eY u s0 s1)
 obtain⟨r1,e1,hr1⟩:=QV (eu u s0 s1)
 rcases hr0 with⟨hn,rfl⟩|⟨hn,rfl⟩
 ·refine rF fun P hP=>?_
  refine tw ?_
  rw[e0]
  refine tw ?_
  exact hP _ (Or.inl ⟨1,Aq,rfl⟩)
 ·rcases hr1 with⟨x,hm,rfl⟩|⟨hm,rfl⟩
  ·refine rF fun P hP=>?_
   refine tw ?_
   rw[e0]
   refine tw ?_
   rw[e1]
   refine tw ?_
   exact hP _ (Or.inl ⟨27,Aq,rfl⟩)
  ·refine rF fun P hP=>?_
   refine tw ?_
   rw[e0]
   refine tw ?_
   rw[e1]
   refine tw ?_
   rw[Fj _ _ _ Aq]
   refine tw ?_
   rw[Fj _ _ _ Aq]
   refine tw ?_
   rw[HY _ _ hf zak]
   refine tw ?_
   exact hP _ (Or.inr ⟨Aq,rfl⟩)
theorem lD:Y E0 (.call 155 [.agg [AV.sl Ty.u8.sl.sl [],AV.i u]] [])=some (.ret (.i 0) []):=by
 have hq:Y E0 (.loop 155 0 0 1 [(1,.pa 0 0),(3,.i 0),(7,.i (Ap ([]:List (List (List UInt8))))),(8,.i 0)] [(0,some (.var [AV.sl Ty.u8.sl.sl [],AV.i u]))])=some (.fin (.exit 0) 0 [(3,.i 0)] []):=by
  exact tq rfl
 refine tq ?_
 rw[hq]
 exact tq rfl
theorem xB(a:Int)(ha:a=0\/a=1):Y E0 (.call 283 [.agg [AV.sl Ty.u8.sl.sl [],AV.i u],.i a] [])=some (.ret (.b false) []):=by
 rcases ha with rfl|rfl
 ·refine tq ?_
  rw[lD]
  refine tq ?_
  rw[V8.1 0 zaa]
  (congr 3;simp only[J3,Jo,Jd,Jp,DF,IB,AC];first|rfl|(rw[decide_eq_decide];omega)|(simp;omega))
 ·refine tq ?_
  rw[lD]
  refine tq ?_
  rw[V8.2.2.1 0 zaa]
  (congr 3;simp only[J3,Jo,Jd,Jp,DF,IB,AC];first|rfl|(rw[decide_eq_decide];omega)|(simp;omega))
theorem lF:RY E0 (.loop 256 0 0 3 [(2,.pa 0 0),(3,.pa 1 0),(6,.nil),(7,.nm 2),(13,AV.agg [AV.i s0,AV.i s1]),(14,AV.i 0)] [(0,some (Rs.var [AV.sl Ty.u8.sl.sl [],AV.i u])),(1,some (Rs.var [AV.i s0,AV.i s1])),(2,some (Rs.row 5 Ty.u8 []))]) fun r=>(∃ x:AV,(¬(0<=s0/\s0<=65535/\0<=s1/\s1<=65535))/\r=some (.fin .ret 3 [(2,.pa 0 0),(3,.pa 1 0),(4,.nil),(5,.i 1),(6,x),(7,.nm 2)] [(0,some (Rs.var [AV.sl Ty.u8.sl.sl [],AV.i u])),(1,some (Rs.var [AV.i s0,AV.i s1])),(2,some (Rs.row 5 Ty.u8 []))]))\/((0<=s0/\s0<=65535/\0<=s1/\s1<=65535)/\r=some (.fin (.exit 0) 3 [(2,AV.pa 0 0),(3,AV.pa 1 0),(6,AV.sl Ty.u8 (BQ (BQ [] 2 s0) 2 s1)),(7,AV.nm 2)] [(0,some (Rs.var [AV.sl Ty.u8.sl.sl [],AV.i u])),(1,some (Rs.var [AV.i s0,AV.i s1])),(2,some (Rs.row 5 Ty.u8 []))])):=by
 refine rF fun P hP=>?_
 rw[AO];conv=>arg 1;whnf
 refine tw ?_
 rcases D7 s0 0 with hc0|hc0
 ·
  refine tw ?_
  exact hP _ (Or.inl ⟨AV.nil,Aq,rfl⟩)
 refine tw ?_
 rcases D7 65535 s0 with hc1|hc1
 ·
  refine tw ?_
  exact hP _ (Or.inl ⟨AV.nil,Aq,rfl⟩)
 refine tw ?_
 rw[D5 _ _ _ Aq]
 refine tw ?_
 refine tw ?_
 rcases D7 s1 0 with hc2|hc2
 ·
  refine tw ?_
  exact hP _ (Or.inl ⟨AV.sl Ty.u8 (BQ [] 2 s0),Aq,rfl⟩)
 refine tw ?_
 rcases D7 65535 s1 with hc3|hc3
 ·
  refine tw ?_
  exact hP _ (Or.inl ⟨AV.sl Ty.u8 (BQ [] 2 s0),Aq,rfl⟩)
 refine tw ?_
 rw[D5 _ _ _ Aq]
 refine tw ?_
 refine tw ?_
 exact hP _ (Or.inr ⟨Aq,rfl⟩)
theorem Rf(u a s s0 s1:Int)(hd acc:List UInt8)(ha:acc.length<=20000)(h:s=0):∀(n j:Nat),j+n=16->Y E0 (.loop 256 2 0 2 [(2,.pa 0 0),(6,.sl .u8 hd),(7,.nm 1),(10,.i a),(11,.i s),(27,.agg [.i s0,.i s1]),(28,.i a),(40,.i (j:Int))] [(0,some (.var [AV.sl Ty.u8.sl.sl [],AV.i u])),(1,some (.row 5 .u8 acc))])=some (.fin (.exit 4) 2 [(2,.pa 0 0),(6,.sl .u8 hd),(7,.nm 1),(27,.agg [.i s0,.i s1]),(28,.i a)] [(0,some (.var [AV.sl Ty.u8.sl.sl [],AV.i u])),(1,some (.row 5 .u8 acc))])
 | 0,j,hj=>by
  obtain rfl:j=16:=zaa
  rw[AO];conv=>lhs;whnf
  refine tq ?_
  with_reducible rfl
 | n+1,j,hj=>by
  have ih:=Rf u a s s0 s1 hd acc ha h n (j+1) zaa
  rw[show((j+1:Nat):Int)=(j:Int)+1 from by omega] at ih
  have hb:¬Ar .and (BU s (BP ((j:Nat):Int)).toNat) 1=1:=by rw[h,aF j zaa];decide
  rw[AO];conv=>lhs;whnf
  refine tq ?_
  exact ih
theorem lG(hd:List UInt8):RY E0 (.loop 256 1 0 2 [(2,.pa 0 0),(6,.sl .u8 hd),(7,.nm 1),(27,AV.agg [AV.i s0,AV.i s1]),(28,AV.i 0)] [(0,some (Rs.var [AV.sl Ty.u8.sl.sl [],AV.i u])),(1,some (Rs.row 5 Ty.u8 []))]) fun r=>(∃ x:List UInt8,(¬(s0=0/\s1=0))/\r=some (.fin .ret 0 [(4,.nil),(5,.i 27),(6,.sl .u8 hd),(7,.sl .u8 x)] []))\/((s0=0/\s1=0)/\r=some (.fin (.exit 2) 0 [(6,.sl .u8 hd),(7,AV.sl Ty.u8 [])] [])):=by
 have e0:=fun h=>Rf u 0 s0 s0 s1 hd [] zak h 16 0 zaa
 have e1:=fun h=>Rf u 1 s1 s0 s1 hd [] zak h 16 0 zaa
 simp only[show((0:Nat):Int)=0 from rfl] at e0 e1
 refine rF fun P hP=>?_
 rw[AO];conv=>arg 1;whnf
 refine tw ?_
 rcases Bj s0 0 with hc0|hc0
 ·
  refine tw ?_
  rw[xB _ _ zaa]
  refine tw ?_
  exact hP _ (Or.inl ⟨[],Aq,rfl⟩)
 subst hc0
 replace e0:=e0 rfl
 refine tw ?_
 rw[e0]
 refine tw ?_
 refine tw ?_
 rcases Bj s1 0 with hc1|hc1
 ·
  refine tw ?_
  rw[xB _ _ zaa]
  refine tw ?_
  exact hP _ (Or.inl ⟨[],Aq,rfl⟩)
 subst hc1
 replace e1:=e1 rfl
 refine tw ?_
 rw[e1]
 refine tw ?_
 refine tw ?_
 exact hP _ (Or.inr ⟨Aq,rfl⟩)
theorem A3Z:RY E0 (.call 256 [.agg [AV.sl Ty.u8.sl.sl [],AV.i u],.agg [.i s0,.i s1]] []) fun r=>(∃ e:Int,(e=1/\¬(0<=s0/\s0<=65535/\0<=s1/\s1<=65535)\/e=27/\(0<=s0/\s0<=65535/\0<=s1/\s1<=65535)/\¬(s0=0/\s1=0))/\r=some (.ret (.tup [.sl .u8 [],.i e]) []))\/(((0<=s0/\s0<=65535/\0<=s1/\s1<=65535)/\(s0=0/\s1=0))/\r=some (.ret (.tup [.sl .u8 (sha256 (Ag 5 [BQ (BQ [] 2 s0) 2 s1,[]])),.i 0]) [])):=by
 have hf:(Ag 5 [BQ (BQ [] 2 s0) 2 s1,[]]).length<=4294967295:=by rw[BV,AB,AB,List.length_nil];simp
 refine rF fun P hP=>?_
 refine tw ?_
 obtain(⟨x0,h0_1,yy0⟩|⟨⟨h0_2,h0_3,h0_4,h0_5⟩,yy0⟩):=lF u s0 s1
 ·
  refine oM yy0 ?_
  exact hP _ (Or.inl ⟨1,Aq,rfl⟩)
 refine oM yy0 ?_
 obtain(⟨x1,h1_1,yy1⟩|⟨⟨h1_2,h1_3⟩,yy1⟩):=lG u s0 s1 (BQ (BQ [] 2 s0) 2 s1)
 ·
  refine oM yy1 ?_
  exact hP _ (Or.inl ⟨27,Aq,rfl⟩)
 refine oM yy1 ?_
 rw[Eu _ _ hf zak]
 refine tw ?_
 exact hP _ (Or.inr ⟨Aq,rfl⟩)
theorem A3a{a:Int}{rb:List (List (List UInt8))}(q0 q1:Int)(h:A67 a rb):∃(d:List UInt8) (er:Int),d.length<=1000/\Y E0 (.call 256 [.agg [.sl (.sl (.sl .u8)) rb,.i u],.agg [.i q0,.i q1]] [])=some (.ret (.tup [.sl .u8 d,.i er]) [])/\Y E0 (.call 32 [.agg [.sl (.sl (.sl .u8)) rb,.i u],.agg [.i q0,.i q1]] [])=some (.ret (.tup [.sl .u8 d,.i er]) []):=by
 rcases h with rfl|⟨b0,b1,rfl,h0,h1,_⟩
 ·obtain⟨r,er,hr⟩:=QV (A3Z u q0 q1)
  obtain⟨r',er',hr'⟩:=QV (zZ u q0 q1)
  rcases hr with⟨e,he,rfl⟩|⟨he,rfl⟩<;>rcases hr' with⟨e',he',rfl⟩|⟨he',rfl⟩
  ·obtain rfl:e=e':=zaa
   exact⟨_,_,by simp,er,er'⟩
  ·exfalso;omega
  ·exfalso;omega
  ·exact⟨_,_,by rw[A7];decide,er,er'⟩
 ·obtain⟨r,er,hr⟩:=QV (xA b0 b1 u q0 q1 h0 h1)
  obtain⟨r',er',hr'⟩:=QV (zY b0 b1 u q0 q1 h0 h1)
  rcases hr with⟨e,he,rfl⟩|⟨he,rfl⟩<;>rcases hr' with⟨e',he',rfl⟩|⟨he',rfl⟩
  ·obtain rfl:e=e':=zaa
   exact⟨_,_,by simp,er,er'⟩
  ·exfalso;omega
  ·exfalso;omega
  ·exact⟨_,_,by unfold U0;rw[A7];decide,er,er'⟩
end
section
attribute [local irreducible] Bl CQ CS Bo Bg Ar CU Dw EN Dy EC Bf BU Bv Bz and' C9 CB BK Au BA BL BN Aa Ad AP AZ CV Dq CW DI CE BP BM BF BG BB AU BC Ae Ap Ai CX BH Bh Ba BO CG CY CJ fits CZ CO A8 AA Ac
attribute [local irreducible] Aw
theorem YY{b:List (List UInt8)}{u:Int}(h:EF 32 b):(NS [[],b] u).length=521:=by
 have:∀ l:List (List UInt8),(∀ x∈l,x.length=32)->l.flatten.length=32*l.length:=by
  intro l;induction l with
  | nil=>intro _;rfl
  | cons a l ih=>intro h;rw[List.flatten_cons,List.length_append,h a (List.mem_cons_self ..),ih fun x hx=>h x (List.mem_cons_of_mem _ hx),List.length_cons];omega
 rw[NS,List.length_cons,List.length_append,Bq,List.flatten_cons,List.flatten_cons,List.flatten_nil,List.append_nil,List.nil_append,this b h.2,h.1]
end
section
attribute [local irreducible] Bl CQ CS Bo Bg Ar CU Dw EN Dy EC Bf BU Bv Bz and' C9 CB BK Au BA BL BN Aa Ad AP AZ CV Dq CW DI CE BP BM BF BG BB AU BC Ae Ap Ai CX BH Bh Ba BO CG CY CJ fits CZ CO A8 AA Ac
attribute [local irreducible] Aw Di encS
theorem U8(sd au:List (List UInt8))(en:List UInt8)(ac re rs ck:Int)(od:Bool)(su mc:Int)(ix:List (El AL))(l1 l2 l3 l4 l5 l6:Int)(ks:List (El BR))(h:stOK sd au en ac re rs ck su mc ix l1 l2 l3 l4 l5 l6 ks):(encS sd au en ac re rs ck od [] su mc ix l1 l2 l3 l4 l5 l6 ks).length<=30000 :=
 aK sd au en ac re rs ck od [] su mc ix l1 l2 l3 l4 l5 l6 ks (by rw[Vl,List.length_cons,Bq];decide) h
end
section
attribute [local irreducible] Bl CQ CS Bo Bg Ar CU Dw EN Dy EC Bf BU Bv Bz and' C9 CB BK Au BA BL BN Aa Ad AP AZ CV Dq CW DI CE BP BM BF BG BB AU BC Ae Ap Ai CX BH Bh Ba BO CG CY CJ fits CZ CO A8 AA Ac
theorem lm:Y E0 (.loop 158 0 0 0 [(0,.i 1),(9,.agg fmC),(10,.i 0)] [])=some (.fin .ret 0 [(2,.i 0),(3,.i 0),(4,.i 1),(5,.i 0),(6,.b true)] []):=by
 rw[AO];conv=>lhs;whnf
 exact tq rfl
theorem aN:Y E0 (.call 158 [.i 1] [])=some (.ret (.tup [.i 0,.i 0,.i 1,.i 0,.b true]) []):=by
 refine tq ?_
 rw[lm]
 exact tq rfl
theorem lq:Y E0 (.loop 158 0 0 0 [(0,.i 9),(9,.agg fmC),(10,.i 0)] [])=some (.fin .ret 0 [(2,.i 1),(3,.i 1),(4,.i 3),(5,.i 3),(6,.b true)] []):=by
 rw[AO];conv=>lhs;whnf
 refine tq ?_
 refine tq ?_
 refine tq ?_
 refine tq ?_
 refine tq ?_
 refine tq ?_
 refine tq ?_
 exact tq rfl
theorem A04:Y E0 (.call 158 [.i 9] [])=some (.ret (.tup [.i 1,.i 1,.i 3,.i 3,.b true]) []):=by
 refine tq ?_
 rw[lq]
 exact tq rfl
theorem fF:Y E0 (.loop 158 0 0 0 [(0,.i 13),(9,.agg fmC),(10,.i 0)] [])=some (.fin .ret 0 [(2,.i 1),(3,.i 1),(4,.i 0),(5,.i 0),(6,.b true)] []):=by
 rw[AO];conv=>lhs;whnf
 refine tq ?_
 refine tq ?_
 refine tq ?_
 refine tq ?_
 refine tq ?_
 refine tq ?_
 refine tq ?_
 refine tq ?_
 refine tq ?_
 refine tq ?_
 refine tq ?_
 exact tq rfl
theorem tC:Y E0 (.call 158 [.i 13] [])=some (.ret (.tup [.i 1,.i 1,.i 0,.i 0,.b true]) []):=by
 refine tq ?_
 rw[fF]
 exact tq rfl
theorem fG:Y E0 (.loop 158 0 0 0 [(0,.i 16),(9,.agg fmC),(10,.i 0)] [])=some (.fin .ret 0 [(2,.i 0),(3,.i 0),(4,.i 1),(5,.i 0),(6,.b true)] []):=by
 rw[AO];conv=>lhs;whnf
 refine tq ?_
 refine tq ?_
 refine tq ?_
 refine tq ?_
 refine tq ?_
 refine tq ?_
 refine tq ?_
 refine tq ?_
 refine tq ?_
 refine tq ?_
 refine tq ?_
 refine tq ?_
 refine tq ?_
 refine tq ?_
 exact tq rfl
theorem tH:Y E0 (.call 158 [.i 16] [])=some (.ret (.tup [.i 0,.i 0,.i 1,.i 0,.b true]) []):=by
 refine tq ?_
 rw[fG]
 exact tq rfl
theorem fH:Y E0 (.loop 158 0 0 0 [(0,.i 17),(9,.agg fmC),(10,.i 0)] [])=some (.fin .ret 0 [(2,.i 0),(3,.i 0),(4,.i 6),(5,.i (-1)),(6,.b true)] []):=by
 rw[AO];conv=>lhs;whnf
 refine tq ?_
 refine tq ?_
 refine tq ?_
 refine tq ?_
 refine tq ?_
 refine tq ?_
 refine tq ?_
 refine tq ?_
 refine tq ?_
 refine tq ?_
 refine tq ?_
 refine tq ?_
 refine tq ?_
 refine tq ?_
 refine tq ?_
 exact tq rfl
theorem tJ:Y E0 (.call 158 [.i 17] [])=some (.ret (.tup [.i 0,.i 0,.i 6,.i (-1),.b true]) []):=by
 refine tq ?_
 rw[fH]
 exact tq rfl
theorem Hq:Y E0 (.call 159 [.i n,.i n] [])=some (.ret (.b true) []):=by
 refine tq ?_
 with_reducible rfl
theorem fJ(h:0<=n/\n<=8):Y E0 (.call 159 [.i n,.i (-1)] [])=some (.ret (.b true) []):=by
 refine tq ?_
 with_reducible rfl
theorem lu(h:0<=n/\n<=65535):Y E0 (.call 179 [.i n] [])=some (.ret (.b true) []):=by
 refine tq ?_
 with_reducible rfl
theorem lw(c:Int)(hs:List Int)(az:List (El AQ))(is:List Int)(bs:List (List UInt8))(hl:hs.length<=10):∀(k j:Nat) (b:List UInt8),j+k=hs.length->b.length+2*k<=1000 ->
  Y E0 (.loop 180 0 0 2 [(1,.pa 0 0),(3,.nm 1),(20,.sl .i64 hs),(21,.i (hs.length:Int)),(22,.i (j:Int))] [(0,some (.var [.i c,.sl .i64 hs,.sl AQ az,.sl .i64 is,.sl (.sl .u8) bs])),(1,some (.row 5 .u8 b))])
   = some (.fin (.exit 0) 2 [(1,.pa 0 0),(3,.nm 1)] [(0,some (.var [.i c,.sl .i64 hs,.sl AQ az,.sl .i64 is,.sl (.sl .u8) bs])),(1,some (.row 5 .u8 (b++(hs.drop j).flatMap n2)))])
 | 0,j,b,hj,hb=>by
  obtain rfl:j=hs.length:=zaa
  rw[List.drop_length,List.flatMap_nil,List.append_nil]
  rw[AO];conv=>lhs;whnf
  refine tq ?_
  with_reducible rfl
 | k+1,j,b,hj,hb=>by
  obtain⟨x,hm,hg⟩:=Gp (l:=hs) (i:=(j:Int)) zaa
  have ih:=lw c hs az is bs hl k (j+1) (b++n2 x) zaa (by rw[List.length_append,D9];omega)
  rw[DD] at hg
  rw[show((j+1:Nat):Int)=(j:Int)+1 from by omega,List.append_assoc,<-List.flatMap_cons,<-Hy hg,<-U4] at ih
  rw[<-DD] at hg
  rw[AO];conv=>lhs;whnf
  refine to ?_
  rw[hg]
  refine tq ?_
  rw[D5 _ _ _ Aq]
  refine tq ?_
  exact ih
theorem A3p(hl:hs.length<=10)(b:List UInt8)(hb:b.length<=100):
  Y E0 (.loop 180 0 0 2 [(1,.pa 0 0),(3,.nm 1),(20,.sl .i64 hs),(21,.i (Ap hs)),(22,.i 0)] [(0,some (.var [.i c,.sl .i64 hs,.sl AQ az,.sl .i64 is,.sl (.sl .u8) bs])),(1,some (.row 5 .u8 b))])
   = some (.fin (.exit 0) 2 [(1,.pa 0 0),(3,.nm 1)] [(0,some (.var [.i c,.sl .i64 hs,.sl AQ az,.sl .i64 is,.sl (.sl .u8) bs])),(1,some (.row 5 .u8 (b++hs.flatMap n2)))]):=by
 have h:=lw c hs az is bs hl hs.length 0 b zaa zaa
 rw[AC];rw[List.drop_zero] at h;exact h
theorem A3q(b:List UInt8)(x:El AQ)(h:x.2.1.length<=1000/\x.2.2.length<=1000):Ht (Ht (BQ b 2 x.1) x.2.1) x.2.2=b++MH x:=by
 rw[GI zaa,GI zaa,U4,MH];simp only[List.append_assoc]
theorem We(x:El AQ)(h:x.2.1.length<=1000/\x.2.2.length<=1000):(MH x).length<=2006:=by
 simp only[MH,List.length_append,D9,Ce];omega
theorem mD(c:Int)(hs:List Int)(az:List (El AQ))(is:List Int)(bs:List (List UInt8))(hl:az.length<=10)(hx:∀ x∈az,x.2.1.length<=1000/\x.2.2.length<=1000):∀(k j:Nat) (b:List UInt8),j+k=az.length->b.length+2006*k<=50000 ->
  Y E0 (.loop 180 1 0 2 [(1,.pa 0 0),(3,.nm 1),(31,.sl AQ az),(32,.i (az.length:Int)),(33,.i (j:Int))] [(0,some (.var [.i c,.sl .i64 hs,.sl AQ az,.sl .i64 is,.sl (.sl .u8) bs])),(1,some (.row 5 .u8 b))])
   = some (.fin (.exit 2) 2 [(1,.pa 0 0),(3,.nm 1)] [(0,some (.var [.i c,.sl .i64 hs,.sl AQ az,.sl .i64 is,.sl (.sl .u8) bs])),(1,some (.row 5 .u8 (b++(az.drop j).flatMap MH)))])
 | 0,j,b,hj,hb=>by
  obtain rfl:j=az.length:=zaa
  rw[List.drop_length,List.flatMap_nil,List.append_nil]
  rw[AO];conv=>lhs;whnf
  refine tq ?_
  with_reducible rfl
 | k+1,j,b,hj,hb=>by
  obtain⟨x,hm,hg⟩:=Gp (l:=az) (i:=(j:Int)) zaa
  have ho:=hx x hm
  have el:=We x ho
  have ih:=mD c hs az is bs hl hx k (j+1) (b++MH x) zaa zaC
  rw[DD] at hg
  rw[show((j+1:Nat):Int)=(j:Int)+1 from by omega,List.append_assoc,<-List.flatMap_cons,<-Hy hg,<-A3q b x ho] at ih
  rw[<-DD] at hg
  rw[AO];conv=>lhs;whnf
  refine to ?_
  rw[hg]
  refine tq ?_
  rw[D5 _ _ _ Aq]
  refine tq ?_
  rw[Ep _ _ Aq]
  refine tq ?_
  rw[Ep _ _ Aq]
  refine tq ?_
  exact ih
theorem A3r(hl:az.length<=10)(hx:∀ x∈az,x.2.1.length<=1000/\x.2.2.length<=1000)(b:List UInt8)(hb:b.length<=20000):
  Y E0 (.loop 180 1 0 2 [(1,.pa 0 0),(3,.nm 1),(31,.sl AQ az),(32,.i (Ap az)),(33,.i 0)] [(0,some (.var [.i c,.sl .i64 hs,.sl AQ az,.sl .i64 is,.sl (.sl .u8) bs])),(1,some (.row 5 .u8 b))])
   = some (.fin (.exit 2) 2 [(1,.pa 0 0),(3,.nm 1)] [(0,some (.var [.i c,.sl .i64 hs,.sl AQ az,.sl .i64 is,.sl (.sl .u8) bs])),(1,some (.row 5 .u8 (b++az.flatMap MH)))]):=by
 have h:=mD c hs az is bs hl hx az.length 0 b zaa zaa
 rw[AC];rw[List.drop_zero] at h;exact h
theorem mF(c:Int)(hs:List Int)(az:List (El AQ))(is:List Int)(bs:List (List UInt8))(hl:is.length<=10):∀(k j:Nat) (b:List UInt8),j+k=is.length->b.length+8*k<=50000 ->
  Y E0 (.loop 180 2 0 2 [(1,.pa 0 0),(3,.nm 1),(49,.sl .i64 is),(50,.i (is.length:Int)),(51,.i (j:Int))] [(0,some (.var [.i c,.sl .i64 hs,.sl AQ az,.sl .i64 is,.sl (.sl .u8) bs])),(1,some (.row 5 .u8 b))])
   = some (.fin (.exit 4) 2 [(1,.pa 0 0),(3,.nm 1)] [(0,some (.var [.i c,.sl .i64 hs,.sl AQ az,.sl .i64 is,.sl (.sl .u8) bs])),(1,some (.row 5 .u8 (b++(is.drop j).flatMap n8)))])
 | 0,j,b,hj,hb=>by
  obtain rfl:j=is.length:=zaa
  rw[List.drop_length,List.flatMap_nil,List.append_nil]
  rw[AO];conv=>lhs;whnf
  refine tq ?_
  with_reducible rfl
 | k+1,j,b,hj,hb=>by
  obtain⟨x,hm,hg⟩:=Gp (l:=is) (i:=(j:Int)) zaa
  have el:=Bq x
  have ih:=mF c hs az is bs hl k (j+1) (b++n8 x) zaa zaC
  rw[DD] at hg
  rw[show((j+1:Nat):Int)=(j:Int)+1 from by omega,List.append_assoc,<-List.flatMap_cons,<-Hy hg,<-KL] at ih
  rw[<-DD] at hg
  rw[AO];conv=>lhs;whnf
  refine to ?_
  rw[hg]
  refine tq ?_
  rw[D5 _ _ _ Aq]
  refine tq ?_
  exact ih
theorem A3s(hl:is.length<=10)(b:List UInt8)(hb:b.length<=40000):
  Y E0 (.loop 180 2 0 2 [(1,.pa 0 0),(3,.nm 1),(49,.sl .i64 is),(50,.i (Ap is)),(51,.i 0)] [(0,some (.var [.i c,.sl .i64 hs,.sl AQ az,.sl .i64 is,.sl (.sl .u8) bs])),(1,some (.row 5 .u8 b))])
   = some (.fin (.exit 4) 2 [(1,.pa 0 0),(3,.nm 1)] [(0,some (.var [.i c,.sl .i64 hs,.sl AQ az,.sl .i64 is,.sl (.sl .u8) bs])),(1,some (.row 5 .u8 (b++is.flatMap n8)))]):=by
 have h:=mF c hs az is bs hl is.length 0 b zaa zaa
 rw[AC];rw[List.drop_zero] at h;exact h
theorem mG(bs:List (List UInt8))(hl:bs.length<=10)(hx:∀ x∈bs,x.length<=2000):∀(k j:Nat) (b:List UInt8),j+k=bs.length->b.length+2002*k<=100000 ->
  Y E0 (.loop 180 3 0 1 [(3,.nm 0),(67,.sl (.sl .u8) bs),(68,.i (bs.length:Int)),(69,.i (j:Int))] [(0,some (.row 5 .u8 b))])
   = some (.fin (.exit 6) 1 [(3,.nm 0)] [(0,some (.row 5 .u8 (b++(bs.drop j).flatMap bl)))])
 | 0,j,b,hj,hb=>by
  obtain rfl:j=bs.length:=zaa
  rw[List.drop_length,List.flatMap_nil,List.append_nil]
  rw[AO];conv=>lhs;whnf
  refine tq ?_
  with_reducible rfl
 | k+1,j,b,hj,hb=>by
  obtain⟨x,hm,hg⟩:=Gp (l:=bs) (i:=(j:Int)) zaa
  have ho:=hx x hm
  have el:=Ce x
  have ih:=mG bs hl hx k (j+1) (b++bl x) zaa zaC
  rw[DD] at hg
  rw[show((j+1:Nat):Int)=(j:Int)+1 from by omega,List.append_assoc,<-List.flatMap_cons,<-Hy hg,<-GI (show x.length<=65535 by omega)] at ih
  rw[<-DD] at hg
  rw[AO];conv=>lhs;whnf
  refine to ?_
  rw[hg]
  refine tq ?_
  rw[Ep _ _ Aq]
  refine tq ?_
  exact ih
theorem A3t(hl:bs.length<=10)(hx:∀ x∈bs,x.length<=2000)(b:List UInt8)(hb:b.length<=70000):
  Y E0 (.loop 180 3 0 1 [(3,.nm 0),(67,.sl (.sl .u8) bs),(68,.i (Ap bs)),(69,.i 0)] [(0,some (.row 5 .u8 b))])
   = some (.fin (.exit 6) 1 [(3,.nm 0)] [(0,some (.row 5 .u8 (b++bs.flatMap bl)))]):=by
 have h:=mG bs hl hx bs.length 0 b zaa zaa
 rw[AC];rw[List.drop_zero] at h;exact h
theorem AAD:CY (BO (BO [UInt8.ofNat 83,UInt8.ofNat 87] [UInt8.ofNat 0,UInt8.ofNat 0,DI c]++List.flatMap n2 hs++List.flatMap MH az++List.flatMap n8 is) [DI (Ap bs)]++List.flatMap bl bs) 2 4 (BQ [] 2 (Ap (BO (BO [UInt8.ofNat 83,UInt8.ofNat 87] [UInt8.ofNat 0,UInt8.ofNat 0,DI c]++List.flatMap n2 hs++List.flatMap MH az++List.flatMap n8 is) [DI (Ap bs)]++List.flatMap bl bs)))=Hm c hs az is bs:=by
 simp only[Am,AC,Dh,U4,List.nil_append,List.append_assoc,List.cons_append]
 rw[Hm,Gt]
 simp only[List.append_assoc,List.cons_append,List.nil_append,List.length_cons]
 generalize List.flatMap n2 hs++(List.flatMap MH az++(List.flatMap n8 is++UInt8.ofInt (bs.length:Int)::List.flatMap bl bs))=B
 rw[ou,lcpv0]
 have h2:=D9 ((B.length+1+1+1+1+1:Nat):Int)
 rw[show(5:Int)+(B.length:Int)=((B.length+1+1+1+1+1:Nat):Int) from by omega]
 generalize n2 ((B.length+1+1+1+1+1:Nat):Int)=N at h2 ⊢
 have hN:N.take 2=N:=List.take_of_length_le zaa
 rw[h2]
 show [_,_]++N.take 2++_::B=_
 rw[hN];simp
theorem A05(hl:hs.length<=10)(hal:az.length<=10)(ham:∀ x∈az,x.2.1.length<=1000/\x.2.2.length<=1000)(hil:is.length<=10)(hbl:bs.length<=10)(hbm:∀ x∈bs,x.length<=2000):Y E0 (.call 180 [rq c hs az is bs] [])=some (.ret (.sl .u8 (Hm c hs az is bs)) []):=by
 have hH:(hs.flatMap n2).length<=20:=Nat.le_trans (Ho (m:=2) fun x _=>by rw[D9];decide) zaa
 have hA:(az.flatMap MH).length<=20060:=Nat.le_trans (Ho (m:=2006) fun x hx=>We x (ham x hx)) zaa
 have hI:(is.flatMap n8).length<=80:=Nat.le_trans (Ho (m:=8) fun x _=>by rw[Bq];decide) zaa
 have hB:(bs.flatMap bl).length<=20020:=Nat.le_trans (Ho (m:=2002) fun x hx=>by have:=hbm x hx;rw[Ce];omega) zaa
 refine tq ?_
 rw[A3p _ _ _ _ _ Aq _ Aq]
 refine tq ?_
 rw[A3r _ _ _ _ _ Aq Aq _ Aq]
 refine tq ?_
 rw[A3s _ _ _ _ _ Aq _ Aq]
 refine tq ?_
 rw[A3t _ Aq Aq _ Aq]
 refine tq ?_
 rw[D5 _ _ _ Aq]
 refine tq ?_
 (rw[<-AAD])
theorem mJ(c:Int)(hs:List Int)(az:List (El AQ))(is:List Int)(bs:List (List UInt8))(hl:hs.length<=10)(hx:∀ x∈hs,0<=x/\x<=65535):∀(k j:Nat),j+k=hs.length ->
  Y E0 (.loop 160 0 0 1 [(1,.pa 0 0),(8,.b true),(57,.sl .i64 hs),(58,.i (hs.length:Int)),(59,.i (j:Int))] [(0,some (.var [.i c,.sl .i64 hs,.sl AQ az,.sl .i64 is,.sl (.sl .u8) bs]))])=some (.fin (.exit 0) 1 [(1,.pa 0 0),(8,.b true)] [(0,some (.var [.i c,.sl .i64 hs,.sl AQ az,.sl .i64 is,.sl (.sl .u8) bs]))])
 | 0,j,hj=>by
  obtain rfl:j=hs.length:=zaa
  rw[AO];conv=>lhs;whnf
  refine tq ?_
  with_reducible rfl
 | k+1,j,hj=>by
  obtain⟨x,hm,hg⟩:=Gp (l:=hs) (i:=(j:Int)) zaa
  have ho:=hx x hm
  have ih:=mJ c hs az is bs hl hx k (j+1) zaa
  rw[show((j+1:Nat):Int)=(j:Int)+1 from by omega] at ih
  rw[AO];conv=>lhs;whnf
  refine to ?_
  rw[hg]
  refine tq ?_
  rw[lu _ Aq]
  refine tq ?_
  exact ih
theorem A3u(hl:hs.length<=10)(hx:∀ x∈hs,0<=x/\x<=65535):
  Y E0 (.loop 160 0 0 1 [(1,.pa 0 0),(8,.b true),(57,.sl .i64 hs),(58,.i (Ap hs)),(59,.i 0)] [(0,some (.var [.i c,.sl .i64 hs,.sl AQ az,.sl .i64 is,.sl (.sl .u8) bs]))])=some (.fin (.exit 0) 1 [(1,.pa 0 0),(8,.b true)] [(0,some (.var [.i c,.sl .i64 hs,.sl AQ az,.sl .i64 is,.sl (.sl .u8) bs]))]):=by
 have h:=mJ c hs az is bs hl hx hs.length 0 zaa
 rw[AC];exact h
theorem mM(c:Int)(hs:List Int)(az:List (El AQ))(is:List Int)(bs:List (List UInt8))(hl:az.length<=10)(hx:∀ x∈az,0<=x.1/\x.1<=65535):∀(k j:Nat),j+k=az.length ->
  Y E0 (.loop 160 1 0 1 [(1,.pa 0 0),(8,.b true),(70,.sl AQ az),(71,.i (az.length:Int)),(72,.i (j:Int))] [(0,some (.var [.i c,.sl .i64 hs,.sl AQ az,.sl .i64 is,.sl (.sl .u8) bs]))])=some (.fin (.exit 2) 1 [(1,.pa 0 0),(8,.b true)] [(0,some (.var [.i c,.sl .i64 hs,.sl AQ az,.sl .i64 is,.sl (.sl .u8) bs]))])
 | 0,j,hj=>by
  obtain rfl:j=az.length:=zaa
  rw[AO];conv=>lhs;whnf
  refine tq ?_
  with_reducible rfl
 | k+1,j,hj=>by
  obtain⟨x,hm,hg⟩:=Gp (l:=az) (i:=(j:Int)) zaa
  have ho:=hx x hm
  have ih:=mM c hs az is bs hl hx k (j+1) zaa
  rw[show((j+1:Nat):Int)=(j:Int)+1 from by omega] at ih
  rw[AO];conv=>lhs;whnf
  refine to ?_
  rw[hg]
  refine tq ?_
  rw[lu _ Aq]
  refine tq ?_
  exact ih
theorem A3v(hl:az.length<=10)(hx:∀ x∈az,0<=x.1/\x.1<=65535):
  Y E0 (.loop 160 1 0 1 [(1,.pa 0 0),(8,.b true),(70,.sl AQ az),(71,.i (Ap az)),(72,.i 0)] [(0,some (.var [.i c,.sl .i64 hs,.sl AQ az,.sl .i64 is,.sl (.sl .u8) bs]))])=some (.fin (.exit 2) 1 [(1,.pa 0 0),(8,.b true)] [(0,some (.var [.i c,.sl .i64 hs,.sl AQ az,.sl .i64 is,.sl (.sl .u8) bs]))]):=by
 have h:=mM c hs az is bs hl hx az.length 0 zaa
 rw[AC];exact h
theorem mO(c:Int)(hs:List Int)(az:List (El AQ))(is:List Int)(bs:List (List UInt8))(hl:is.length<=10)(hx:∀ x∈is,0<=x/\x<=1099511627776):∀(k j:Nat),j+k=is.length ->
  Y E0 (.loop 160 2 0 1 [(1,.pa 0 0),(8,.b true),(84,.sl .i64 is),(85,.i (is.length:Int)),(86,.i (j:Int))] [(0,some (.var [.i c,.sl .i64 hs,.sl AQ az,.sl .i64 is,.sl (.sl .u8) bs]))])=some (.fin (.exit 4) 1 [(1,.pa 0 0),(8,.b true)] [(0,some (.var [.i c,.sl .i64 hs,.sl AQ az,.sl .i64 is,.sl (.sl .u8) bs]))])
 | 0,j,hj=>by
  obtain rfl:j=is.length:=zaa
  rw[AO];conv=>lhs;whnf
  refine tq ?_
  with_reducible rfl
 | k+1,j,hj=>by
  obtain⟨x,hm,hg⟩:=Gp (l:=is) (i:=(j:Int)) zaa
  have ho:=hx x hm
  have ih:=mO c hs az is bs hl hx k (j+1) zaa
  rw[show((j+1:Nat):Int)=(j:Int)+1 from by omega] at ih
  rw[AO];conv=>lhs;whnf
  refine to ?_
  rw[hg]
  conv=>lhs;whnf
  rw[Fg zaa]
  conv=>lhs;whnf
  try dsimp -iota -beta -eta -zeta only
  rw[Bc zaa]
  rw[Fg (show x<=1099511627776 by omega)];exact ih
theorem A3w(hl:is.length<=10)(hx:∀ x∈is,0<=x/\x<=1099511627776):
  Y E0 (.loop 160 2 0 1 [(1,.pa 0 0),(8,.b true),(84,.sl .i64 is),(85,.i (Ap is)),(86,.i 0)] [(0,some (.var [.i c,.sl .i64 hs,.sl AQ az,.sl .i64 is,.sl (.sl .u8) bs]))])=some (.fin (.exit 4) 1 [(1,.pa 0 0),(8,.b true)] [(0,some (.var [.i c,.sl .i64 hs,.sl AQ az,.sl .i64 is,.sl (.sl .u8) bs]))]):=by
 have h:=mO c hs az is bs hl hx is.length 0 zaa
 rw[AC];exact h
theorem mP(c:Int)(hs:List Int)(az:List (El AQ))(is:List Int)(bs:List (List UInt8))(hl:az.length<=10)(hx:∀ x∈az,x.2.1.length<=128/\x.2.2.length<=128):∀(k j:Nat),j+k=az.length ->
  Y E0 (.loop 160 3 0 1 [(1,.pa 0 0),(8,.b true),(103,.sl AQ az),(104,.i (az.length:Int)),(105,.i (j:Int))] [(0,some (.var [.i c,.sl .i64 hs,.sl AQ az,.sl .i64 is,.sl (.sl .u8) bs]))])=some (.fin (.exit 6) 1 [(1,.pa 0 0),(8,.b true)] [(0,some (.var [.i c,.sl .i64 hs,.sl AQ az,.sl .i64 is,.sl (.sl .u8) bs]))])
 | 0,j,hj=>by
  obtain rfl:j=az.length:=zaa
  rw[AO];conv=>lhs;whnf
  refine tq ?_
  with_reducible rfl
 | k+1,j,hj=>by
  obtain⟨x,hm,hg⟩:=Gp (l:=az) (i:=(j:Int)) zaa
  have ho:=hx x hm
  have ih:=mP c hs az is bs hl hx k (j+1) zaa
  rw[show((j+1:Nat):Int)=(j:Int)+1 from by omega] at ih
  rw[AO];conv=>lhs;whnf
  refine to ?_
  rw[hg]
  conv=>lhs;whnf
  rw[Fg zao]
  conv=>lhs;whnf
  try dsimp -iota -beta -eta -zeta only
  rw[Bc zaa]
  rw[Fg (show Ap x.2.2<=128 by rw[AC];omega)];exact ih
theorem A3x(hl:az.length<=10)(hx:∀ x∈az,x.2.1.length<=128/\x.2.2.length<=128):
  Y E0 (.loop 160 3 0 1 [(1,.pa 0 0),(8,.b true),(103,.sl AQ az),(104,.i (Ap az)),(105,.i 0)] [(0,some (.var [.i c,.sl .i64 hs,.sl AQ az,.sl .i64 is,.sl (.sl .u8) bs]))])=some (.fin (.exit 6) 1 [(1,.pa 0 0),(8,.b true)] [(0,some (.var [.i c,.sl .i64 hs,.sl AQ az,.sl .i64 is,.sl (.sl .u8) bs]))]):=by
 have h:=mP c hs az is bs hl hx az.length 0 zaa
 rw[AC];exact h
theorem mQ(c:Int)(hs:List Int)(az:List (El AQ))(is:List Int)(bs:List (List UInt8))(hl:bs.length<=10)(hx:∀ x∈bs,x.length<=1024):∀(k j:Nat),j+k=bs.length ->
  Y E0 (.loop 160 4 0 1 [(1,.pa 0 0),(8,.b true),(124,.sl (.sl .u8) bs),(125,.i (bs.length:Int)),(126,.i (j:Int))] [(0,some (.var [.i c,.sl .i64 hs,.sl AQ az,.sl .i64 is,.sl (.sl .u8) bs]))])=some (.fin (.exit 8) 1 [(1,.pa 0 0),(8,.b true)] [(0,some (.var [.i c,.sl .i64 hs,.sl AQ az,.sl .i64 is,.sl (.sl .u8) bs]))])
 | 0,j,hj=>by
  obtain rfl:j=bs.length:=zaa
  rw[AO];conv=>lhs;whnf
  refine tq ?_
  with_reducible rfl
 | k+1,j,hj=>by
  obtain⟨x,hm,hg⟩:=Gp (l:=bs) (i:=(j:Int)) zaa
  have ho:=hx x hm
  have ih:=mQ c hs az is bs hl hx k (j+1) zaa
  rw[show((j+1:Nat):Int)=(j:Int)+1 from by omega] at ih
  rw[AO];conv=>lhs;whnf
  refine to ?_
  rw[hg]
  conv=>lhs;whnf
  try dsimp -iota -beta -eta -zeta only
  rw[Bc zaa]
  rw[Fg (show Ap x<=1024 by rw[AC];omega)];exact ih
theorem A3y(hl:bs.length<=10)(hx:∀ x∈bs,x.length<=1024):
  Y E0 (.loop 160 4 0 1 [(1,.pa 0 0),(8,.b true),(124,.sl (.sl .u8) bs),(125,.i (Ap bs)),(126,.i 0)] [(0,some (.var [.i c,.sl .i64 hs,.sl AQ az,.sl .i64 is,.sl (.sl .u8) bs]))])=some (.fin (.exit 8) 1 [(1,.pa 0 0),(8,.b true)] [(0,some (.var [.i c,.sl .i64 hs,.sl AQ az,.sl .i64 is,.sl (.sl .u8) bs]))]):=by
 have h:=mQ c hs az is bs hl hx bs.length 0 zaa
 rw[AC];exact h
theorem A06(hsh:Y E0 (.call 158 [.i c] [])=some (.ret (.tup [.i (hs.length:Int),.i (az.length:Int),.i (is.length:Int),.i nb,.b true]) []))(hct:Y E0 (.call 159 [.i (bs.length:Int),.i nb] [])=some (.ret (.b true) []))(hl:hs.length<=10)(hal:az.length<=10)(hil:is.length<=10)(hbl:bs.length<=10)(hhm:∀ x∈hs,0<=x/\x<=65535)(ham:∀ x∈az,(0<=x.1/\x.1<=65535)/\x.2.1.length<=128/\x.2.2.length<=128)(him:∀ x∈is,0<=x/\x<=1099511627776)(hbm:∀ x∈bs,x.length<=1024)(hlen:(Hm c hs az is bs).length<=2048):Y E0 (.call 160 [rq c hs az is bs] [])=some (.ret (.i 0) []):=by
 have hw:=A05 c hs az is bs hl hal (fun x hx=>by have:=ham x hx;omega) hil hbl (fun x hx=>by have:=hbm x hx;omega)
 have m0:=A3u c hs az is bs hl hhm
 have m1:=A3v c hs az is bs hal (fun x hx=>(ham x hx).1)
 have m2:=A3w c hs az is bs hil him
 have m3:=A3x c hs az is bs hal (fun x hx=>(ham x hx).2)
 have m4:=A3y c hs az is bs hbl hbm
 refine tq ?_
 rw[hsh]
 refine tq ?_
 rw[AC,hct]
 refine tq ?_
 rw[m0]
 refine tq ?_
 rw[m1]
 refine tq ?_
 rw[m2]
 refine tq ?_
 rw[m3]
 refine tq ?_
 rw[m4]
 refine tq ?_
 rw[hw]
 exact tq rfl
end
section
attribute [local irreducible] Bl CQ CS Bo Bg Ar CU Dw EN Dy EC Bf BU Bv Bz and' C9 CB BK Au BA BL BN Aa Ad AP AZ CV Dq CW DI CE BP BM BF BG BB AU BC Ae Ap Ai CX BH Bh Ba BO CG CY CJ fits CZ CO A8 AA Ac
theorem nI:Y E0 (.call 125 [.i 1] [])=some (.ret (.tup [.agg [.i 0,.i 0,.i 1,.i 0],.b true]) []):=by
 refine tq ?_;rw[Fe];refine tq ?_;rfl
theorem A47:Y E0 (.call 125 [.i 9] [])=some (.ret (.tup [.agg [.i 1,.i 1,.i 3,.i 3],.b true]) []):=by
 refine tq ?_;rw[Fe];refine tq ?_;rfl
theorem A09:Y E0 (.call 125 [.i 13] [])=some (.ret (.tup [.agg [.i 1,.i 1,.i 0,.i 0],.b true]) []):=by
 refine tq ?_;rw[Fe];refine tq ?_;rfl
theorem A0A:Y E0 (.call 125 [.i 16] [])=some (.ret (.tup [.agg [.i 0,.i 0,.i 1,.i 0],.b true]) []):=by
 refine tq ?_;rw[Fe];refine tq ?_;rfl
theorem A0B:Y E0 (.call 125 [.i 17] [])=some (.ret (.tup [.agg [.i 0,.i 0,.i 6,.i (-1)],.b true]) []):=by
 refine tq ?_;rw[Fe];refine tq ?_;rfl
theorem nJ(c:Int)(hs:List Int)(az:List (El AQ))(is:List Int)(bs:List (List UInt8))(hl:hs.length<=10):∀(k j:Nat) (b:List UInt8),j+k=hs.length->b.length+2*k<=1000 ->
  Y E0 (.loop 80 0 0 2 [(1,.pa 0 0),(3,.nm 1),(4,.i (j:Int))] [(0,some (.var [.i c,.sl .i64 hs,.sl AQ az,.sl .i64 is,.sl (.sl .u8) bs])),(1,some (.row 5 .u8 b))])
   = some (.fin (.exit 0) 2 [(1,.pa 0 0),(3,.nm 1)] [(0,some (.var [.i c,.sl .i64 hs,.sl AQ az,.sl .i64 is,.sl (.sl .u8) bs])),(1,some (.row 5 .u8 (b++(hs.drop j).flatMap n2)))])
 | 0,j,b,hj,hb=>by
  obtain rfl:j=hs.length:=zaa
  rw[List.drop_length,List.flatMap_nil,List.append_nil]
  rw[AO];conv=>lhs;whnf
  refine tq ?_
  with_reducible rfl
 | k+1,j,b,hj,hb=>by
  obtain⟨x,hm,hg⟩:=Gp (l:=hs) (i:=(j:Int)) zaa
  have el:=D9 x
  have ih:=nJ c hs az is bs hl k (j+1) (b++n2 x) zaa zaC
  rw[DD] at hg
  rw[show((j+1:Nat):Int)=(j:Int)+1 from by omega,List.append_assoc,<-List.flatMap_cons,<-Hy hg,<-U4] at ih
  rw[<-DD] at hg
  rw[AO];conv=>lhs;whnf
  refine to ?_
  rw[hg]
  refine tq ?_
  rw[Fj _ _ _ Aq]
  refine tq ?_
  exact ih
theorem nK(c:Int)(hs:List Int)(az:List (El AQ))(is:List Int)(bs:List (List UInt8))(hl:az.length<=10)(hx:∀ x∈az,x.2.1.length<=1000/\x.2.2.length<=1000):∀(k j:Nat) (b:List UInt8),j+k=az.length->b.length+2006*k<=50000 ->
  Y E0 (.loop 80 1 0 2 [(1,.pa 0 0),(3,.nm 1),(5,.i (j:Int))] [(0,some (.var [.i c,.sl .i64 hs,.sl AQ az,.sl .i64 is,.sl (.sl .u8) bs])),(1,some (.row 5 .u8 b))])
   = some (.fin (.exit 2) 2 [(1,.pa 0 0),(3,.nm 1)] [(0,some (.var [.i c,.sl .i64 hs,.sl AQ az,.sl .i64 is,.sl (.sl .u8) bs])),(1,some (.row 5 .u8 (b++(az.drop j).flatMap MH)))])
 | 0,j,b,hj,hb=>by
  obtain rfl:j=az.length:=zaa
  rw[List.drop_length,List.flatMap_nil,List.append_nil]
  rw[AO];conv=>lhs;whnf
  refine tq ?_
  with_reducible rfl
 | k+1,j,b,hj,hb=>by
  obtain⟨x,hm,hg⟩:=Gp (l:=az) (i:=(j:Int)) zaa
  have ho:=hx x hm
  have el:=We x ho
  have ih:=nK c hs az is bs hl hx k (j+1) (b++MH x) zaa zaC
  rw[DD] at hg
  rw[show((j+1:Nat):Int)=(j:Int)+1 from by omega,List.append_assoc,<-List.flatMap_cons,<-Hy hg,<-A3q b x ho] at ih
  rw[<-DD] at hg
  rw[AO];conv=>lhs;whnf
  refine to ?_
  rw[hg]
  refine tq ?_
  rw[Fj _ _ _ Aq]
  refine to ?_
  rw[hg]
  refine tq ?_
  rw[Nw _ _ Aq]
  refine to ?_
  rw[hg]
  refine tq ?_
  rw[Nw _ _ Aq]
  refine tq ?_
  exact ih
theorem nM(c:Int)(hs:List Int)(az:List (El AQ))(is:List Int)(bs:List (List UInt8))(hl:is.length<=10):∀(k j:Nat) (b:List UInt8),j+k=is.length->b.length+8*k<=50000 ->
  Y E0 (.loop 80 2 0 2 [(1,.pa 0 0),(3,.nm 1),(6,.i (j:Int))] [(0,some (.var [.i c,.sl .i64 hs,.sl AQ az,.sl .i64 is,.sl (.sl .u8) bs])),(1,some (.row 5 .u8 b))])
   = some (.fin (.exit 4) 2 [(1,.pa 0 0),(3,.nm 1)] [(0,some (.var [.i c,.sl .i64 hs,.sl AQ az,.sl .i64 is,.sl (.sl .u8) bs])),(1,some (.row 5 .u8 (b++(is.drop j).flatMap n8)))])
 | 0,j,b,hj,hb=>by
  obtain rfl:j=is.length:=zaa
  rw[List.drop_length,List.flatMap_nil,List.append_nil]
  rw[AO];conv=>lhs;whnf
  refine tq ?_
  with_reducible rfl
 | k+1,j,b,hj,hb=>by
  obtain⟨x,hm,hg⟩:=Gp (l:=is) (i:=(j:Int)) zaa
  have el:=Bq x
  have ih:=nM c hs az is bs hl k (j+1) (b++n8 x) zaa zaC
  rw[DD] at hg
  rw[show((j+1:Nat):Int)=(j:Int)+1 from by omega,List.append_assoc,<-List.flatMap_cons,<-Hy hg,<-KL] at ih
  rw[<-DD] at hg
  rw[AO];conv=>lhs;whnf
  refine to ?_
  rw[hg]
  refine tq ?_
  rw[Fj _ _ _ Aq]
  refine tq ?_
  exact ih
theorem nN(c:Int)(hs:List Int)(az:List (El AQ))(is:List Int)(bs:List (List UInt8))(hl:bs.length<=10)(hx:∀ x∈bs,x.length<=2000):∀(k j:Nat) (b:List UInt8),j+k=bs.length->b.length+2002*k<=100000 ->
  Y E0 (.loop 80 3 0 2 [(1,.pa 0 0),(3,.nm 1),(7,.i (j:Int))] [(0,some (.var [.i c,.sl .i64 hs,.sl AQ az,.sl .i64 is,.sl (.sl .u8) bs])),(1,some (.row 5 .u8 b))])
   = some (.fin (.exit 6) 1 [(3,.nm 0)] [(0,some (.row 5 .u8 (b++(bs.drop j).flatMap bl)))])
 | 0,j,b,hj,hb=>by
  obtain rfl:j=bs.length:=zaa
  rw[List.drop_length,List.flatMap_nil,List.append_nil]
  rw[AO];conv=>lhs;whnf
  refine tq ?_
  with_reducible rfl
 | k+1,j,b,hj,hb=>by
  obtain⟨x,hm,hg⟩:=Gp (l:=bs) (i:=(j:Int)) zaa
  have ho:=hx x hm
  have el:=Ce x
  have ih:=nN c hs az is bs hl hx k (j+1) (b++bl x) zaa zaC
  rw[DD] at hg
  rw[show((j+1:Nat):Int)=(j:Int)+1 from by omega,List.append_assoc,<-List.flatMap_cons,<-Hy hg,<-GI (show x.length<=65535 by omega)] at ih
  rw[<-DD] at hg
  rw[AO];conv=>lhs;whnf
  refine to ?_
  rw[hg]
  refine tq ?_
  rw[Nw _ _ Aq]
  refine tq ?_
  exact ih
theorem AAG(L:Int)(hL:L=5+((Gt c hs az is bs).length:Int))(hb:L<=65535):BH (BH ([UInt8.ofNat 83,UInt8.ofNat 87,UInt8.ofNat 0,UInt8.ofNat 0,UInt8.ofInt c]++List.flatMap n2 hs++List.flatMap MH az++List.flatMap n8 is++[UInt8.ofInt (bs.length:Int)]++List.flatMap bl bs) 2 (DI (BU L (UInt64.ofNat 8).toNat))) 3 (DI L)=Hm c hs az is bs:=by
 obtain⟨u,v,huv⟩:=Xh (5+(Gt c hs az is bs).length)
 have hv:=Xi zaa huv
 have hu':=u.toNat_lt
 have hv':=v.toNat_lt
 have e1:DI (BU L (UInt64.ofNat 8).toNat)=u:=by
  rw[Dh,show(UInt64.ofNat 8).toNat=8 from rfl,Hf zaa]
  apply UInt8.toNat_inj.1
  rw[jd zaa];omega
 have e2:DI L=v:=by
  rw[Dh]
  apply UInt8.toNat_inj.1
  rw[UInt8.ofInt,UInt8.toNat_ofNat'];omega
 rw[e1,e2,Hm,show n2 (5+(Gt c hs az is bs).length:Int)=WE (5+(Gt c hs az is bs).length) from rfl,huv,Gt,Ea,Ea]
 simp only[List.append_assoc]
 rfl
theorem nO(hl:hs.length<=10)(hal:az.length<=10)(ham:∀ x∈az,x.2.1.length<=1000/\x.2.2.length<=1000)(hil:is.length<=10)(hbl:bs.length<=10)(hbm:∀ x∈bs,x.length<=2000):Y E0 (.call 80 [rq c hs az is bs] [])=some (.ret (.sl .u8 (Hm c hs az is bs)) []):=by
 have hH:(hs.flatMap n2).length<=20:=Nat.le_trans (Ho (m:=2) fun x _=>by rw[D9];decide) zaa
 have hA:(az.flatMap MH).length<=20060:=Nat.le_trans (Ho (m:=2006) fun x hx=>We x (ham x hx)) zaa
 have hI:(is.flatMap n8).length<=80:=Nat.le_trans (Ho (m:=8) fun x _=>by rw[Bq];decide) zaa
 have hB:(bs.flatMap bl).length<=20020:=Nat.le_trans (Ho (m:=2002) fun x hx=>by have:=hbm x hx;rw[Ce];omega) zaa
 have l0:=nJ c hs az is bs hl hs.length 0 [UInt8.ofNat 83,UInt8.ofNat 87,UInt8.ofNat 0,UInt8.ofNat 0,DI c] zaa zat
 have l1:=nK c hs az is bs hal ham az.length 0 ([UInt8.ofNat 83,UInt8.ofNat 87,UInt8.ofNat 0,UInt8.ofNat 0,DI c]++hs.flatMap n2) zaa zaw
 have l2:=nM c hs az is bs hil is.length 0 ([UInt8.ofNat 83,UInt8.ofNat 87,UInt8.ofNat 0,UInt8.ofNat 0,DI c]++hs.flatMap n2++az.flatMap MH) zaa zaw
 have l3:=nN c hs az is bs hbl hbm bs.length 0 ([UInt8.ofNat 83,UInt8.ofNat 87,UInt8.ofNat 0,UInt8.ofNat 0,DI c]++hs.flatMap n2++az.flatMap MH++is.flatMap n8++[UInt8.ofInt (bs.length:Int)]) zaa zaw
 rw[show((0:Nat):Int)=0 from rfl,List.drop_zero] at l0 l1 l2 l3
 refine tq ?_
 simp only[Nat.reduceAdd];rw[l0]
 refine tq ?_
 rw[l1]
 refine tq ?_
 rw[l2]
 refine tq ?_
 simp only[AC,Am,Dh] at l3 ⊢;rw[l3];clear l0 l1 l2 l3
 conv=>lhs;whnf
 rw[GL zao]
 conv=>lhs;whnf
 rw[D8 zao]
 conv=>lhs;whnf
 rw[GL zao]
 conv=>lhs;whnf
 rw[D8 zao]
 conv=>lhs;whnf
 (rw[AAG c hs az is bs _ (by rw[AC,Gt];simp only[List.length_append,List.length_cons,List.length_nil];omega) (by rw[AC];simp only[List.length_append,List.length_cons,List.length_nil];omega)])
theorem Jg:Y E0 (.call 126 [.i n,.i n] [])=some (.ret (.b true) []):=by
 refine tq ?_
 with_reducible rfl
theorem xG(h:Int)(h0:0<=h/\h<=65535):Y E0 (.call 127 [.i h] [])=some (.ret (.b true) []):=by
 refine tq ?_
 with_reducible rfl
theorem nP(c:Int)(hs:List Int)(az:List (El AQ))(is:List Int)(bs:List (List UInt8))(hl:az.length<=10)(hx:∀ x∈az,x.2.1.length<=128/\x.2.2.length<=128):∀(k j:Nat),j+k=az.length ->
  Y E0 (.loop 128 0 0 1 [(1,.pa 0 0),(3,.i (j:Int))] [(0,some (.var [.i c,.sl .i64 hs,.sl AQ az,.sl .i64 is,.sl (.sl .u8) bs]))])=some (.fin (.exit 0) 1 [(1,.pa 0 0)] [(0,some (.var [.i c,.sl .i64 hs,.sl AQ az,.sl .i64 is,.sl (.sl .u8) bs]))])
 | 0,j,hj=>by
  obtain rfl:j=az.length:=zaa
  rw[AO];conv=>lhs;whnf
  refine tq ?_
  with_reducible rfl
 | k+1,j,hj=>by
  obtain⟨x,hm,hg⟩:=Gp (l:=az) (i:=(j:Int)) zaa
  have ho:=hx x hm
  have ih:=nP c hs az is bs hl hx k (j+1) zaa
  rw[show((j+1:Nat):Int)=(j:Int)+1 from by omega] at ih
  rw[AO];conv=>lhs;whnf
  refine to ?_
  rw[hg]
  refine to ?_
  rw[hg]
  refine tq ?_
  exact ih
theorem nR(c:Int)(hs:List Int)(az:List (El AQ))(is:List Int)(bs:List (List UInt8))(hl:bs.length<=10)(hx:∀ x∈bs,x.length<=1024):∀(k j:Nat),j+k=bs.length ->
  Y E0 (.loop 128 1 0 1 [(1,.pa 0 0),(4,.i (j:Int))] [(0,some (.var [.i c,.sl .i64 hs,.sl AQ az,.sl .i64 is,.sl (.sl .u8) bs]))])=some (.fin (.exit 2) 1 [(1,.pa 0 0)] [(0,some (.var [.i c,.sl .i64 hs,.sl AQ az,.sl .i64 is,.sl (.sl .u8) bs]))])
 | 0,j,hj=>by
  obtain rfl:j=bs.length:=zaa
  rw[AO];conv=>lhs;whnf
  refine tq ?_
  with_reducible rfl
 | k+1,j,hj=>by
  obtain⟨x,hm,hg⟩:=Gp (l:=bs) (i:=(j:Int)) zaa
  have ho:=hx x hm
  have ih:=nR c hs az is bs hl hx k (j+1) zaa
  rw[show((j+1:Nat):Int)=(j:Int)+1 from by omega] at ih
  rw[AO];conv=>lhs;whnf
  refine to ?_
  rw[hg]
  refine tq ?_
  exact ih
theorem A48(hl:hs.length<=10)(hal:az.length<=10)(ham:∀ x∈az,x.2.1.length<=128/\x.2.2.length<=128)(hil:is.length<=10)(hbl:bs.length<=10)(hbm:∀ x∈bs,x.length<=1024)(hlen:(Hm c hs az is bs).length<=2048):Y E0 (.call 128 [rq c hs az is bs] [])=some (.ret (.b false) []):=by
 have l0:=nP c hs az is bs hal ham az.length 0 zaa
 have l1:=nR c hs az is bs hbl hbm bs.length 0 zaa
 have hf:=nO c hs az is bs hl hal (fun x hx=>by have:=ham x hx;omega) hil hbl (fun x hx=>by have:=hbm x hx;omega)
 rw[show((0:Nat):Int)=0 from rfl] at l0 l1
 refine tq ?_
 rw[l0]
 refine tq ?_
 rw[l1]
 refine tq ?_
 rw[hf]
 conv=>lhs;whnf
 (congr 3;simp only[J3,Jo,Jd,Jp,DF,IB,AC];first|rfl|(rw[decide_eq_decide];omega)|(simp;omega))
theorem nS(c:Int)(hs:List Int)(az:List (El AQ))(is:List Int)(bs:List (List UInt8))(hl:hs.length<=10)(hx:∀ x∈hs,0<=x/\x<=65535):∀(k j:Nat),j+k=hs.length ->
  Y E0 (.loop 79 0 0 1 [(1,.pa 0 0),(5,.i (j:Int))] [(0,some (.var [.i c,.sl .i64 hs,.sl AQ az,.sl .i64 is,.sl (.sl .u8) bs]))])=some (.fin (.exit 0) 1 [(1,.pa 0 0)] [(0,some (.var [.i c,.sl .i64 hs,.sl AQ az,.sl .i64 is,.sl (.sl .u8) bs]))])
 | 0,j,hj=>by
  obtain rfl:j=hs.length:=zaa
  rw[AO];conv=>lhs;whnf
  refine tq ?_
  with_reducible rfl
 | k+1,j,hj=>by
  obtain⟨x,hm,hg⟩:=Gp (l:=hs) (i:=(j:Int)) zaa
  have ho:=hx x hm
  have hn:=xG x ho
  have ih:=nS c hs az is bs hl hx k (j+1) zaa
  rw[show((j+1:Nat):Int)=(j:Int)+1 from by omega] at ih
  rw[AO];conv=>lhs;whnf
  refine to ?_
  rw[hg]
  refine tq ?_
  rw[hn]
  refine tq ?_
  exact ih
theorem nT(c:Int)(hs:List Int)(az:List (El AQ))(is:List Int)(bs:List (List UInt8))(hl:az.length<=10)(hx:∀ x∈az,(0:Int)<=x.1/\(x.1:Int)<=65535):∀(k j:Nat),j+k=az.length ->
  Y E0 (.loop 79 1 0 1 [(1,.pa 0 0),(6,.i (j:Int))] [(0,some (.var [.i c,.sl .i64 hs,.sl AQ az,.sl .i64 is,.sl (.sl .u8) bs]))])=some (.fin (.exit 2) 1 [(1,.pa 0 0)] [(0,some (.var [.i c,.sl .i64 hs,.sl AQ az,.sl .i64 is,.sl (.sl .u8) bs]))])
 | 0,j,hj=>by
  obtain rfl:j=az.length:=zaa
  rw[AO];conv=>lhs;whnf
  refine tq ?_
  with_reducible rfl
 | k+1,j,hj=>by
  obtain⟨x,hm,hg⟩:=Gp (l:=az) (i:=(j:Int)) zaa
  have ho:=hx x hm
  have hn:=xG x.1 ho
  have ih:=nT c hs az is bs hl hx k (j+1) zaa
  rw[show((j+1:Nat):Int)=(j:Int)+1 from by omega] at ih
  rw[AO];conv=>lhs;whnf
  refine to ?_
  rw[hg]
  refine tq ?_
  rw[hn]
  refine tq ?_
  exact ih
theorem nU(c:Int)(hs:List Int)(az:List (El AQ))(is:List Int)(bs:List (List UInt8))(hl:is.length<=10)(hx:∀ x∈is,0<=x/\x<=1099511627776):∀(k j:Nat),j+k=is.length ->
  Y E0 (.loop 79 2 0 1 [(1,.pa 0 0),(7,.i (j:Int))] [(0,some (.var [.i c,.sl .i64 hs,.sl AQ az,.sl .i64 is,.sl (.sl .u8) bs]))])=some (.fin (.exit 4) 1 [(1,.pa 0 0)] [(0,some (.var [.i c,.sl .i64 hs,.sl AQ az,.sl .i64 is,.sl (.sl .u8) bs]))])
 | 0,j,hj=>by
  obtain rfl:j=is.length:=zaa
  rw[AO];conv=>lhs;whnf
  refine tq ?_
  with_reducible rfl
 | k+1,j,hj=>by
  obtain⟨x,hm,hg⟩:=Gp (l:=is) (i:=(j:Int)) zaa
  have ho:=hx x hm
  have ih:=nU c hs az is bs hl hx k (j+1) zaa
  rw[show((j+1:Nat):Int)=(j:Int)+1 from by omega] at ih
  rw[AO];conv=>lhs;whnf
  refine to ?_
  rw[hg]
  refine to ?_
  rw[hg]
  refine tq ?_
  exact ih
theorem A6V(hsh:Y E0 (.call 125 [.i c] [])=some (.ret (.tup [.agg [.i (hs.length:Int),.i (az.length:Int),.i (is.length:Int),.i nb],.b true]) []))(hct:Y E0 (.call 126 [.i nb,.i (bs.length:Int)] [])=some (.ret (.b true) []))(hl:hs.length<=10)(hal:az.length<=10)(hil:is.length<=10)(hbl:bs.length<=10)(hhm:∀ x∈hs,0<=x/\x<=65535)(ham:∀ x∈az,((0:Int)<=x.1/\(x.1:Int)<=65535)/\x.2.1.length<=128/\x.2.2.length<=128)(him:∀ x∈is,0<=x/\x<=1099511627776)(hbm:∀ x∈bs,x.length<=1024)(hlen:(Hm c hs az is bs).length<=2048):Y E0 (.call 79 [rq c hs az is bs] [])=some (.ret (.i 0) []):=by
 have l0:=nS c hs az is bs hl hhm hs.length 0 zaa
 have l1:=nT c hs az is bs hal (fun x hx=>(ham x hx).1) az.length 0 zaa
 have l2:=nU c hs az is bs hil him is.length 0 zaa
 have hf:=A48 c hs az is bs hl hal (fun x hx=>(ham x hx).2) hil hbl hbm hlen
 rw[show((0:Nat):Int)=0 from rfl] at l0 l1 l2
 refine tq ?_
 rw[hsh]
 refine tq ?_
 rw[AC,hct]
 refine tq ?_
 rw[l0]
 refine tq ?_
 rw[l1]
 refine tq ?_
 rw[l2]
 refine tq ?_
 rw[hf]
 exact tq rfl
theorem xH(hsh:Y E0 (.call 125 [.i c] [])=some (.ret (.tup [.agg [.i (hs.length:Int),.i (az.length:Int),.i (is.length:Int),.i nb],.b true]) []))(hct:Y E0 (.call 126 [.i nb,.i (bs.length:Int)] [])=some (.ret (.b true) []))(hl:hs.length<=10)(hal:az.length<=10)(hil:is.length<=10)(hbl:bs.length<=10)(hhm:∀ x∈hs,0<=x/\x<=65535)(ham:∀ x∈az,((0:Int)<=x.1/\(x.1:Int)<=65535)/\x.2.1.length<=128/\x.2.2.length<=128)(him:∀ x∈is,0<=x/\x<=1099511627776)(hbm:∀ x∈bs,x.length<=1024)(hlen:(Hm c hs az is bs).length<=2048):Y E0 (.call 38 [rq c hs az is bs] [])=some (.ret (.tup [.sl .u8 (Hm c hs az is bs),.i 0]) []):=by
 have hk:=A6V c nb hs az is bs hsh hct hl hal hil hbl hhm ham him hbm hlen
 have hf:=nO c hs az is bs hl hal (fun x hx=>by have:=(ham x hx).2;omega) hil hbl (fun x hx=>by have:=hbm x hx;omega)
 refine tq ?_
 rw[hk]
 refine tq ?_
 rw[hf]
 exact tq rfl
end
end Go.Proofs.YtanagnimhaemgaaGreatDoor
