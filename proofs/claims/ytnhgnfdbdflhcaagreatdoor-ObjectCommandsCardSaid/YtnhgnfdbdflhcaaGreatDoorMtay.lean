/-
  Own texts, laid together for this claim: contracts of functions of the program and its references, used by the statements of this seat.
-/
import Derived.Test.YtnhgnfdbdflhcaaGreatDoorMtab
import Derived.Test.YtnhgnfdbdflhcaaGreatDoorMtad
import Derived.Test.YtnhgnfdbdflhcaaGreatDoorMtae
import Derived.Test.YtnhgnfdbdflhcaaGreatDoorMtaf
import Derived.Test.YtnhgnfdbdflhcaaGreatDoorMtah
import Derived.Test.YtnhgnfdbdflhcaaGreatDoorMtaj
import Derived.Test.YtnhgnfdbdflhcaaGreatDoorMtaw
import Derived.Test.YtnhgnfdbdflhcaaGreatDoorMtax
set_option linter.all false
set_option maxHeartbeats 40000000
set_option maxRecDepth 100000
namespace Go.Proofs.YtnhgnfdbdflhcaaGreatDoor
open Go Go.Ax Go.Eng
variable (b0 b1:List (List UInt8))(u:Int)
section
attribute [local irreducible] Cc Dn D7 DU DD BA Dp F7 FY FD Ez Ci CS DK DV and' DW DL C9 BR Bh CB CG BG BI Aw BC Dq Fh Dt ER DX Bl CE Bv Bz Bi Az Bg BK Bj BO Du Bc DF BZ BM Cj Di fits Dv Dk Ac Am BH
attribute [local irreducible] Dw CJ Be nameB EL Eh Ar
def Xw(l:List (List UInt8)):Prop:=l.length=2/\∀ x∈l,x.length<=32
theorem dg0:Xw (BZ 2 []):=by
 obtain⟨h1,h2⟩:=A3W (n:=2) (x:=([]:List UInt8)) (p:=fun x:List UInt8=>x.length<=32) zal zam;exact⟨by omega,h2⟩
theorem dgS{l:List (List UInt8)}{i:Int}{x:List UInt8}(h:Xw l)(hx:x.length<=32):Xw (Bc l i x):=by
 obtain⟨h1,h2⟩:=dS (i:=i) (p:=fun x:List UInt8=>x.length<=32) h.2 hx;exact⟨h1.trans h.1,h2⟩
theorem nz(d:List UInt8)(hd:d.length<=10000):Ah E0 (.loop 287 0 0 2 [(1,AV.sl Ty.u8 d),(2,AV.pa 0 0),(5,AV.nm 1),(6,AV.i 0)] [(0,some (Rs.var [AV.sl Ty.u8.sl.sl [b0,b1],AV.i u])),(1,some (Rs.row 22 Ty.u8.sl (BZ 2 [])))]) fun r=>∃ l:List (List UInt8),(Xw l)/\r=some (.fin (.exit 0) 0 [(5,.sl (.sl .u8) l)] []):=by
 have hl:(BZ 2 ([]:List UInt8)).length=2:=zbO
 refine CU fun P hP=>?_
 refine tw ?_;rw[Ky _ _ _ A7];refine tw ?_
 rcases Decidable.em (0<b0.length) with hc0|hc0
 ·refine tw ?_;rw[dh _ A7];refine tw ?_;obtain⟨x1,m1,g1⟩:=EY (l:=BZ 2 []) (i:=0) zaa;rw[g1];refine tw ?_;refine tw ?_;rw[Gi _ _ _ _ A7];refine tw ?_
  rcases Decidable.em (0<b1.length) with hc2|hc2
  ·refine tw ?_;rw[SC _ A7];refine tw ?_;obtain⟨x3,m3,g3⟩:=EY (l:=Bc (BZ 2 []) 0 (sha1 d)) (i:=1) zaq;rw[g3];refine tw ?_;refine tw ?_;refine hP _ ⟨Bc (Bc (BZ 2 []) 0 (sha1 d)) 1 (sha256 d),?_,rfl⟩;(repeat'(first|exact dg0|(refine dgS ?_ ?_)|(rw[EO];decide)|(rw[A8];decide)))
  refine tw ?_;refine tw ?_;refine hP _ ⟨Bc (BZ 2 []) 0 (sha1 d),?_,rfl⟩;(repeat'(first|exact dg0|(refine dgS ?_ ?_)|(rw[EO];decide)|(rw[A8];decide)))
 refine tw ?_;refine tw ?_;rw[Gi _ _ _ _ A7];refine tw ?_
 rcases Decidable.em (0<b1.length) with hc4|hc4
 ·refine tw ?_;rw[SC _ A7];refine tw ?_;obtain⟨x5,m5,g5⟩:=EY (l:=BZ 2 []) (i:=1) zaa;rw[g5];refine tw ?_;refine tw ?_;refine hP _ ⟨Bc (BZ 2 []) 1 (sha256 d),?_,rfl⟩;(repeat'(first|exact dg0|(refine dgS ?_ ?_)|(rw[EO];decide)|(rw[A8];decide)))
 refine tw ?_;refine tw ?_;refine hP _ ⟨BZ 2 [],?_,rfl⟩;(repeat'(first|exact dg0|(refine dgS ?_ ?_)|(rw[EO];decide)|(rw[A8];decide)))
theorem A0a(d:List UInt8)(hd:d.length<=10000):Ah E0 (.call 287 [PM [b0,b1] u,.sl .u8 d] []) fun r=>∃ l:List (List UInt8),(Xw l)/\r=some (.ret (.sl (.sl .u8) l) []):=by
 refine CU fun P hP=>tw ?_
 obtain⟨l0,h0_1,yy0⟩:=nz b0 b1 u d A7;refine Aq yy0 ?_;exact hP _ ⟨l0,A7,rfl⟩
theorem tY(i:Int)(h0:b0=[]\/Fg 20 b0)(h1:b1=[]\/Fg 32 b1)(hi:0<=i/\i<16):Ah E0 (.loop 289 0 0 6 [(2,AV.i i),(3,AV.pa 0 0),(6,AV.pa 1 0),(9,.pa 2 0),(10,AV.i 0)] [(0,some (Rs.var [AV.sl Ty.u8.sl.sl [b0,b1],AV.i u])),(1,some (Rs.var [AV.nil,AV.i 0])),(2,some (.var [.nm 3,.i u])),(3,some (.rowA 24 1 2 [.nm 4,.nm 5])),(4,some (.row 22 (.sl .u8) b0)),(5,some (.row 22 (.sl .u8) b1))]) fun r=>∃ c0 c1:List (List UInt8),((b0=[]/\c0=[]\/Fg 20 c0)/\(b1=[]/\c1=[]\/Fg 32 c1))/\r=some (.fin (.exit 0) 5 [(6,.pa 0 0),(9,.pa 1 0)] [(0,some (.var [.nil,.i 0])),(1,some (.var [.nm 2,.i u])),(2,some (.rowA 24 1 2 [.nm 3,.nm 4])),(3,some (.row 22 (.sl .u8) c0)),(4,some (.row 22 (.sl .u8) c1))]):=by
 have q0:=Nq h0
 have q1:=Nq h1
 refine CU fun P hP=>?_
 refine tw ?_;rw[Ky _ _ _ A7];refine tw ?_
 rcases Decidable.em (0<b0.length) with hc0|hc0
 ·refine tw ?_;rw[Zw];refine tw ?_;rw[OZ _ _ A7];refine tw ?_;obtain⟨x1,m1,g1⟩:=EY (l:=b0) (i:=i) zaa;rw[g1];refine tw ?_;refine tw ?_;rw[Gi _ _ _ _ A7];refine tw ?_
  rcases Decidable.em (0<b1.length) with hc2|hc2
  ·refine tw ?_;rw[PL];refine tw ?_;rw[OZ _ _ A7];refine tw ?_;obtain⟨x3,m3,g3⟩:=EY (l:=b1) (i:=i) zaa;rw[g3];refine tw ?_;refine tw ?_
   refine hP _ ⟨Bc b0 i (List.replicate (Int.toNat 20) (UInt8.ofNat 0)),Bc b1 i (List.replicate (Int.toNat 32) (UInt8.ofNat 0)),?_,rfl⟩;(refine⟨?_,?_⟩<;>first|exact .inl ⟨JJ zaa,JJ zaa⟩|exact .inr (JK (TJ zav zaa) zam))
  refine tw ?_;refine tw ?_
  refine hP _ ⟨Bc b0 i (List.replicate (Int.toNat 20) (UInt8.ofNat 0)),b1,?_,rfl⟩;(refine⟨?_,?_⟩<;>first|exact .inl ⟨JJ zaa,JJ zaa⟩|exact .inr (JK (TJ zav zaa) zam))
 refine tw ?_;refine tw ?_;rw[Gi _ _ _ _ A7];refine tw ?_
 rcases Decidable.em (0<b1.length) with hc4|hc4
 ·refine tw ?_;rw[PL];refine tw ?_;rw[OZ _ _ A7];refine tw ?_;obtain⟨x5,m5,g5⟩:=EY (l:=b1) (i:=i) zaa;rw[g5];refine tw ?_;refine tw ?_
  refine hP _ ⟨b0,Bc b1 i (List.replicate (Int.toNat 32) (UInt8.ofNat 0)),?_,rfl⟩;(refine⟨?_,?_⟩<;>first|exact .inl ⟨JJ zaa,JJ zaa⟩|exact .inr (JK (TJ zav zaa) zam))
 refine tw ?_;refine tw ?_
 refine hP _ ⟨b0,b1,?_,rfl⟩;(refine⟨?_,?_⟩<;>first|exact .inl ⟨JJ zaa,JJ zaa⟩|exact .inr (JK (TJ zav zaa) zam))
theorem tZ(lo i:Int)(h0:b0=[]\/Fg 20 b0)(h1:b1=[]\/Fg 32 b1):Ah E0 (.call 289 [PM [b0,b1] u,.i lo,.i i] []) fun r=>(∃ c0 c1:List (List UInt8),((b0=[]/\c0=[]\/Fg 20 c0)/\(b1=[]/\c1=[]\/Fg 32 c1))/\r=some (.ret (.tup [PM [c0,c1] (Cc u 1),.i 0]) []))\/∃ e:Int,(e≠0)/\r=some (.ret (.tup [PM [] 0,.i e]) []):=by
 have k0:=Jv h0 zal
 have k1:=Jv h1 zal
 refine CU fun P hP=>tw ?_
 rcases AZ lo 0 with hc0|hc0
 ·refine tw ?_;exact hP _ (Or.inr ⟨1,A7,rfl⟩)
 refine tw ?_
 rcases AZ 4 lo with hc1|hc1
 ·refine tw ?_;exact hP _ (Or.inr ⟨1,A7,rfl⟩)
 refine tw ?_
 rcases AZ i 0 with hc2|hc2
 ·refine tw ?_;exact hP _ (Or.inr ⟨1,A7,rfl⟩)
 refine tw ?_
 rcases DJ 16 i with hc3|hc3
 ·refine tw ?_;exact hP _ (Or.inr ⟨1,A7,rfl⟩)
 refine tw ?_;obtain⟨x4,⟨h4_1,h4_2⟩,yy4⟩:=PN i true;refine Aq yy4 ?_
 rcases AZ x4 0 with hc5|hc5
 ·refine tw ?_;exact hP _ (Or.inr ⟨13,A7,rfl⟩)
 refine tw ?_
 rcases AZ lo x4 with hc6|hc6
 ·refine tw ?_;exact hP _ (Or.inr ⟨13,A7,rfl⟩)
 refine tw ?_;rw[X6 _ _ _ k0.1 k1.1 k0.2 k1.2];refine tw ?_;obtain⟨c07,c17_1,⟨h7_2,h7_3⟩,yy7⟩:=tY b0 b1 u i A7 A7 A7
 erw[yy7]
 refine tw ?_;exact hP _ (Or.inl ⟨c07,c17_1,clo,rfl⟩)
theorem o5(h:b0=[]\/Fg 20 b0):Ah E0 (.loop 89 1 0 5 [(2,AV.pa 0 0),(3,AV.pa 1 0),(4,AV.i 0),(5,AV.i 12)] [(0,some (Rs.var [AV.nil,AV.i 0])),(1,some (.var [.nm 2,.i u])),(2,some (.rowA 24 1 2 [.nm 3,.nm 4])),(3,some (.row 22 (.sl .u8) b0)),(4,some (.row 22 (.sl .u8) b1))]) fun r=>∃ c:List (List UInt8),(b0=[]/\c=[]\/Fg 20 c)/\r=some (.fin (.exit 2) 5 [(2,.pa 0 0),(3,.pa 1 0),(4,.i 0)] [(0,some (Rs.var [AV.nil,AV.i 0])),(1,some (.var [.nm 2,.i u])),(2,some (.rowA 24 1 2 [.nm 3,.nm 4])),(3,some (.row 22 (.sl .u8) c)),(4,some (.row 22 (.sl .u8) b1))]):=by
 have q:=Nq h
 refine CU fun P hP=>?_
 refine tw ?_
 rcases AZ 12 (↑b0.length) with hc0|hc0
 ·refine tw ?_;rw[IZ _ _ A7];refine tw ?_;obtain⟨x1,m1,g1⟩:=EY (l:=b0) (i:=12) zaa;rw[g1];refine tw ?_;refine tw ?_;rw[IZ _ _ A7]
  conv=>arg 1;whnf
  rw[Gw zaq]
  conv=>arg 1;whnf
  rw[DZ zaq]
  conv=>arg 1;whnf
  try dsimp -iota -beta -eta -zeta only
  rw[drw zas];conv=>arg 1;whnf
  try dsimp -iota -beta -eta -zeta only
  rw[show Cc 13 1=14 from Au zaa];refine tw ?_;rw[IZ _ _ A7]
  conv=>arg 1;whnf
  rw[Gw zaq]
  conv=>arg 1;whnf
  rw[DZ zaq]
  conv=>arg 1;whnf
  try dsimp -iota -beta -eta -zeta only
  rw[drw zas];conv=>arg 1;whnf
  try dsimp -iota -beta -eta -zeta only
  rw[show Cc 14 1=15 from Au zaa];refine tw ?_;rw[IZ _ _ A7]
  conv=>arg 1;whnf
  rw[Gw zaq]
  conv=>arg 1;whnf
  rw[DZ zaq]
  conv=>arg 1;whnf
  try dsimp -iota -beta -eta -zeta only
  rw[drw zas];conv=>arg 1;whnf
  try dsimp -iota -beta -eta -zeta only
  rw[show Cc 15 1=16 from Au zaa];refine tw ?_
  refine hP _ ⟨Bc (Bc (Bc (Bc b0 12 (List.replicate (Px 0).toNat (if 12<=12 then 255 else 0))) 13 (List.replicate (Px 0).toNat (if 12<=13 then 255 else 0))) 14 (List.replicate (Px 0).toNat (if 12<=14 then 255 else 0))) 15 (List.replicate (Px 0).toNat (if 12<=15 then 255 else 0)),?_,rfl⟩;(refine .inr (JK (JK (JK (JK (TJ h zaa) ?_) ?_) ?_) ?_)<;>(rw[List.length_replicate];rfl))
 refine tw ?_;exact hP _ ⟨b0,A7,rfl⟩
theorem o7(h:b1=[]\/Fg 32 b1):Ah E0 (.loop 89 1 0 5 [(2,AV.pa 0 0),(3,AV.pa 1 0),(4,AV.i 1),(5,AV.i 12)] [(0,some (Rs.var [AV.nil,AV.i 0])),(1,some (.var [.nm 2,.i u])),(2,some (.rowA 24 1 2 [.nm 3,.nm 4])),(3,some (.row 22 (.sl .u8) b0)),(4,some (.row 22 (.sl .u8) b1))]) fun r=>∃ c:List (List UInt8),(b1=[]/\c=[]\/Fg 32 c)/\r=some (.fin (.exit 2) 5 [(2,.pa 0 0),(3,.pa 1 0),(4,.i 1)] [(0,some (Rs.var [AV.nil,AV.i 0])),(1,some (.var [.nm 2,.i u])),(2,some (.rowA 24 1 2 [.nm 3,.nm 4])),(3,some (.row 22 (.sl .u8) b0)),(4,some (.row 22 (.sl .u8) c))]):=by
 have q:=Nq h
 refine CU fun P hP=>?_
 refine tw ?_
 rcases AZ 12 (↑b1.length) with hc0|hc0
 ·refine tw ?_;rw[IZ _ _ A7];refine tw ?_;obtain⟨x1,m1,g1⟩:=EY (l:=b1) (i:=12) zaa;rw[g1];refine tw ?_;refine tw ?_;rw[IZ _ _ A7]
  conv=>arg 1;whnf
  rw[Gw zaq]
  conv=>arg 1;whnf
  rw[DZ zaq]
  conv=>arg 1;whnf
  try dsimp -iota -beta -eta -zeta only
  rw[drw zas];conv=>arg 1;whnf
  try dsimp -iota -beta -eta -zeta only
  rw[show Cc 13 1=14 from Au zaa];refine tw ?_;rw[IZ _ _ A7]
  conv=>arg 1;whnf
  rw[Gw zaq]
  conv=>arg 1;whnf
  rw[DZ zaq]
  conv=>arg 1;whnf
  try dsimp -iota -beta -eta -zeta only
  rw[drw zas];conv=>arg 1;whnf
  try dsimp -iota -beta -eta -zeta only
  rw[show Cc 14 1=15 from Au zaa];refine tw ?_;rw[IZ _ _ A7]
  conv=>arg 1;whnf
  rw[Gw zaq]
  conv=>arg 1;whnf
  rw[DZ zaq]
  conv=>arg 1;whnf
  try dsimp -iota -beta -eta -zeta only
  rw[drw zas];conv=>arg 1;whnf
  try dsimp -iota -beta -eta -zeta only
  rw[show Cc 15 1=16 from Au zaa];refine tw ?_
  refine hP _ ⟨Bc (Bc (Bc (Bc b1 12 (List.replicate (Px 1).toNat (if 12<=12 then 255 else 0))) 13 (List.replicate (Px 1).toNat (if 12<=13 then 255 else 0))) 14 (List.replicate (Px 1).toNat (if 12<=14 then 255 else 0))) 15 (List.replicate (Px 1).toNat (if 12<=15 then 255 else 0)),?_,rfl⟩;(refine .inr (JK (JK (JK (JK (TJ h zaa) ?_) ?_) ?_) ?_)<;>(rw[List.length_replicate];rfl))
 refine tw ?_;exact hP _ ⟨b1,A7,rfl⟩
theorem tu(h0:b0=[]\/Fg 20 b0)(h1:b1=[]\/Fg 32 b1):Ah E0 (.loop 89 0 0 5 [(2,AV.pa 0 0),(3,AV.pa 1 0),(4,AV.i 0)] [(0,some (Rs.var [AV.nil,AV.i 0])),(1,some (.var [.nm 2,.i u])),(2,some (.rowA 24 1 2 [.nm 3,.nm 4])),(3,some (.row 22 (.sl .u8) b0)),(4,some (.row 22 (.sl .u8) b1))]) fun r=>∃ c0 c1:List (List UInt8),((b0=[]/\c0=[]\/Fg 20 c0)/\(b1=[]/\c1=[]\/Fg 32 c1))/\r=some (.fin (.exit 0) 5 [(2,.pa 0 0),(3,.pa 1 0)] [(0,some (.var [.nil,.i 0])),(1,some (.var [.nm 2,.i u])),(2,some (.rowA 24 1 2 [.nm 3,.nm 4])),(3,some (.row 22 (.sl .u8) c0)),(4,some (.row 22 (.sl .u8) c1))]):=by
 have q0:=Nq h0
 have q1:=Nq h1
 refine CU fun P hP=>?_
 refine tw ?_;obtain⟨c0,h0_1,yy0⟩:=o5 b0 b1 u A7;refine Aq yy0 ?_;refine tw ?_;obtain⟨c1,h1_1,yy1⟩:=o7 c0 b1 u A7;refine Aq yy1 ?_;refine tw ?_;exact hP _ ⟨c0,c1,clo,rfl⟩
theorem o8(h0:b0=[]\/Fg 20 b0)(h1:b1=[]\/Fg 32 b1):Ah E0 (.call 89 [PM [b0,b1] u] []) fun r=>∃ c0 c1:List (List UInt8),((b0=[]/\c0=[]\/Fg 20 c0)/\(b1=[]/\c1=[]\/Fg 32 c1))/\r=some (.ret (PM [c0,c1] u) []):=by
 have k0:=Jv h0 zal
 have k1:=Jv h1 zal
 refine CU fun P hP=>tw ?_
 rw[X6 _ _ _ k0.1 k1.1 k0.2 k1.2];refine tw ?_;obtain⟨c00,c10_1,⟨h0_2,h0_3⟩,yy0⟩:=tu b0 b1 u A7 A7
 erw[yy0]
 refine tw ?_;exact hP _ ⟨c00,c10_1,clo,rfl⟩
theorem uA(k i:Int)(h0:b0=[]\/Fg 20 b0)(h1:b1=[]\/Fg 32 b1):Ah E0 (.call 285 [PM [b0,b1] u,.i k,.i i] []) fun r=>∃(l:List UInt8) (e:Int),r=some (.ret (.tup [.sl .u8 l,.i e]) []):=by
 have q0:=Nq h0
 have q1:=Nq h1
 have k0:=(Jv h0 zal).2
 have k1:=(Jv h1 zal).2
 refine CU fun P hP=>?_
 rcases(by omega:k=0\/k=1\/(k<0\/1<k)) with rfl|rfl|hk
 ·refine tw ?_
  rcases AZ i 0 with hc0|hc0
  ·refine tw ?_;exact hP _ ⟨[],1,rfl⟩
  refine tw ?_
  rcases DJ 16 i with hc1|hc1
  ·refine tw ?_;exact hP _ ⟨[],1,rfl⟩
  refine tw ?_;rw[Ky _ _ _ A7];refine tw ?_
  rcases Decidable.em (0<b0.length) with hc2|hc2
  ·refine tw ?_;obtain⟨x3,f3,g3⟩:=Dc k0 (i:=i) A7;rw[g3];refine tw ?_;rw[II _ A7];refine tw ?_;exact hP _ ⟨x3,0,rfl⟩
  refine tw ?_;exact hP _ ⟨[],27,rfl⟩
 ·refine tw ?_
  rcases AZ i 0 with hc0|hc0
  ·refine tw ?_;exact hP _ ⟨[],1,rfl⟩
  refine tw ?_
  rcases DJ 16 i with hc1|hc1
  ·refine tw ?_;exact hP _ ⟨[],1,rfl⟩
  refine tw ?_;rw[Gi _ _ _ _ A7];refine tw ?_
  rcases Decidable.em (0<b1.length) with hc2|hc2
  ·refine tw ?_;obtain⟨x3,f3,g3⟩:=Dc k1 (i:=i) A7;rw[g3];refine tw ?_;rw[II _ A7];refine tw ?_;exact hP _ ⟨x3,0,rfl⟩
  refine tw ?_;exact hP _ ⟨[],27,rfl⟩
 ·refine tw ?_
  rcases AZ k 0 with hc0|hc0
  ·refine tw ?_;exact hP _ ⟨[],1,rfl⟩
  refine tw ?_;exact hP _ ⟨[],1,rfl⟩
end
end Go.Proofs.YtnhgnfdbdflhcaaGreatDoor
