/-
  Own texts, laid together for this claim: contracts of functions of the program and its references, used by the statements of this seat.
-/
import Derived.Test.YtnhgnfdbdflhcaaGreatDoorMtab
import Derived.Test.YtnhgnfdbdflhcaaGreatDoorMtad
import Derived.Test.YtnhgnfdbdflhcaaGreatDoorMtae
import Derived.Test.YtnhgnfdbdflhcaaGreatDoorMtaj
import Derived.Test.YtnhgnfdbdflhcaaGreatDoorMtao
import Derived.Test.YtnhgnfdbdflhcaaGreatDoorMtap
import Derived.Test.YtnhgnfdbdflhcaaGreatDoorMtav
set_option linter.all false
set_option maxHeartbeats 40000000
set_option maxRecDepth 100000
namespace Go.Ax
def A7S(a:Att):Att:={key:=CJ a.key,nonce:=a.nonce.take 128,digest:=CJ a.digest,resets:=a.resets%4611686018427387904,restarts:=a.restarts%4611686018427387904,clock:=a.clock%4611686018427387904,safe:=a.safe,updates:=a.updates%4611686018427387904,s0:=a.s0%65536,s1:=a.s1%65536}
def A9N(a:Att):Bool:=decide ((a.key.length:Int)<=60)&&(decide ((a.nonce.length:Int)<=200)&&decide ((a.digest.length:Int)<=60))
theorem A4F(b:List UInt8):(NE b).1.key.length<=b.length/\(NE b).1.nonce.length<=b.length/\(NE b).1.digest.length<=b.length:=by
 unfold NE
 dsimp only
 split
 ·simp[P5]
 split
 ·simp[P5]
 split
 ·simp[P5]
 split
 ·simp[P5]
 exact⟨Gg,Gg,Uw⟩
end Go.Ax
namespace Go.Proofs.YtnhgnfdbdflhcaaGreatDoor
open Go Go.Ax
section
attribute [local irreducible] Cc Dn D7 DU DD BA Dp F7 FY FD Ez Ci CS DK DV and' DW DL C9 BR Bh CB CG BG BI Aw BC Dq Fh Dt ER DX Bl CE Bv Bz Bi Az Bg BK Bj BO Du Bc DF BZ BM Cj Di fits Dv Dk Ac Am BH
theorem bI(b:List UInt8)(hb:b.length<=4294967296):Y E0 (.call 50 [.sl .u8 b] [])=some (.ret (.tup [.agg (Qu (NE b).1),.i (NE b).2]) []):=by
 refine tq ?_;rw[Qe _];refine tq ?_;rw[show Y E0 (.call 108 [.pa 0 0,.i 4] [.var [.sl .u8 b,.i 0,.i 0]])=_ from Zp b 0 0 4 hb (Nat.zero_le _) zal];generalize g0:Pz b 0 0 4=x0;obtain⟨v0,p0,er0⟩:=x0;have k0:p0<=b.length:=(by have:=iK (b:=b) (at':=0) (e:=0) (n:=4) (Nat.zero_le _);rw[g0] at this;exact this);have l0:v0.length<=b.length:=(by have:=Uw (b:=b) (at':=0) (e:=0) (n:=4);rw[g0] at this;exact this)
 refine tq ?_
 rcases AX er0 0 with hc0|hc0
 ·refine tq ?_;rw[A6m g0 zav];rfl
 subst hc0;refine tq ?_;rw[aS];refine tq ?_;rw[Bq _ _ A7];refine tq ?_
 rcases Decidable.em (v0=Oz) with hc1|hc1
 ·refine tq ?_;rw[IL b p0 0 32 hb k0];generalize g1:Ie b p0 0 32=x1;obtain⟨v1,p1,er1⟩:=x1;have k1:p1<=b.length:=(by have:=IE (b:=b) (at':=p0) (e:=0) (most:=32) k0;rw[g1] at this;exact this);have l1:v1.length<=b.length:=(by have:=Gg (b:=b) (at':=p0) (e:=0) (most:=32);rw[g1] at this;exact this)
  refine tq ?_;rw[IL b p1 er1 128 hb k1];generalize g2:Ie b p1 er1 128=x2;obtain⟨v2,p2,er2⟩:=x2;have k2:p2<=b.length:=zaN;have l2:v2.length<=b.length:=zaS
  refine tq ?_;rw[Gs b p2 er2 8 hb k2];generalize g3:Hr b p2 er2 8=x3;obtain⟨v3,p3,er3⟩:=x3;have k3:p3<=b.length:=(by have:=IC (b:=b) (at':=p2) (e:=er2) (size:=8) k2;rw[g3] at this;exact this)
  refine tq ?_;rw[Gs b p3 er3 8 hb k3];generalize g4:Hr b p3 er3 8=x4;obtain⟨v4,p4,er4⟩:=x4;have k4:p4<=b.length:=(by have:=IC (b:=b) (at':=p3) (e:=er3) (size:=8) k3;rw[g4] at this;exact this)
  refine tq ?_;rw[Gs b p4 er4 8 hb k4];generalize g5:Hr b p4 er4 8=x5;obtain⟨v5,p5,er5⟩:=x5;have k5:p5<=b.length:=(by have:=IC (b:=b) (at':=p4) (e:=er4) (size:=8) k4;rw[g5] at this;exact this)
  refine tq ?_;rw[Gs b p5 er5 1 hb k5];generalize g6:Hr b p5 er5 1=x6;obtain⟨v6,p6,er6⟩:=x6;have k6:p6<=b.length:=(by have:=IC (b:=b) (at':=p5) (e:=er5) (size:=1) k5;rw[g6] at this;exact this)
  refine tq ?_;rw[Gs b p6 er6 8 hb k6];generalize g7:Hr b p6 er6 8=x7;obtain⟨v7,p7,er7⟩:=x7;have k7:p7<=b.length:=(by have:=IC (b:=b) (at':=p6) (e:=er6) (size:=8) k6;rw[g7] at this;exact this)
  refine tq ?_;rw[Gs b p7 er7 2 hb k7];generalize g8:Hr b p7 er7 2=x8;obtain⟨v8,p8,er8⟩:=x8;have k8:p8<=b.length:=(by have:=IC (b:=b) (at':=p7) (e:=er7) (size:=2) k7;rw[g8] at this;exact this)
  refine tq ?_;rw[Gs b p8 er8 2 hb k8];generalize g9:Hr b p8 er8 2=x9;obtain⟨v9,p9,er9⟩:=x9;have k9:p9<=b.length:=(by have:=IC (b:=b) (at':=p8) (e:=er8) (size:=2) k8;rw[g9] at this;exact this)
  refine tq ?_;rw[Zp b p9 er9 32 hb k9 zal];generalize g10:Pz b p9 er9 32=x10;obtain⟨v10,p10,er10⟩:=x10;have k10:p10<=b.length:=(by have:=iK (b:=b) (at':=p9) (e:=er9) (n:=32) k9;rw[g10] at this;exact this);have l10:v10.length<=b.length:=(by have:=Uw (b:=b) (at':=p9) (e:=er9) (n:=32);rw[g10] at this;exact this)
  refine tq ?_;rw[VI _ _ _ A7 A7]
  conv=>lhs;whnf
  rw[Ad]
  conv=>lhs;whnf
  rcases AX (U2 b p10 er10) 0 with hc2|hc2
  ·refine tq ?_
   rw[YE g0 zav g1 g2 g3 g4 g5 g6 g7 g8 g9 g10];(repeat(first|rw[if_pos zab]|rw[if_neg zab]));rfl
  refine tq ?_
  rcases AX (↑v1.length) 32 with hc3|hc3
  ·rw[G8 zar]
   conv=>lhs;whnf
   try dsimp -iota -beta -eta -zeta only
   rw[YE g0 zav g1 g2 g3 g4 g5 g6 g7 g8 g9 g10];(repeat(first|rw[if_pos zab]|rw[if_neg zab]));rfl
  rw[Cf zar]
  conv=>lhs;whnf
  rcases AZ 1 v6 with hc4|hc4
  ·refine tq ?_
   rw[YE g0 zav g1 g2 g3 g4 g5 g6 g7 g8 g9 g10];(repeat(first|rw[if_pos zab]|rw[if_neg zab]));rfl
  refine tq ?_
  rw[YE g0 zav g1 g2 g3 g4 g5 g6 g7 g8 g9 g10];(repeat(first|rw[if_pos zab]|rw[if_neg zab]));rw[<-A4u]
 refine tq ?_;rw[A6n g0 zav];rfl
end
end Go.Proofs.YtnhgnfdbdflhcaaGreatDoor
