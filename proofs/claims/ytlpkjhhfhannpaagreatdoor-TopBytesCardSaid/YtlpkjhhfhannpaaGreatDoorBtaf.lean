/- Own texts of this claim: contracts of functions. -/
import Derived.Test.YtlpkjhhfhannpaaGreatDoorBtad
set_option linter.all false
set_option maxHeartbeats 40000000
set_option maxRecDepth 100000
namespace Go.Ax
abbrev A0r(p:Pub):List AV:=[.i p.kind,.i p.attr,.i p.height,.sl .u8 p.policy,.sl .u8 p.unique]
end Go.Ax
namespace Go.Proofs.YtlpkjhhfhannpaaGreatDoor
open Go Go.Ax Go.Eng
attribute [local irreducible] CS Cj CP CW CQ BC Cm ED ES Dx EG CJ Bi Ce CX and' Cf CU BL Au BI BP BR Ag Ai AY Ae D5 EJ D6 DX Cb BZ BQ BM BO BJ AZ BK Aj Ak Ap D7 BB CV BU BF CO D8 Cc fits D9 Ci AC AQ Ah
variable {a k:Int}(b:List UInt8)(n:Int)(s:MS)(kind h attr height:Int)(policy unique:List UInt8)
theorem I5(k:Int):Y E0 (.call 296 [.i k] [])=some (.ret (.i (uniq k)) []):=by
 refine tq ?_
 rcases Ar k 2 with hc0|hc0
 ·subst hc0;refine tq ?_
  exact zau
 refine tq ?_
 exact zau
theorem F9(k:Int):Y E0 (.call 112 [.i k] [])=some (.ret (.i (uniq k)) []):=by
 refine tq ?_
 rcases Ar k 2 with hc0|hc0
 ·subst hc0;refine tq ?_
  exact zau
 refine tq ?_
 exact zau
theorem VY:Y E0 (.call 233 [.agg [.i kind,.i attr,.i height,.sl .u8 policy,.sl .u8 unique]] [])=some (.ret (.i (DI ⟨kind,attr,height,policy,unique⟩)) []):=by
 refine tq ?_
 rcases Bc kind 1 with hc0|hc0
 ·refine tq ?_
  exact zab
 refine tq ?_
 rcases Bc 3 kind with hc1|hc1
 ·refine tq ?_
  exact zab
 refine tq ?_
 rcases Bc attr 0 with hc2|hc2
 ·refine tq ?_
  exact zab
 refine tq ?_
 rcases Bc 7 attr with hc3|hc3
 ·refine tq ?_
  exact zab
 refine tq ?_
 rcases CE (BC BinOp.and attr 4) 0 with hc4|hc4
 ·refine tq ?_
  rcases Ar kind 2 with hc5|hc5
  ·subst hc5;refine tq ?_
   rcases Ar (BC BinOp.and attr 1) 0 with hc6|hc6
   ·refine tq ?_
    rcases Ar (↑policy.length) 0 with hc7|hc7
    ·rw[Dz zaK]
     conv=>lhs;whnf
     rw[AL]
     conv=>lhs;whnf
     exact zab
    refine tq ?_
    rcases Bc height 0 with hc8|hc8
    ·refine tq ?_
     exact zab
    rw[Fv zaa]
    conv=>lhs;whnf
    rw[AL]
    conv=>lhs;whnf
    rcases Bc 3 height with hc9|hc9
    ·refine tq ?_
     exact zab
    refine tq ?_
    rcases CE height 0 with hc10|hc10
    ·refine tq ?_
     rcases CE (↑policy.length) 32 with hc11|hc11
     ·refine tq ?_
      exact zab
     refine tq ?_;rw[I5 _];refine tq ?_
     rcases CE (↑unique.length) (uniq 2) with hc12|hc12
     ·refine tq ?_
      exact zab
     refine tq ?_
     exact zab
    subst hc10;refine tq ?_
    rcases CE (↑policy.length) 32 with hc13|hc13
    ·refine tq ?_
     exact zab
    refine tq ?_;rw[I5 _];refine tq ?_
    rcases CE (↑unique.length) (uniq 2) with hc14|hc14
    ·refine tq ?_
     exact zab
    refine tq ?_
    exact zab
   refine tq ?_
   rcases Bc height 0 with hc15|hc15
   ·rw[Dl zaa]
    conv=>lhs;whnf
    rw[AL]
    conv=>lhs;whnf
    exact zab
   rw[Fv zaa]
   conv=>lhs;whnf
   rw[AL]
   conv=>lhs;whnf
   rcases Bc 3 height with hc16|hc16
   ·refine tq ?_
    exact zab
   refine tq ?_
   rcases CE height 0 with hc17|hc17
   ·refine tq ?_
    rcases CE (↑policy.length) 0 with hc18|hc18
    ·refine tq ?_
     rcases CE (↑policy.length) 32 with hc19|hc19
     ·refine tq ?_
      exact zab
     refine tq ?_;rw[I5 _];refine tq ?_
     rcases CE (↑unique.length) (uniq 2) with hc20|hc20
     ·refine tq ?_
      exact zab
     refine tq ?_
     exact zab
    refine tq ?_;rw[I5 _];refine tq ?_
    rcases CE (↑unique.length) (uniq 2) with hc21|hc21
    ·refine tq ?_
     exact zab
    refine tq ?_
    exact zab
   subst hc17;refine tq ?_
   rcases CE (↑policy.length) 0 with hc22|hc22
   ·refine tq ?_
    rcases CE (↑policy.length) 32 with hc23|hc23
    ·refine tq ?_
     exact zab
    refine tq ?_;rw[I5 _];refine tq ?_
    rcases CE (↑unique.length) (uniq 2) with hc24|hc24
    ·refine tq ?_
     exact zab
    refine tq ?_
    exact zab
   refine tq ?_;rw[I5 _];refine tq ?_
   rcases CE (↑unique.length) (uniq 2) with hc25|hc25
   ·refine tq ?_
    exact zab
   refine tq ?_
   exact zab
  refine tq ?_
  exact zab
 refine tq ?_
 rcases Ar (BC BinOp.and attr 1) 0 with hc26|hc26
 ·refine tq ?_
  rcases Ar (↑policy.length) 0 with hc27|hc27
  ·refine tq ?_
   exact zab
  refine tq ?_
  rcases Bc height 0 with hc28|hc28
  ·refine tq ?_
   exact zab
  rw[Fv zaa]
  conv=>lhs;whnf
  rw[AL]
  conv=>lhs;whnf
  rcases Bc 3 height with hc29|hc29
  ·refine tq ?_
   exact zab
  refine tq ?_
  rcases CE height 0 with hc30|hc30
  ·refine tq ?_
   rcases Ar kind 2 with hc31|hc31
   ·subst hc31;refine tq ?_
    rcases CE (↑policy.length) 32 with hc32|hc32
    ·refine tq ?_
     exact zab
    refine tq ?_;rw[I5 _];refine tq ?_
    rcases CE (↑unique.length) (uniq 2) with hc33|hc33
    ·refine tq ?_
     exact zab
    refine tq ?_
    exact zab
   refine tq ?_
   exact zab
  subst hc30;refine tq ?_
  rcases CE (↑policy.length) 32 with hc34|hc34
  ·refine tq ?_
   exact zab
  refine tq ?_;rw[I5 _];refine tq ?_
  rcases CE (↑unique.length) (uniq kind) with hc35|hc35
  ·refine tq ?_
   exact zab
  refine tq ?_
  exact zab
 refine tq ?_
 rcases Bc height 0 with hc36|hc36
 ·rw[Dl zaa]
  conv=>lhs;whnf
  rw[AL]
  conv=>lhs;whnf
  exact zab
 refine tq ?_
 rcases Bc 3 height with hc37|hc37
 ·refine tq ?_
  exact zab
 refine tq ?_
 rcases CE height 0 with hc38|hc38
 ·refine tq ?_
  rcases Ar kind 2 with hc39|hc39
  ·subst hc39;refine tq ?_
   rcases CE (↑policy.length) 0 with hc40|hc40
   ·refine tq ?_
    rcases CE (↑policy.length) 32 with hc41|hc41
    ·refine tq ?_
     exact zab
    refine tq ?_;rw[I5 _];refine tq ?_
    rcases CE (↑unique.length) (uniq 2) with hc42|hc42
    ·refine tq ?_
     exact zab
    refine tq ?_
    exact zab
   refine tq ?_;rw[I5 _];refine tq ?_
   rcases CE (↑unique.length) (uniq 2) with hc43|hc43
   ·refine tq ?_
    exact zab
   refine tq ?_
   exact zab
  refine tq ?_
  exact zab
 subst hc38;refine tq ?_
 rcases CE (↑policy.length) 0 with hc44|hc44
 ·refine tq ?_
  rcases CE (↑policy.length) 32 with hc45|hc45
  ·refine tq ?_
   exact zab
  refine tq ?_;rw[I5 _];refine tq ?_
  rcases CE (↑unique.length) (uniq kind) with hc46|hc46
  ·refine tq ?_
   exact zab
  refine tq ?_
  exact zab
 refine tq ?_;rw[I5 _];refine tq ?_
 rcases CE (↑unique.length) (uniq kind) with hc47|hc47
 ·refine tq ?_
  exact zab
 refine tq ?_
 exact zab
theorem WM:Y E0 (.call 113 [.agg [.i kind,.i attr,.i height,.sl .u8 policy,.sl .u8 unique]] [])=some (.ret (.i (DI ⟨kind,attr,height,policy,unique⟩)) []):=by
 refine tq ?_
 rcases Bc kind 1 with hc0|hc0
 ·refine tq ?_
  exact zab
 refine tq ?_
 rcases Bc 3 kind with hc1|hc1
 ·refine tq ?_
  exact zab
 refine tq ?_
 rcases Bc attr 0 with hc2|hc2
 ·refine tq ?_
  exact zab
 refine tq ?_
 rcases Bc 7 attr with hc3|hc3
 ·refine tq ?_
  exact zab
 refine tq ?_
 rcases CE (BC BinOp.and attr 4) 0 with hc4|hc4
 ·refine tq ?_
  rcases CE kind 2 with hc5|hc5
  ·refine tq ?_
   exact zab
  subst hc5;refine tq ?_
  rcases Ar (BC BinOp.and attr 1) 0 with hc6|hc6
  ·refine tq ?_
   rcases Ar (↑policy.length) 0 with hc7|hc7
   ·refine tq ?_
    exact zab
   refine tq ?_
   rcases Bc height 0 with hc8|hc8
   ·refine tq ?_
    exact zab
   refine tq ?_
   rcases Bc 3 height with hc9|hc9
   ·refine tq ?_
    exact zab
   refine tq ?_
   rcases CE height 0 with hc10|hc10
   ·refine tq ?_
    rcases CE (↑policy.length) 32 with hc11|hc11
    ·refine tq ?_
     exact zab
    refine tq ?_;rw[F9 _];refine tq ?_
    rcases CE (↑unique.length) (uniq 2) with hc12|hc12
    ·refine tq ?_
     exact zab
    refine tq ?_
    exact zab
   subst hc10;refine tq ?_
   rcases CE (↑policy.length) 32 with hc13|hc13
   ·refine tq ?_
    exact zab
   refine tq ?_;rw[F9 _]
   conv=>lhs;whnf
   try dsimp -iota -beta -eta -zeta only
   rw[drw zaw];conv=>lhs;whnf
   rw[AL]
   conv=>lhs;whnf
   rcases CE (↑unique.length) (uniq 2) with hc14|hc14
   ·refine tq ?_
    exact zab
   refine tq ?_
   exact zab
  refine tq ?_
  rcases Bc height 0 with hc15|hc15
  ·refine tq ?_
   exact zab
  refine tq ?_
  rcases Bc 3 height with hc16|hc16
  ·refine tq ?_
   exact zab
  refine tq ?_
  rcases CE height 0 with hc17|hc17
  ·refine tq ?_
   rcases CE (↑policy.length) 0 with hc18|hc18
   ·refine tq ?_
    rcases CE (↑policy.length) 32 with hc19|hc19
    ·refine tq ?_
     exact zab
    refine tq ?_;rw[F9 _]
    conv=>lhs;whnf
    try dsimp -iota -beta -eta -zeta only
    rw[drw zaw];conv=>lhs;whnf
    rw[AL]
    conv=>lhs;whnf
    rcases CE (↑unique.length) (uniq 2) with hc20|hc20
    ·refine tq ?_
     exact zab
    refine tq ?_
    exact zab
   refine tq ?_;rw[F9 _];refine tq ?_
   rcases CE (↑unique.length) (uniq 2) with hc21|hc21
   ·refine tq ?_
    exact zab
   refine tq ?_
   exact zab
  subst hc17;refine tq ?_
  rcases CE (↑policy.length) 0 with hc22|hc22
  ·refine tq ?_
   rcases CE (↑policy.length) 32 with hc23|hc23
   ·refine tq ?_
    exact zab
   refine tq ?_;rw[F9 _];refine tq ?_
   rcases CE (↑unique.length) (uniq 2) with hc24|hc24
   ·refine tq ?_
    exact zab
   rw[FH zaK]
   conv=>lhs;whnf
   rw[AL]
   conv=>lhs;whnf
   exact zab
  refine tq ?_;rw[F9 _];refine tq ?_
  rcases CE (↑unique.length) (uniq 2) with hc25|hc25
  ·refine tq ?_
   exact zab
  refine tq ?_
  exact zab
 rw[FH zaa]
 conv=>lhs;whnf
 rw[AL]
 conv=>lhs;whnf
 rcases Ar (BC BinOp.and attr 1) 0 with hc26|hc26
 ·refine tq ?_
  rcases Ar (↑policy.length) 0 with hc27|hc27
  ·refine tq ?_
   exact zab
  refine tq ?_
  rcases Bc height 0 with hc28|hc28
  ·refine tq ?_
   exact zab
  refine tq ?_
  rcases Bc 3 height with hc29|hc29
  ·refine tq ?_
   exact zab
  refine tq ?_
  rcases CE height 0 with hc30|hc30
  ·refine tq ?_
   rcases CE kind 2 with hc31|hc31
   ·refine tq ?_
    exact zab
   subst hc31;refine tq ?_
   rcases CE (↑policy.length) 32 with hc32|hc32
   ·refine tq ?_
    exact zab
   refine tq ?_;rw[F9 _]
   conv=>lhs;whnf
   try dsimp -iota -beta -eta -zeta only
   rw[drw zaw];conv=>lhs;whnf
   rw[AL]
   conv=>lhs;whnf
   rcases CE (↑unique.length) (uniq 2) with hc33|hc33
   ·refine tq ?_
    exact zab
   refine tq ?_
   exact zab
  subst hc30;refine tq ?_
  rcases CE (↑policy.length) 32 with hc34|hc34
  ·refine tq ?_
   exact zab
  refine tq ?_;rw[F9 _];refine tq ?_
  rcases CE (↑unique.length) (uniq kind) with hc35|hc35
  ·rw[Ih zaK]
   conv=>lhs;whnf
   rw[AL]
   conv=>lhs;whnf
   exact zab
  rw[FH zaK]
  conv=>lhs;whnf
  rw[AL]
  conv=>lhs;whnf
  exact zab
 refine tq ?_
 rcases Bc height 0 with hc36|hc36
 ·refine tq ?_
  exact zab
 refine tq ?_
 rcases Bc 3 height with hc37|hc37
 ·refine tq ?_
  exact zab
 refine tq ?_
 rcases CE height 0 with hc38|hc38
 ·rw[Ih zaa]
  conv=>lhs;whnf
  rcases CE kind 2 with hc39|hc39
  ·refine tq ?_
   exact zab
  subst hc39;refine tq ?_
  rcases CE (↑policy.length) 0 with hc40|hc40
  ·refine tq ?_
   rcases CE (↑policy.length) 32 with hc41|hc41
   ·refine tq ?_
    exact zab
   refine tq ?_;rw[F9 _];refine tq ?_
   rcases CE (↑unique.length) (uniq 2) with hc42|hc42
   ·refine tq ?_
    exact zab
   rw[FH zaK]
   conv=>lhs;whnf
   rw[AL]
   conv=>lhs;whnf
   exact zab
  refine tq ?_;rw[F9 _];refine tq ?_
  rcases CE (↑unique.length) (uniq 2) with hc43|hc43
  ·refine tq ?_
   exact zab
  refine tq ?_
  exact zab
 subst hc38;refine tq ?_
 rcases CE (↑policy.length) 0 with hc44|hc44
 ·refine tq ?_
  rcases CE (↑policy.length) 32 with hc45|hc45
  ·refine tq ?_
   exact zab
  refine tq ?_;rw[F9 _];refine tq ?_
  rcases CE (↑unique.length) (uniq kind) with hc46|hc46
  ·refine tq ?_
   exact zab
  refine tq ?_
  exact zab
 refine tq ?_;rw[F9 _];refine tq ?_
 rcases CE (↑unique.length) (uniq kind) with hc47|hc47
 ·refine tq ?_
  exact zab
 refine tq ?_
 exact zab
theorem yU(hp:policy.length<=1000000)(hu:unique.length<=1000000):Y E0 (.call 255 [.agg [.i kind,.i attr,.i height,.sl .u8 policy,.sl .u8 unique]] [])=some (.ret (.sl .u8 (Eh ⟨kind,attr,height,policy,unique⟩)) []):=by
 refine tq ?_;rw[G9 _ _ AA];refine tq ?_;rw[G9 _ _ AA];refine tq ?_
 (simp only[Dq];rfl)
theorem MG(hp:policy.length<=1000000)(hu:unique.length<=1000000):Y E0 (.call 73 [.agg [.i kind,.i attr,.i height,.sl .u8 policy,.sl .u8 unique]] [])=some (.ret (.nm 0) [some (.row 5 .u8 (Eh ⟨kind,attr,height,policy,unique⟩))]):=by
 refine tq ?_;rw[GK _ _ AA];refine tq ?_;rw[GK _ _ AA];refine tq ?_
 (simp only[Dq];rfl)
theorem uu{v0 v1 v2 er0 er1 er2:Int}{p0 p1 p2:Nat}(hb:b.length<=4294967296)(g0:Dt b 0 0 1=(v0,p0,er0))(g1:Dt b p0 er0 1=(v1,p1,er1))(g2:Dt b p1 er1 1=(v2,p2,er2)):
  Y E0 (.loop 191 0 0 4 [(2,.pa 0 0),(4,.pa 1 0),(5,.pa 2 0),(17,.nm 3),(18,.i 3),(19,.i 0)] [(0,some (.var [.i 0,.i 0,.i 0,.nil,.nil])),(1,some (.var [.sl .u8 b,.i 0,.i 0])),(2,some (.var [.i 0,.i 0,.i 0,.nil,.nil])),(3,some (.rowA 225 1 3 [.pa 2 0,.pa 2 1,.pa 2 2]))])=some (.fin (.exit 0) 3 [(2,.pa 0 0),(4,.pa 1 0),(5,.pa 2 0)] [(0,some (.var [.i 0,.i 0,.i 0,.nil,.nil])),(1,some (.var [.sl .u8 b,.i p2,.i er2])),(2,some (.var [.i v0,.i v1,.i v2,.nil,.nil]))]):=by
 have k0:p0<=b.length:=zba
 have k1:p1<=b.length:=zbi
 have k2:p2<=b.length:=zbj
 refine tq ?_;rw[show Y E0 (.call 130 [.pa 0 0,.i 1] [.var [.sl .u8 b,.i 0,.i 0]])=_ from Ed b 0 0 1 hb (Nat.zero_le _),g0];refine tq ?_;refine tq ?_;rw[Ed b p0 er0 1 hb k0,g1];refine tq ?_;refine tq ?_;rw[Ed b p1 er1 1 hb k1,g2];refine tq ?_;exact tq rfl
theorem uw(v0 v1 v2:Int){v3 v4:List UInt8}{er2 er3 er4:Int}{p2 p3 p4:Nat}(hb:b.length<=4294967296)(k2:p2<=b.length)(g3:Fg b p2 er2 32=(v3,p3,er3))(g4:Fg b p3 er3 32=(v4,p4,er4)):
  Y E0 (.loop 191 1 0 4 [(2,.pa 0 0),(4,.pa 1 0),(5,.pa 2 0),(30,.nm 3),(31,.i 2),(32,.i 0)] [(0,some (.var [.i 0,.i 0,.i 0,.nil,.nil])),(1,some (.var [.sl .u8 b,.i p2,.i er2])),(2,some (.var [.i v0,.i v1,.i v2,.nil,.nil])),(3,some (.rowA 275 1 2 [.pa 2 3,.pa 2 4]))])=some (.fin (.exit 2) 3 [(2,.pa 0 0),(4,.pa 1 0),(5,.pa 2 0)] [(0,some (.var [.i 0,.i 0,.i 0,.nil,.nil])),(1,some (.var [.sl .u8 b,.i p4,.i er4])),(2,some (.var [.i v0,.i v1,.i v2,.sl .u8 v3,.sl .u8 v4]))]):=by
 have k3:p3<=b.length:=zbh
 refine tq ?_;rw[Jr b p2 er2 32 hb k2,g3];refine tq ?_;refine tq ?_;rw[Jr b p3 er3 32 hb k3,g4];refine tq ?_;exact tq rfl
theorem A7a(hb:b.length<=4294967296):Y E0 (.call 191 [.sl .u8 b] [])=some (.ret (.tup [.agg (A0r (Fh b).1),.i (Fh b).2]) []):=by
 refine tq ?_;rw[LW _ AA];refine tq ?_;rw[show((3:Nat):Int)=3 from rfl];generalize g0:Dt b 0 0 1=x0;obtain⟨v0,p0,er0⟩:=x0;generalize g1:Dt b p0 er0 1=x1;obtain⟨v1,p1,er1⟩:=x1;generalize g2:Dt b p1 er1 1=x2;obtain⟨v2,p2,er2⟩:=x2;rw[uu b hb g0 g1 g2];refine tq ?_;rw[show((2:Nat):Int)=2 from rfl];have k0:p0<=b.length:=zba;have k1:p1<=b.length:=zbi;have k2:p2<=b.length:=zbj;generalize g3:Fg b p2 er2 32=x3;obtain⟨v3,p3,er3⟩:=x3;generalize g4:Fg b p3 er3 32=x4;obtain⟨v4,p4,er4⟩:=x4;have k3:p3<=b.length:=zbh;have k4:p4<=b.length:=(by have:=JB (b:=b) (at':=p3) (e:=er3) (most:=32) k3;rw[g4] at this;exact this);have l3:=yB (b:=b) (at':=p2) (e:=er2) (most:=32);rw[g3] at l3;have l4:=yB (b:=b) (at':=p3) (e:=er3) (most:=32);rw[g4] at l4;rw[uw b v0 v1 v2 hb k2 g3 g4];refine tq ?_;rw[UI _ _ _ AA AA];refine tq ?_
 rcases CE (PI b p4 er4) 0 with hc0|hc0
 ·refine tq ?_
  rw[iO g0 g1 g2 g3 g4];(repeat(first|rw[if_pos zai]|rw[if_neg zai]));rfl
 refine tq ?_;rw[VY ..];refine tq ?_
 rcases CE (DI {kind:=v0,attr:=v1,height:=v2,policy:=v3,unique:=v4}) 0 with hc1|hc1
 ·refine tq ?_
  rw[iO g0 g1 g2 g3 g4];(repeat(first|rw[if_pos zai]|rw[if_neg zai]));rfl
 refine tq ?_
 rw[iO g0 g1 g2 g3 g4];(repeat(first|rw[if_pos zai]|rw[if_neg zai]));done
theorem AAL(m:Int)(hm:1<=m/\m<=1000000000):Y E0 (.call 26 [.i n,.i m] [])=some (.ret (.i (n%m)) []):=by
 have hb:=XF n hm.1
 refine tq ?_
 rcases Bc (CQ n m) 0 with hc0|hc0
 ·refine tp ?_;rw[Bj zaa,nD hm.1 zaa]
 refine tq ?_;rw[nC hm.1 zaa]
theorem nT(hp:policy.length<=60000)(hu:unique.length<=60000):Y E0 (.call 238 [.agg [.i kind,.i attr,.i height,.sl .u8 policy,.sl .u8 unique]] [])=some (.ret (.sl .u8 (nameB ⟨kind,attr,height,policy,unique⟩)) []):=by
 have hl:=Js (p:=⟨kind,attr,height,policy,unique⟩) (Nat.le_trans hp zaj) (Nat.le_trans hu zaj)
 refine tq ?_;rw[yU _ _ _ _ _ AA AA];refine tq ?_;rw[Fe _ _ AA AA];refine tq ?_
 rfl
theorem Z4(hp:policy.length<=60000)(hu:unique.length<=60000):Y E0 (.call 116 [.agg [.i kind,.i attr,.i height,.sl .u8 policy,.sl .u8 unique]] [])=some (.ret (.sl .u8 (nameB ⟨kind,attr,height,policy,unique⟩)) []):=by
 have hl:=Js (p:=⟨kind,attr,height,policy,unique⟩) (Nat.le_trans hp zaj) (Nat.le_trans hu zaj)
 refine tq ?_;rw[MG _ _ _ _ _ AA AA];refine tq ?_;rw[FK _ _ AA AA];refine tq ?_
 rfl
theorem Z5(size:Int)(policy auth:List UInt8)(written:Bool)(data:List UInt8):Y E0 (.call 287 [.agg [.i n,.i kind,.i attr,.i size,.sl .u8 policy,.sl .u8 auth,.b written,.sl .u8 data]] [])=some (.ret (.sl .u8 (A7L ⟨n,kind,attr,size,policy,auth,written,data⟩)) []):=by
 cases written
 ·refine tq ?_;rw[EN _ _ _ AA];refine tq ?_
  (simp only[Ac,Dq];rfl)
 ·refine tq ?_;rw[EN _ _ _ AA];refine tq ?_
  (simp only[Ac,Dq];rfl)
theorem A0s(size:Int)(policy auth:List UInt8)(written:Bool)(data:List UInt8)(hp:policy.length<=1000000):Y E0 (.call 218 [.agg [.i n,.i kind,.i attr,.i size,.sl .u8 policy,.sl .u8 auth,.b written,.sl .u8 data]] [])=some (.ret (.sl .u8 (Yh ⟨n,kind,attr,size,policy,auth,written,data⟩)) []):=by
 cases written
 ·refine tq ?_;rw[Z5 ..];refine tq ?_;rw[FK _ _ AA AA];refine tq ?_
  rfl
 ·refine tq ?_;rw[Z5 ..];refine tq ?_;rw[FK _ _ AA AA];refine tq ?_
  rfl
theorem A4U:Y E0 (.call 288 [.i h] [])=some (.ret (.sl .u8 (MW h)) []):=by
 rw[AL];conv=>lhs;whnf
 rcases Bool.eq_false_or_eq_true (Dx h 0) with hc0|hc0
 ·rw[hc0];replace hc0:=Ii hc0;try simp only[AP] at hc0
  conv=>lhs;whnf
  exact zav
 ·rw[hc0];replace hc0:=Ij hc0;try simp only[AP] at hc0
  conv=>lhs;whnf
  rcases Bool.eq_false_or_eq_true (Dx 3 h) with hc1|hc1
  ·rw[hc1];replace hc1:=Ii hc1;try simp only[AP] at hc1
   conv=>lhs;whnf
   exact zav
  ·rw[hc1];replace hc1:=Ij hc1;try simp only[AP] at hc1
   conv=>lhs;whnf
   rw[AX];rw[Fe _ _ zaK zaK]
   conv=>lhs;whnf
   (rw[MW,if_neg zaa,<-Dq])
theorem uy:Y E0 (.call 219 [.i h] [])=some (.ret (.sl .u8 (MW h)) []):=by
 refine tq ?_
 rcases Bc h 0 with hc0|hc0
 ·refine tq ?_
  exact zav
 refine tq ?_
 rcases Bc 3 h with hc1|hc1
 ·refine tq ?_
  exact zav
 refine tq ?_;rw[FK _ _ AA AA];refine tq ?_
 (rw[MW,if_neg zaa,<-Dq])
section
attribute [local irreducible] BG DY CY nameB Eh Ef Az
theorem A53:(MW h).length<=32:=by
 unfold MW;split
 ·simp
 ·rw[A7];exact Nat.le_refl _
theorem pR(x:Idx):(Yh x).length=32:=A7 _
theorem Rh(s:MS)(h:Int){a k:Int}(hi:Kp a k s):∀(n:Nat) (j:Int),0<=j->j+n=s.ix.length->EC E0 (.loop 79 0 0 1 [(1,.i h),(2,.pa 0 0),(5,.i j)] [(0,some (.var (cv s)))]) fun r=>(∃ i:Int,(0<=i/\i<s.ix.length)/\r=some (.fin .ret 0 [(4,.i i)] []))\/r=some (.fin (.exit 0) 0 [] [])
 | 0,j,h0,hj=>by
  have hl:=hi.ixl
  refine G5 fun P hP=>?_
  refine tw ?_;exact hP _ (Or.inr rfl)
 | n+1,j,h0,hj=>by
  have hl:=hi.ixl
  have ih:=Rh s h hi n (j+1) zaa zaa
  refine G5 fun P hP=>?_
  refine tw ?_;obtain⟨⟨x0a,x0b,x0c,x0d,x0e,x0f,x0g,x0h⟩,f0,g0⟩:=JI hi.ixm (i:=j) AA;simp only[Gv,LZ,O7,O8,Jf,KA,KC,KD] at f0;rw[g0];refine tw ?_
  rcases Ar h (256+x0a) with hc1|hc1
  ·subst hc1;refine tw ?_;exact hP _ (Or.inl ⟨j,AA,rfl⟩)
  refine tw ?_;exact hP _ ih
theorem UZ(s:MS)(h:Int){a k:Int}(hi:Kp a k s):∀(n:Nat) (j:Int),0<=j->j+n=s.ob.length->EC E0 (.loop 70 0 0 1 [(1,.i h),(2,.pa 0 0),(5,.i j)] [(0,some (.var (cv s)))]) fun r=>(∃ i:Int,(0<=i/\i<s.ob.length)/\r=some (.fin .ret 0 [(4,.i i)] []))\/r=some (.fin (.exit 0) 0 [] [])
 | 0,j,h0,hj=>by
  have hl:=hi.obl
  refine G5 fun P hP=>?_
  refine tw ?_;exact hP _ (Or.inr rfl)
 | n+1,j,h0,hj=>by
  have hl:=hi.obl
  have ih:=UZ s h hi n (j+1) zaa zaa
  refine G5 fun P hP=>?_
  refine tw ?_
  rcases Ar h (512+j) with hc0|hc0
  ·subst hc0;refine tw ?_;obtain⟨⟨⟨x1a,x1b,x1c,x1d,x1e⟩,⟨x1f,x1g,x1h⟩,x1i⟩,f1,g1⟩:=JI hi.obm (i:=j) AA;simp only[Gv,LZ,O7,O8,Jf,KA,KC,KD] at f1;rw[g1];refine tw ?_
   rcases CE x1a 0 with hc2|hc2
   ·refine tw ?_;exact hP _ (Or.inl ⟨j,AA,rfl⟩)
   subst hc2;refine tw ?_;exact hP _ ih
  refine tw ?_;exact hP _ ih
theorem WN(hi:Kp a k s):EC E0 (.call 79 [av s,.i h] []) fun r=>∃ i:Int,(-1<=i/\i<s.ix.length)/\r=some (.ret (.i i) []):=by
 have hl:=hi.ixl
 refine G5 fun P hP=>tw ?_
 obtain(⟨i0,⟨h0_1,h0_2⟩,yy0⟩|yy0):=Rh s h hi (Int.toNat (↑s.ix.length-(0))) 0 AA zaa
 ·refine Dv yy0 ?_;exact hP _ ⟨i0,AA,rfl⟩
 refine Dv yy0 ?_;exact hP _ ⟨-1,AA,rfl⟩
theorem ZE(hi:Kp a k s):EC E0 (.call 70 [av s,.i h] []) fun r=>∃ i:Int,(-1<=i/\i<s.ob.length)/\r=some (.ret (.i i) []):=by
 have hl:=hi.obl
 refine G5 fun P hP=>tw ?_
 obtain(⟨i0,⟨h0_1,h0_2⟩,yy0⟩|yy0):=UZ s h hi (Int.toNat (↑s.ob.length-(0))) 0 AA zaa
 ·refine Dv yy0 ?_;exact hP _ ⟨i0,AA,rfl⟩
 refine Dv yy0 ?_;exact hP _ ⟨-1,AA,rfl⟩
theorem vO(hi:Kp a k s)(hh : -100000<=h/\h<=1099511627776):EC E0 (.call 119 [av s,.i h] []) fun r=>∃ i:Int,(-1<=i/\i<s.ss.length/\(i<0\/i=h-768))/\r=some (.ret (.i i) []):=by
 have hl:=hi.ssl
 refine G5 fun P hP=>?_
 refine tv ?_
 rcases Bc h 768 with hc0|hc0
 ·refine tw ?_;exact hP _ ⟨-1,AA,rfl⟩
 refine tw ?_
 rcases Gw (↑s.ss.length) (h-768) with hc1|hc1
 ·refine tw ?_;exact hP _ ⟨-1,AA,rfl⟩
 refine tw ?_;obtain⟨⟨x2a,x2b,x2c,x2d,x2e,x2f,x2g,x2h⟩,f2,g2⟩:=JI hi.ssm (i:=h-768) AA;simp only[Gv,LZ,O7,O8,Jf,KA,KC,KD] at f2;rw[g2];refine tw ?_
 rcases Ar x2a 0 with hc3|hc3
 ·subst hc3;refine tw ?_;exact hP _ ⟨-1,AA,rfl⟩
 refine tw ?_;exact hP _ ⟨h-768,AA,rfl⟩
theorem Md(hi:Kp a k s)(hh : -100000<=h/\h<=1099511627776):EC E0 (.call 75 [av s,.i h] []) fun r=>∃(e c:Int) (n d:List UInt8) (u l m t:Int) (b:Bool),((e=0->0<=h-768/\h-768<s.ss.length)/\n.length<=32/\d.length<=32)/\r=some (.ret (.tup [iP c n d u l m t b,.i e]) []):=by
 have hl:=hi.ssl
 refine G5 fun P hP=>tw ?_
 obtain⟨i0,⟨h0_1,h0_2,h0_3⟩,yy0⟩:=vO s h hi AA;refine Dv yy0 ?_
 rcases Bc i0 0 with hc1|hc1
 ·refine tw ?_;exact hP _ ⟨8,0,[],[],0,0,0,0,false,AA,rfl⟩
 refine tw ?_;obtain⟨⟨x2a,x2b,x2c,x2d,x2e,x2f,x2g,x2h⟩,f2,g2⟩:=JI hi.ssm (i:=i0) AA;simp only[Gv,LZ,O7,O8,Jf,KA,KC,KD] at f2;rw[g2];refine tw ?_;exact hP _ ⟨0,x2a,x2b,x2c,x2d,x2e,x2f,x2g,x2h,AA,rfl⟩
theorem vP(hi:Kp a k s):EC E0 (.call 175 [av s,.i h] []) fun r=>∃ l:List UInt8,(l.length<=32)/\r=some (.ret (.sl .u8 l) []):=by
 have hl:=hi.ixl
 have hl':=hi.obl
 refine G5 fun P hP=>tw ?_
 obtain⟨i0,⟨h0_1,h0_2⟩,yy0⟩:=WN s h hi;refine Dv yy0 ?_
 rcases Gw 0 i0 with hc1|hc1
 ·refine tw ?_;obtain⟨⟨x2a,x2b,x2c,x2d,x2e,x2f,x2g,x2h⟩,f2,g2⟩:=JI hi.ixm (i:=i0) AA;simp only[Gv,LZ,O7,O8,Jf,KA,KC,KD] at f2;rw[g2];refine tw ?_;rw[A0s (hp:=AA) ..];refine tw ?_
  refine hP _ ⟨Yh {n:=x2a,kind:=x2b,attr:=x2c,size:=x2d,policy:=x2e,auth:=x2f,written:=x2g,data:=x2h},?_,rfl⟩;(simp only[pR,A7,BH,Aw,BA,DD,EE,A8,Am,AU,AO,DL,LL] at *<;>omega)
 refine tw ?_;obtain⟨i3,⟨h3_1,h3_2⟩,yy3⟩:=ZE s h hi;refine Dv yy3 ?_
 rcases Gw 0 i3 with hc4|hc4
 ·refine tw ?_;obtain⟨⟨⟨x5a,x5b,x5c,x5d,x5e⟩,⟨x5f,x5g,x5h⟩,x5i⟩,f5,g5⟩:=JI hi.obm (i:=i3) AA;simp only[Gv,LZ,O7,O8,Jf,KA,KC,KD] at f5;rw[g5];refine tw ?_;rw[Z4 _ _ _ _ _ AA AA];refine tw ?_;exact hP _ ⟨nameB {kind:=x5a,attr:=x5b,height:=x5c,policy:=x5d,unique:=x5e},AA,rfl⟩
 refine tw ?_;rw[uy _];refine tw ?_;refine hP _ ⟨MW h,?_,rfl⟩;exact A53 _
theorem pU(hi:Kp a k s):EC E0 (.call 80 [av s,.i h] []) fun r=>∃ l:List UInt8,(l.length<=32)/\r=some (.ret (.sl .u8 l) []):=by
 have hl:=hi.ixl
 have hl':=hi.obl
 have hl2:=hi.aul
 refine G5 fun P hP=>tw ?_
 obtain⟨i0,⟨h0_1,h0_2⟩,yy0⟩:=WN s h hi;refine Dv yy0 ?_
 rcases Gw 0 i0 with hc1|hc1
 ·refine tw ?_;obtain⟨⟨x2a,x2b,x2c,x2d,x2e,x2f,x2g,x2h⟩,f2,g2⟩:=JI hi.ixm (i:=i0) AA;simp only[Gv,LZ,O7,O8,Jf,KA,KC,KD] at f2;rw[g2];refine tw ?_;exact hP _ ⟨x2f,AA,rfl⟩
 refine tw ?_;obtain⟨i3,⟨h3_1,h3_2⟩,yy3⟩:=ZE s h hi;refine Dv yy3 ?_
 rcases Gw 0 i3 with hc4|hc4
 ·refine tw ?_;obtain⟨⟨⟨x5a,x5b,x5c,x5d,x5e⟩,⟨x5f,x5g,x5h⟩,x5i⟩,f5,g5⟩:=JI hi.obm (i:=i3) AA;simp only[Gv,LZ,O7,O8,Jf,KA,KC,KD] at f5;rw[g5];refine tw ?_;exact hP _ ⟨x5f,AA,rfl⟩
 refine tw ?_
 rcases Gw 0 h with hc6|hc6
 ·refine tw ?_
  rcases Bc h (↑s.au.length) with hc7|hc7
  ·refine tw ?_;obtain⟨x8,f8,g8⟩:=JI hi.aum (i:=h) AA;rw[g8];refine tw ?_;exact hP _ ⟨x8,AA,rfl⟩
  refine tw ?_;exact hP _ ⟨[],AA,rfl⟩
 refine tw ?_;exact hP _ ⟨[],AA,rfl⟩
end
end Go.Proofs.YtlpkjhhfhannpaaGreatDoor
