/-
  Own texts, laid together for this claim: contracts of functions of the program and its references, used by the statements of this seat.
-/
import Derived.Test.YtnhgnfdbdflhcaaGreatDoorMtab
import Derived.Test.YtnhgnfdbdflhcaaGreatDoorMtae
import Derived.Test.YtnhgnfdbdflhcaaGreatDoorMtaf
import Derived.Test.YtnhgnfdbdflhcaaGreatDoorMtah
import Derived.Test.YtnhgnfdbdflhcaaGreatDoorMtai
import Derived.Test.YtnhgnfdbdflhcaaGreatDoorMtaj
import Derived.Test.YtnhgnfdbdflhcaaGreatDoorMtaz
import Derived.Test.YtnhgnfdbdflhcaaGreatDoorMtbd
import Derived.Test.YtnhgnfdbdflhcaaGreatDoorMtbf
import Derived.Test.YtnhgnfdbdflhcaaGreatDoorMtbg
import Derived.Test.YtnhgnfdbdflhcaaGreatDoorMtbj
import Derived.Test.YtnhgnfdbdflhcaaGreatDoorMtbk
import Derived.Test.YtnhgnfdbdflhcaaGreatDoorMtbm
import Derived.Test.YtnhgnfdbdflhcaaGreatDoorMtbo
import Derived.Test.YtnhgnfdbdflhcaaGreatDoorMtbq
import Derived.Test.YtnhgnfdbdflhcaaGreatDoorMtbr
import Derived.Test.YtnhgnfdbdflhcaaGreatDoorMtbt
set_option linter.all false
set_option maxHeartbeats 40000000
set_option maxRecDepth 100000
namespace Go.Proofs.YtnhgnfdbdflhcaaGreatDoor
open Go Go.Ax Go.Eng
section
attribute [local irreducible] Cc Dn D7 DU DD BA Dp F7 FY FD Ez Ci CS DK DV and' DW DL C9 BR Bh CB CG BG BI Aw BC Dq Fh Dt ER DX Bl CE Bv Bz Bi Az Bg BK Bj BO Du Bc DF BZ BM Cj Di fits Dv Dk Ac Am BH
attribute [local irreducible] Dw CJ Be nameB EL Eh Ar ET E8 Ea ES F8 BV GX Eg Fv FU EE
def A8G(s:MS)(c:Int)(hs:List Int):Prop:=9<=c/\c<=15/\∀ h,hs=[h]->(c=9->0<=h/\h<=2)/\(c=10\/c=11\/c=13\/c=14\/c=15->0<=Jl h s.ob)
theorem A5l(s:MS)(c:Int)(hs:List Int)(az:List (El AY))(is:List Int)(bs:List (List UInt8)){a k:Int}(hi:Kp a k s)(hf:Few hs az is bs):Ah E0 (.call 21 [av s,rq c hs az is bs] []) fun r=>∃ b:Bool,(b=true->Rok c hs az is bs/\A8G s c hs)/\r=some (.ret (.b b) []):=by
 obtain⟨r,er,e,he,rfl⟩:=PU (Qv c hs az is bs hf)
 by_cases h0:e=0
 ·subst h0
  have hR:=he rfl
  obtain⟨n,hsh,hbl⟩:=hR.sh
  by_cases hc:c=9\/c=10\/c=11\/c=13\/c=14\/c=15
  ·have h1:1=hs.length:=by
    rcases hc with rfl|rfl|rfl|rfl|rfl|rfl<;>(simp[shp] at hsh;omega)
   obtain⟨h,rfl⟩:=EC h1
   obtain⟨b,hb,hr⟩:=A4C s c h az is bs hi hR er
   exact⟨b,fun q=>⟨hR,(hb q).1,(hb q).2.1,fun h' e=>by cases e;exact(hb q).2.2⟩,hr⟩
  ·obtain⟨b,hb,hr⟩:=A4D s c hs az is bs hi zaa er
   refine⟨b,fun q=>⟨hR,?_⟩,hr⟩
   obtain rfl:=hb q
   exact⟨by decide,by decide,fun h _=>⟨fun h=>by omega,fun h=>by omega⟩⟩
 ·exact⟨false,fun q=>(by cases q),A4E s c hs az is bs e h0 er⟩
theorem A7R(s:MS)(c:Int)(hs:List Int)(az:List (El AY))(is:List Int)(bs:List (List UInt8)){a k:Int}(hi:Kp a k s)(hk:k<=900)(hR:Rok c hs az is bs)(hA:A8G s c hs):Ah E0 (.call 22 [av s,rq c hs az is bs] []) fun r=>r=some (.ret (.b true) []):=by
 obtain⟨n,hsh,hbl⟩:=hR.sh
 have um:=hR.few.bm
 obtain⟨c1,c2,hA⟩:=hA
 rcases(by omega:c=9\/c=10\/c=11\/c=12\/c=13\/c=14\/c=15) with rfl|rfl|rfl|rfl|rfl|rfl|rfl
 ·have e:some ((1:Nat),(1:Nat),(3:Nat),(3:Int))=some (hs.length,az.length,is.length,n):=hsh
  simp only[Option.some.injEq,Prod.mk.injEq] at e
  obtain⟨e1,e2,e3,e4⟩:=e
  obtain⟨h,rfl⟩:=EC e1
  obtain⟨i1,i2,i3,rfl⟩:=Td e3
  obtain⟨o,u,d,rfl⟩:=Td (l:=bs) zaa
  exact A4B s _ _ _ _ (wW s 9 h i1 i2 i3 [] az o u d hi hk ((hA h rfl).1 rfl) zam (um o zam) (um d zam))
 ·have e:some ((1:Nat),(1:Nat),(3:Nat),(3:Int))=some (hs.length,az.length,is.length,n):=hsh
  simp only[Option.some.injEq,Prod.mk.injEq] at e
  obtain⟨e1,e2,e3,e4⟩:=e
  obtain⟨h,rfl⟩:=EC e1
  obtain⟨i1,i2,i3,rfl⟩:=Td e3
  obtain⟨o,u,d,rfl⟩:=Td (l:=bs) zaa
  exact A13 s _ _ _ _ (A11 s 10 h i1 i2 i3 [] az o u d hi hk ((hA h rfl).2 zaa) zam (um o zam) (um d zam))
 ·have e:some ((1:Nat),(1:Nat),(0:Nat),(2:Int))=some (hs.length,az.length,is.length,n):=hsh
  simp only[Option.some.injEq,Prod.mk.injEq] at e
  obtain⟨e1,e2,e3,e4⟩:=e
  obtain⟨h,rfl⟩:=EC e1
  obtain rfl:=EI e3
  obtain⟨o,u,rfl⟩:=Ll (l:=bs) zaa
  exact A14 s _ _ _ _ (A5h s 11 h [] az [] o u hi hk ((hA h rfl).2 zaa) zam (um o zam) (um u zam))
 ·have e:some ((0:Nat),(0:Nat),(1:Nat),(0:Int))=some (hs.length,az.length,is.length,n):=hsh
  simp only[Option.some.injEq,Prod.mk.injEq] at e
  obtain⟨e1,e2,e3,e4⟩:=e
  obtain rfl:=EI e1
  obtain⟨i1,rfl⟩:=EC e3
  obtain rfl:=EI (l:=bs) zaa
  exact A15 s _ _ _ _ (A4A s 12 i1 [] az [] [] hi hk (by have:=hR.im i1 zam;omega) zam)
 ·have e:some ((1:Nat),(1:Nat),(0:Nat),(0:Int))=some (hs.length,az.length,is.length,n):=hsh
  simp only[Option.some.injEq,Prod.mk.injEq] at e
  obtain⟨e1,e2,e3,e4⟩:=e
  obtain⟨h,rfl⟩:=EC e1
  obtain rfl:=EI e3
  obtain rfl:=EI (l:=bs) zaa
  exact A16 s _ _ _ _ (A12 s 13 h [] az [] [] hi hk ((hA h rfl).2 zaa) zam)
 ·have e:some ((1:Nat),(1:Nat),(0:Nat),(1:Int))=some (hs.length,az.length,is.length,n):=hsh
  simp only[Option.some.injEq,Prod.mk.injEq] at e
  obtain⟨e1,e2,e3,e4⟩:=e
  obtain⟨h,rfl⟩:=EC e1
  obtain rfl:=EI e3
  obtain⟨o,rfl⟩:=EC (l:=bs) zaa
  exact A17 s _ _ _ _ (A5i s 14 h [] az [] o [] hi hk ((hA h rfl).2 zaa) zam (um o zam) zam)
 ·have e:some ((1:Nat),(1:Nat),(2:Nat),(1:Int))=some (hs.length,az.length,is.length,n):=hsh
  simp only[Option.some.injEq,Prod.mk.injEq] at e
  obtain⟨e1,e2,e3,e4⟩:=e
  obtain⟨h,rfl⟩:=EC e1
  obtain⟨i1,i2,rfl⟩:=Ll e3
  obtain⟨o,rfl⟩:=EC (l:=bs) zaa
  obtain⟨D,er,hd,eP,eR⟩:=A45 s.ru i1 i2 hi.rb
  exact A18 s _ _ _ _ (A48 s 15 h i1 i2 [] az o [] hi hk ((hA h rfl).2 zaa) zam (um o zam) zam D er hd eP eR)
end
section
attribute [local irreducible] Cc Dn D7 DU DD BA Dp F7 FY FD Ez Ci CS DK DV and' DW DL C9 BR Bh CB CG BG BI Aw BC Dq Fh Dt ER DX Bl CE Bv Bz Bi Az Bg BK Bj BO Du Bc DF BZ BM Cj Di fits Dv Dk Ac Am BH
attribute [local irreducible] Dw CJ Be nameB EL Eh Ar ET E8 Ea ES F8 BV GX Eg Fv FU EE Fa Ej Ho I5 En NE X7 NI Ig
theorem zM(s:MS)(b:List UInt8)(k n m:Int){a:Int}(hi:Kp a 200 s)(hb:b.length<=60):∀(j':Nat) (j:Int),0<=j->j+j'=6->Ah E0 (.loop 5 0 0 1 [(2,.sl .u8 b),(3,.i k),(4,.i n),(5,.i m),(13,.pa 0 0),(14,.i j)] [(0,some (.var (cv s)))]) fun r=>r=some (.fin (.exit 0) 0 [] [])
 | 0,j,h0,hj=>by
  obtain rfl:j=6:=zaa
  refine CU fun P hP=>?_
  refine tw ?_;exact hP _ rfl
 | j'+1,j,h0,hj=>by
  have ih:=zM s b k n m hi hb j' (j+1) zaa zaa
  refine CU fun P hP=>?_
  refine tw ?_;rw[FX _ _ A7];refine tw ?_;rw[FX _ _ A7]
  conv=>arg 1;whnf
  try dsimp -iota -beta -eta -zeta only
  rw[Au (a:=8) (b:=k%15) zaa];rw[Au zaa];rw[Gf zaa];rw[Au zaa];rw[AQ];obtain⟨c0,hs0_1,az0_2,is0_3,bs0_4,h0_5,yy0⟩:=zG s (8+k%15+j) (n%1048576+7*j) m b hi A7;refine Aq yy0 ?_;obtain⟨b1,h1_1,yy1⟩:=A5l s c0 hs0_1 az0_2 is0_3 bs0_4 hi A7;refine Aq yy1 ?_
  rcases bo b1 with rfl|rfl
  ·replace h1_1:=h1_1 rfl
   refine tw ?_;rw[A7R s _ _ _ _ _ hi zal h1_1.1 h1_1.2];refine tw ?_;rw[ih];refine tw ?_;exact hP _ rfl
  refine tw ?_;rw[ih];refine tw ?_;exact hP _ rfl
theorem Vs(ac:Int)(cs b:List UInt8)(k n m:Int):Ah E0 (.call 5 [.i ac,.sl .u8 cs,.sl .u8 b,.i k,.i n,.i m] []) fun r=>r=some (.ret (.b true) []):=by
 refine CU fun P hP=>tw ?_
 rw[PS];refine tw ?_
 rcases AZ 60 (↑b.length) with hc0|hc0
 ·refine tw ?_;exact hP _ rfl
 refine tw ?_;obtain⟨t1,⟨h1_1,h1_2⟩,yy1⟩:=XB ac cs b A7;refine Aq yy1 ?_
 obtain yy2:=zM t1 b k n m h1_1 A7 (Int.toNat (6-(0))) 0 A7 zaa
 refine Aq yy2 ?_;exact hP _ rfl
theorem Vt(ac:Int)(cs b:List UInt8)(k n m:Int):Y E0 (.call 5 [.i ac,.sl .u8 cs,.sl .u8 b,.i k,.i n,.i m] [])=some (.ret (.b true) []):=Vs ac cs b k n m
end
end Go.Proofs.YtnhgnfdbdflhcaaGreatDoor
