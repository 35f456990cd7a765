/-
  Own texts, laid together for this claim: contracts of functions of the program and its references, used by the statements of this seat.
-/
import Derived.Test.YtnhgnfdbdflhcaaGreatDoorMtab
import Derived.Test.YtnhgnfdbdflhcaaGreatDoorMtae
import Derived.Test.YtnhgnfdbdflhcaaGreatDoorMtaf
import Derived.Test.YtnhgnfdbdflhcaaGreatDoorMtah
import Derived.Test.YtnhgnfdbdflhcaaGreatDoorMtai
import Derived.Test.YtnhgnfdbdflhcaaGreatDoorMtaj
import Derived.Test.YtnhgnfdbdflhcaaGreatDoorMtax
import Derived.Test.YtnhgnfdbdflhcaaGreatDoorMtbc
import Derived.Test.YtnhgnfdbdflhcaaGreatDoorMtbd
import Derived.Test.YtnhgnfdbdflhcaaGreatDoorMtbe
import Derived.Test.YtnhgnfdbdflhcaaGreatDoorMtbg
import Derived.Test.YtnhgnfdbdflhcaaGreatDoorMtbj
import Derived.Test.YtnhgnfdbdflhcaaGreatDoorMtbk
import Derived.Test.YtnhgnfdbdflhcaaGreatDoorMtbm
import Derived.Test.YtnhgnfdbdflhcaaGreatDoorMtbn
set_option linter.all false
set_option maxHeartbeats 40000000
set_option maxRecDepth 100000
namespace Go.Ax
open Go Go.Eng Go.RowKit
variable {α:Type}{l:List α}
theorem EI(h:0=l.length):l=[]:=List.eq_nil_of_length_eq_zero h.symm
theorem EC(h:1=l.length):∃ x,l=[x]:=by match l,h with|[x],_=>exact⟨x,rfl⟩
theorem Ll(h:2=l.length):∃ x y,l=[x,y]:=by match l,h with|[x,y],_=>exact⟨x,y,rfl⟩
theorem Td(h:3=l.length):∃ x y z,l=[x,y,z]:=by match l,h with|[x,y,z],_=>exact⟨x,y,z,rfl⟩
theorem A8E(h:4=l.length):∃ x y z w,l=[x,y,z,w]:=by match l,h with|[x,y,z,w],_=>exact⟨x,y,z,w,rfl⟩
theorem A8F(h:6=l.length):∃ a b c d e f,l=[a,b,c,d,e,f]:=by match l,h with|[a,b,c,d,e,f],_=>exact⟨a,b,c,d,e,f,rfl⟩
def alw(s:MS)(c:Int)(hs:List Int):Prop:=(∀ h,hs=[h]->(c=9->0<=h/\h<=2)/\(c=10\/c=11\/c=13\/c=14\/c=15->0<=Jl h s.ob)/\(c=30->0<=h/\h<=3))/\∀ h g,hs=[h,g]->0<=Lu g s.ix
theorem zH{c:Int}{x:Nat×Nat×Nat×Int}(h:shp c=some x):c=1\/c=2\/c=4\/c=5\/c=6\/c=7\/c=8\/c=9\/c=10\/c=11\/c=12\/c=13\/c=14\/c=15\/c=16\/c=17\/c=18\/c=19\/c=20\/c=21\/c=22\/c=23\/c=24\/c=25\/c=26\/c=27\/c=28\/c=29\/c=30\/c=31\/c=32\/c=33:=by
 by_cases hr:1<=c/\c<=33/\c≠3
 ·omega
 ·exfalso
  unfold shp at h
  rw[if_neg zaa,if_neg zaa,if_neg zaa,if_neg zaa,if_neg zaa,if_neg zaa,if_neg zaa,if_neg zaa,if_neg zaa,if_neg zaa,if_neg zaa,if_neg zaa,if_neg zaa,if_neg zaa,if_neg zaa,if_neg zaa,if_neg zaa,if_neg zaa,if_neg zaa,if_neg zaa,if_neg zaa,if_neg zaa,if_neg zaa,if_neg zaa,if_neg zaa,if_neg zaa,if_neg zaa,if_neg zaa,if_neg zaa,if_neg zaa,if_neg zaa,if_neg zaa] at h
  cases h
theorem A40{c:Int}{x:Nat×Nat×Nat×Int}(h:shp c=some x):x.2.1<=x.1/\x.1<=2/\(x.1=1->c=9\/c=10\/c=11\/c=13\/c=14\/c=15\/c=18\/c=21\/c=22\/c=30\/c=31\/c=32\/c=33)/\(x.1=2->23<=c/\c<=29):=by
 rcases zH h with rfl|rfl|rfl|rfl|rfl|rfl|rfl|rfl|rfl|rfl|rfl|rfl|rfl|rfl|rfl|rfl|rfl|rfl|rfl|rfl|rfl|rfl|rfl|rfl|rfl|rfl|rfl|rfl|rfl|rfl|rfl|rfl<;>(simp[shp] at h;subst h;decide)
end Go.Ax
namespace Go.Proofs.YtnhgnfdbdflhcaaGreatDoor
open Go Go.Ax Go.Eng
variable {a k:Int}(s:MS)(n lo c:Int)(hs:List Int)(az:List (El AY))(is:List Int)(bs:List (List UInt8))
section
attribute [local irreducible] Cc Dn D7 DU DD BA Dp F7 FY FD Ez Ci CS DK DV and' DW DL C9 BR Bh CB CG BG BI Aw BC Dq Fh Dt ER DX Bl CE Bv Bz Bi Az Bg BK Bj BO Du Bc DF BZ BM Cj Di fits Dv Dk Ac Am BH
attribute [local irreducible] Dw CJ Be nameB EL Eh Ar ET E8 Ea ES F8 BV GX Eg Fv FU EE Fa Ej Ho I5 En
theorem PT(hi:Kp a k s)(hk:k<=900)(hR:Rok c hs az is bs)(hA:alw s c hs):Ah E0 (.call 208 [av s,.i lo,rq c hs az is bs] []) fun r=>∃(t:MS) (e:Int) (is':List Int) (bs':List (List UInt8)),Kp a (k+1) t/\r=some (.ret (.tup [av t,rp e is' bs' []]) []):=by
 obtain⟨n,hsh,hbl⟩:=hR.sh
 have um:=hR.few.bm
 rcases zH hsh with rfl|rfl|rfl|rfl|rfl|rfl|rfl|rfl|rfl|rfl|rfl|rfl|rfl|rfl|rfl|rfl|rfl|rfl|rfl|rfl|rfl|rfl|rfl|rfl|rfl|rfl|rfl|rfl|rfl|rfl|rfl|rfl
 ·have e:some ((0:Nat),(0:Nat),(1:Nat),(0:Int))=some (hs.length,az.length,is.length,n):=hsh
  simp only[Option.some.injEq,Prod.mk.injEq] at e
  obtain⟨e1,e2,e3,e4⟩:=e
  obtain rfl:=EI e1
  obtain rfl:=EI e2
  obtain⟨ia,rfl⟩:=EC e3
  obtain rfl:=EI (l:=bs) zaa
  exact A0i s lo ia hi hk (hR.im ia zam)
 ·have e:some ((0:Nat),(0:Nat),(1:Nat),(0:Int))=some (hs.length,az.length,is.length,n):=hsh
  simp only[Option.some.injEq,Prod.mk.injEq] at e
  obtain⟨e1,e2,e3,e4⟩:=e
  obtain rfl:=EI e1
  obtain rfl:=EI e2
  obtain⟨ia,rfl⟩:=EC e3
  obtain rfl:=EI (l:=bs) zaa
  exact A0j s lo ia hi hk (hR.im ia zam)
 ·have e:some ((0:Nat),(0:Nat),(0:Nat),(0:Int))=some (hs.length,az.length,is.length,n):=hsh
  simp only[Option.some.injEq,Prod.mk.injEq] at e
  obtain⟨e1,e2,e3,e4⟩:=e
  obtain rfl:=EI e1
  obtain rfl:=EI e2
  obtain rfl:=EI e3
  obtain rfl:=EI (l:=bs) zaa
  exact A0k s lo  hi hk
 ·have e:some ((0:Nat),(0:Nat),(2:Nat),(0:Int))=some (hs.length,az.length,is.length,n):=hsh
  simp only[Option.some.injEq,Prod.mk.injEq] at e
  obtain⟨e1,e2,e3,e4⟩:=e
  obtain rfl:=EI e1
  obtain rfl:=EI e2
  obtain⟨ia,ib,rfl⟩:=Ll e3
  obtain rfl:=EI (l:=bs) zaa
  exact A0l s lo ia ib hi hk (hR.im ia zam) (hR.im ib zam)
 ·have e:some ((0:Nat),(0:Nat),(1:Nat),(2:Int))=some (hs.length,az.length,is.length,n):=hsh
  simp only[Option.some.injEq,Prod.mk.injEq] at e
  obtain⟨e1,e2,e3,e4⟩:=e
  obtain rfl:=EI e1
  obtain rfl:=EI e2
  obtain⟨ia,rfl⟩:=EC e3
  obtain⟨ba,bb,rfl⟩:=Ll (l:=bs) zaa;exact A0m s lo ia ba bb hi hk (hR.im ia zam) (hR.bm ba zam) (hR.bm bb zam)
 ·have e:some ((0:Nat),(0:Nat),(1:Nat),(1:Int))=some (hs.length,az.length,is.length,n):=hsh
  simp only[Option.some.injEq,Prod.mk.injEq] at e
  obtain⟨e1,e2,e3,e4⟩:=e
  obtain rfl:=EI e1
  obtain rfl:=EI e2
  obtain⟨ia,rfl⟩:=EC e3
  obtain⟨ba,rfl⟩:=EC (l:=bs) zaa;exact A0n s lo ia ba hi hk (hR.im ia zam) (hR.bm ba zam)
 ·have e:some ((0:Nat),(0:Nat),(1:Nat),(0:Int))=some (hs.length,az.length,is.length,n):=hsh
  simp only[Option.some.injEq,Prod.mk.injEq] at e
  obtain⟨e1,e2,e3,e4⟩:=e
  obtain rfl:=EI e1
  obtain rfl:=EI e2
  obtain⟨ia,rfl⟩:=EC e3
  obtain rfl:=EI (l:=bs) zaa
  exact A0o s lo ia hi hk (hR.im ia zam)
 ·have e:some ((1:Nat),(1:Nat),(3:Nat),(3:Int))=some (hs.length,az.length,is.length,n):=hsh
  simp only[Option.some.injEq,Prod.mk.injEq] at e
  obtain⟨e1,e2,e3,e4⟩:=e
  obtain⟨hA1,rfl⟩:=EC e1
  obtain⟨⟨ya,yb,yc⟩,rfl⟩:=EC e2
  obtain⟨ia,ib,ic,rfl⟩:=Td e3
  obtain⟨ba,bb,bc,rfl⟩:=Td (l:=bs) zaa;exact A0q s lo hA1 ia ib ic ya yb yc ba bb bc hi hk (hR.hm hA1 zam) (hR.im ia zam) (hR.im ib zam) (hR.im ic zam) (hR.bm ba zam) (hR.bm bb zam) (hR.bm bc zam) ((hA.1 _ rfl).1 rfl)
 ·have e:some ((1:Nat),(1:Nat),(3:Nat),(3:Int))=some (hs.length,az.length,is.length,n):=hsh
  simp only[Option.some.injEq,Prod.mk.injEq] at e
  obtain⟨e1,e2,e3,e4⟩:=e
  obtain⟨hA1,rfl⟩:=EC e1
  obtain⟨⟨ya,yb,yc⟩,rfl⟩:=EC e2
  obtain⟨ia,ib,ic,rfl⟩:=Td e3
  obtain⟨ba,bb,bc,rfl⟩:=Td (l:=bs) zaa;exact vH s lo hA1 ia ib ic ya yb yc ba bb bc hi hk (hR.hm hA1 zam) (hR.im ia zam) (hR.im ib zam) (hR.im ic zam) (hR.bm ba zam) (hR.bm bb zam) (hR.bm bc zam) ((hA.1 _ rfl).2.1 zaa)
 ·have e:some ((1:Nat),(1:Nat),(0:Nat),(2:Int))=some (hs.length,az.length,is.length,n):=hsh
  simp only[Option.some.injEq,Prod.mk.injEq] at e
  obtain⟨e1,e2,e3,e4⟩:=e
  obtain⟨hA1,rfl⟩:=EC e1
  obtain⟨⟨ya,yb,yc⟩,rfl⟩:=EC e2
  obtain rfl:=EI e3
  obtain⟨ba,bb,rfl⟩:=Ll (l:=bs) zaa;exact vJ s lo hA1 ya yb yc ba bb hi hk (hR.hm hA1 zam) (hR.bm ba zam) (hR.bm bb zam) ((hA.1 _ rfl).2.1 zaa)
 ·have e:some ((0:Nat),(0:Nat),(1:Nat),(0:Int))=some (hs.length,az.length,is.length,n):=hsh
  simp only[Option.some.injEq,Prod.mk.injEq] at e
  obtain⟨e1,e2,e3,e4⟩:=e
  obtain rfl:=EI e1
  obtain rfl:=EI e2
  obtain⟨ia,rfl⟩:=EC e3
  obtain rfl:=EI (l:=bs) zaa
  exact vM s lo ia hi hk (hR.im ia zam)
 ·have e:some ((1:Nat),(1:Nat),(0:Nat),(0:Int))=some (hs.length,az.length,is.length,n):=hsh
  simp only[Option.some.injEq,Prod.mk.injEq] at e
  obtain⟨e1,e2,e3,e4⟩:=e
  obtain⟨hA1,rfl⟩:=EC e1
  obtain⟨⟨ya,yb,yc⟩,rfl⟩:=EC e2
  obtain rfl:=EI e3
  obtain rfl:=EI (l:=bs) zaa
  exact vO s lo hA1 ya yb yc hi hk (hR.hm hA1 zam) ((hA.1 _ rfl).2.1 zaa)
 ·have e:some ((1:Nat),(1:Nat),(0:Nat),(1:Int))=some (hs.length,az.length,is.length,n):=hsh
  simp only[Option.some.injEq,Prod.mk.injEq] at e
  obtain⟨e1,e2,e3,e4⟩:=e
  obtain⟨hA1,rfl⟩:=EC e1
  obtain⟨⟨ya,yb,yc⟩,rfl⟩:=EC e2
  obtain rfl:=EI e3
  obtain⟨ba,rfl⟩:=EC (l:=bs) zaa;exact vS s lo hA1 ya yb yc ba hi hk (hR.hm hA1 zam) (hR.bm ba zam) ((hA.1 _ rfl).2.1 zaa)
 ·have e:some ((1:Nat),(1:Nat),(2:Nat),(1:Int))=some (hs.length,az.length,is.length,n):=hsh
  simp only[Option.some.injEq,Prod.mk.injEq] at e
  obtain⟨e1,e2,e3,e4⟩:=e
  obtain⟨hA1,rfl⟩:=EC e1
  obtain⟨⟨ya,yb,yc⟩,rfl⟩:=EC e2
  obtain⟨ia,ib,rfl⟩:=Ll e3
  obtain⟨ba,rfl⟩:=EC (l:=bs) zaa;exact vU s lo hA1 ia ib ya yb yc ba hi hk (hR.hm hA1 zam) (hR.im ia zam) (hR.im ib zam) (hR.bm ba zam) ((hA.1 _ rfl).2.1 zaa)
 ·have e:some ((0:Nat),(0:Nat),(1:Nat),(0:Int))=some (hs.length,az.length,is.length,n):=hsh
  simp only[Option.some.injEq,Prod.mk.injEq] at e
  obtain⟨e1,e2,e3,e4⟩:=e
  obtain rfl:=EI e1
  obtain rfl:=EI e2
  obtain⟨ia,rfl⟩:=EC e3
  obtain rfl:=EI (l:=bs) zaa
  exact vV s lo ia hi hk (hR.im ia zam)
 ·have e:some ((0:Nat),(0:Nat),(6:Nat),(-1:Int))=some (hs.length,az.length,is.length,n):=hsh
  simp only[Option.some.injEq,Prod.mk.injEq] at e
  obtain⟨e1,e2,e3,e4⟩:=e
  obtain rfl:=EI e1
  obtain rfl:=EI e2
  obtain⟨ia,ib,ic,id,ie,ig,rfl⟩:=A8F e3;exact vW s lo ia ib ic id ie ig bs hi hk (hR.im ia zam) (hR.im ib zam) (hR.im ic zam) (hR.im id zam) (hR.im ie zam) (hR.im ig zam) zaa um
 ·have e:some ((1:Nat),(1:Nat),(2:Nat),(1:Int))=some (hs.length,az.length,is.length,n):=hsh
  simp only[Option.some.injEq,Prod.mk.injEq] at e
  obtain⟨e1,e2,e3,e4⟩:=e
  obtain⟨hA1,rfl⟩:=EC e1
  obtain⟨⟨ya,yb,yc⟩,rfl⟩:=EC e2
  obtain⟨ia,ib,rfl⟩:=Ll e3
  obtain⟨ba,rfl⟩:=EC (l:=bs) zaa;exact vX s lo hA1 ia ib ya yb yc ba hi hk (hR.hm hA1 zam) (hR.im ia zam) (hR.im ib zam) (hR.bm ba zam)
 ·have e:some ((0:Nat),(0:Nat),(1:Nat),(3:Int))=some (hs.length,az.length,is.length,n):=hsh
  simp only[Option.some.injEq,Prod.mk.injEq] at e
  obtain⟨e1,e2,e3,e4⟩:=e
  obtain rfl:=EI e1
  obtain rfl:=EI e2
  obtain⟨ia,rfl⟩:=EC e3
  obtain⟨ba,bb,bc,rfl⟩:=Td (l:=bs) zaa;exact vY s lo ia ba bb bc hi hk (hR.im ia zam) (hR.bm ba zam) (hR.bm bb zam) (hR.bm bc zam)
 ·have e:some ((0:Nat),(0:Nat),(1:Nat),(0:Int))=some (hs.length,az.length,is.length,n):=hsh
  simp only[Option.some.injEq,Prod.mk.injEq] at e
  obtain⟨e1,e2,e3,e4⟩:=e
  obtain rfl:=EI e1
  obtain rfl:=EI e2
  obtain⟨ia,rfl⟩:=EC e3
  obtain rfl:=EI (l:=bs) zaa
  exact vZ s lo ia hi hk (hR.im ia zam)
 ·have e:some ((1:Nat),(1:Nat),(4:Nat),(2:Int))=some (hs.length,az.length,is.length,n):=hsh
  simp only[Option.some.injEq,Prod.mk.injEq] at e
  obtain⟨e1,e2,e3,e4⟩:=e
  obtain⟨hA1,rfl⟩:=EC e1
  obtain⟨⟨ya,yb,yc⟩,rfl⟩:=EC e2
  obtain⟨ia,ib,ic,id,rfl⟩:=A8E e3
  obtain⟨ba,bb,rfl⟩:=Ll (l:=bs) zaa;exact ve s lo hA1 ia ib ic id ya yb yc ba bb hi hk (hR.hm hA1 zam) (hR.im ia zam) (hR.im ib zam) (hR.im ic zam) (hR.im id zam) (hR.bm ba zam) (hR.bm bb zam)
 ·have e:some ((1:Nat),(1:Nat),(1:Nat),(0:Int))=some (hs.length,az.length,is.length,n):=hsh
  simp only[Option.some.injEq,Prod.mk.injEq] at e
  obtain⟨e1,e2,e3,e4⟩:=e
  obtain⟨hA1,rfl⟩:=EC e1
  obtain⟨⟨ya,yb,yc⟩,rfl⟩:=EC e2
  obtain⟨ia,rfl⟩:=EC e3
  obtain rfl:=EI (l:=bs) zaa
  exact vg s lo hA1 ia ya yb yc hi hk (hR.hm hA1 zam) (hR.im ia zam)
 ·have e:some ((2:Nat),(1:Nat),(1:Nat),(1:Int))=some (hs.length,az.length,is.length,n):=hsh
  simp only[Option.some.injEq,Prod.mk.injEq] at e
  obtain⟨e1,e2,e3,e4⟩:=e
  obtain⟨hA1,hB1,rfl⟩:=Ll e1
  obtain⟨⟨ya,yb,yc⟩,rfl⟩:=EC e2
  obtain⟨ia,rfl⟩:=EC e3
  obtain⟨ba,rfl⟩:=EC (l:=bs) zaa;exact vk s lo hA1 hB1 ia ya yb yc ba hi hk (hR.hm hA1 zam) (hR.hm hB1 zam) (hR.im ia zam) (hR.bm ba zam) (hA.2 _ _ rfl)
 ·have e:some ((2:Nat),(1:Nat),(2:Nat),(0:Int))=some (hs.length,az.length,is.length,n):=hsh
  simp only[Option.some.injEq,Prod.mk.injEq] at e
  obtain⟨e1,e2,e3,e4⟩:=e
  obtain⟨hA1,hB1,rfl⟩:=Ll e1
  obtain⟨⟨ya,yb,yc⟩,rfl⟩:=EC e2
  obtain⟨ia,ib,rfl⟩:=Ll e3
  obtain rfl:=EI (l:=bs) zaa
  exact vz s lo hA1 hB1 ia ib ya yb yc hi hk (hR.hm hA1 zam) (hR.hm hB1 zam) (hR.im ia zam) (hR.im ib zam) (hA.2 _ _ rfl)
 ·have e:some ((2:Nat),(1:Nat),(0:Nat),(0:Int))=some (hs.length,az.length,is.length,n):=hsh
  simp only[Option.some.injEq,Prod.mk.injEq] at e
  obtain⟨e1,e2,e3,e4⟩:=e
  obtain⟨hA1,hB1,rfl⟩:=Ll e1
  obtain⟨⟨ya,yb,yc⟩,rfl⟩:=EC e2
  obtain rfl:=EI e3
  obtain rfl:=EI (l:=bs) zaa
  exact wB s lo hA1 hB1 ya yb yc hi hk (hR.hm hA1 zam) (hR.hm hB1 zam) (hA.2 _ _ rfl)
 ·have e:some ((2:Nat),(1:Nat),(0:Nat),(1:Int))=some (hs.length,az.length,is.length,n):=hsh
  simp only[Option.some.injEq,Prod.mk.injEq] at e
  obtain⟨e1,e2,e3,e4⟩:=e
  obtain⟨hA1,hB1,rfl⟩:=Ll e1
  obtain⟨⟨ya,yb,yc⟩,rfl⟩:=EC e2
  obtain rfl:=EI e3
  obtain⟨ba,rfl⟩:=EC (l:=bs) zaa;exact wC s lo hA1 hB1 ya yb yc ba hi hk (hR.hm hA1 zam) (hR.hm hB1 zam) (hR.bm ba zam) (hA.2 _ _ rfl)
 ·have e:some ((2:Nat),(1:Nat),(0:Nat),(1:Int))=some (hs.length,az.length,is.length,n):=hsh
  simp only[Option.some.injEq,Prod.mk.injEq] at e
  obtain⟨e1,e2,e3,e4⟩:=e
  obtain⟨hA1,hB1,rfl⟩:=Ll e1
  obtain⟨⟨ya,yb,yc⟩,rfl⟩:=EC e2
  obtain rfl:=EI e3
  obtain⟨ba,rfl⟩:=EC (l:=bs) zaa;exact wE s lo hA1 hB1 ya yb yc ba hi hk (hR.hm hA1 zam) (hR.hm hB1 zam) (hR.bm ba zam) (hA.2 _ _ rfl)
 ·have e:some ((2:Nat),(1:Nat),(0:Nat),(0:Int))=some (hs.length,az.length,is.length,n):=hsh
  simp only[Option.some.injEq,Prod.mk.injEq] at e
  obtain⟨e1,e2,e3,e4⟩:=e
  obtain⟨hA1,hB1,rfl⟩:=Ll e1
  obtain⟨⟨ya,yb,yc⟩,rfl⟩:=EC e2
  obtain rfl:=EI e3
  obtain rfl:=EI (l:=bs) zaa
  exact wF s lo hA1 hB1 ya yb yc hi hk (hR.hm hA1 zam) (hR.hm hB1 zam) (hA.2 _ _ rfl)
 ·have e:some ((2:Nat),(1:Nat),(0:Nat),(0:Int))=some (hs.length,az.length,is.length,n):=hsh
  simp only[Option.some.injEq,Prod.mk.injEq] at e
  obtain⟨e1,e2,e3,e4⟩:=e
  obtain⟨hA1,hB1,rfl⟩:=Ll e1
  obtain⟨⟨ya,yb,yc⟩,rfl⟩:=EC e2
  obtain rfl:=EI e3
  obtain rfl:=EI (l:=bs) zaa
  exact wG s lo hA1 hB1 ya yb yc hi hk (hR.hm hA1 zam) (hR.hm hB1 zam) (hA.2 _ _ rfl)
 ·have e:some ((1:Nat),(1:Nat),(0:Nat),(1:Int))=some (hs.length,az.length,is.length,n):=hsh
  simp only[Option.some.injEq,Prod.mk.injEq] at e
  obtain⟨e1,e2,e3,e4⟩:=e
  obtain⟨hA1,rfl⟩:=EC e1
  obtain⟨⟨ya,yb,yc⟩,rfl⟩:=EC e2
  obtain rfl:=EI e3
  obtain⟨ba,rfl⟩:=EC (l:=bs) zaa;exact wH s lo hA1 ya yb yc ba hi hk (hR.hm hA1 zam) (hR.bm ba zam) ((hA.1 _ rfl).2.2 rfl)
 ·have e:some ((1:Nat),(1:Nat),(0:Nat),(0:Int))=some (hs.length,az.length,is.length,n):=hsh
  simp only[Option.some.injEq,Prod.mk.injEq] at e
  obtain⟨e1,e2,e3,e4⟩:=e
  obtain⟨hA1,rfl⟩:=EC e1
  obtain⟨⟨ya,yb,yc⟩,rfl⟩:=EC e2
  obtain rfl:=EI e3
  obtain rfl:=EI (l:=bs) zaa
  exact wI s lo hA1 ya yb yc hi hk (hR.hm hA1 zam)
 ·have e:some ((1:Nat),(1:Nat),(0:Nat),(0:Int))=some (hs.length,az.length,is.length,n):=hsh
  simp only[Option.some.injEq,Prod.mk.injEq] at e
  obtain⟨e1,e2,e3,e4⟩:=e
  obtain⟨hA1,rfl⟩:=EC e1
  obtain⟨⟨ya,yb,yc⟩,rfl⟩:=EC e2
  obtain rfl:=EI e3
  obtain rfl:=EI (l:=bs) zaa
  exact wJ s lo hA1 ya yb yc hi hk (hR.hm hA1 zam)
 ·have e:some ((1:Nat),(1:Nat),(3:Nat),(0:Int))=some (hs.length,az.length,is.length,n):=hsh
  simp only[Option.some.injEq,Prod.mk.injEq] at e
  obtain⟨e1,e2,e3,e4⟩:=e
  obtain⟨hA1,rfl⟩:=EC e1
  obtain⟨⟨ya,yb,yc⟩,rfl⟩:=EC e2
  obtain⟨ia,ib,ic,rfl⟩:=Td e3
  obtain rfl:=EI (l:=bs) zaa
  exact wK s lo hA1 ia ib ic ya yb yc hi hk (hR.hm hA1 zam) (hR.im ia zam) (hR.im ib zam) (hR.im ic zam)
theorem eu(hi:Kp a k s)(hk:k<=900)(hR:Rok c hs az is bs):Ah E0 (.call 206 [av s,rq c hs az is bs] []) fun r=>∃ b:Bool,(b=true->alw s c hs)/\r=some (.ret (.b b) []):=by
 obtain⟨n,hsh,_⟩:=hR.sh
 obtain⟨_,h2,h3,h4⟩:=A40 hsh
 dsimp only at h2 h3 h4
 rcases(by omega:0=hs.length\/1=hs.length\/2=hs.length) with h|h|h
 ·obtain rfl:=EI h
  exact⟨true,fun _=>⟨fun h e=>(by cases e),fun h g e=>(by cases e)⟩,ul s c az is bs hi zaa⟩
 ·obtain⟨x,rfl⟩:=EC h;obtain⟨b,hb,e⟩:=uo s c x az is bs hi (h3 rfl);exact⟨b,fun q=>⟨fun h e=>(by cases e;exact hb q),fun h g e=>(by cases e)⟩,e⟩
 ·obtain⟨x,y,rfl⟩:=Ll h;obtain⟨b,hb,e⟩:=uq s c x y az is bs hi (h4 rfl);exact⟨b,fun q=>⟨fun h e=>(by cases e),fun h g e=>(by cases e;exact hb q)⟩,e⟩
theorem Vm(hi:Kp a k s)(hR:Rok c hs az is bs)(hz:0<az.length)(hlo:0<=lo/\lo<=4):Ah E0 (.call 207 [av s,.i lo,rq c hs az is bs] []) fun r=>∃(t:MS) (e:Int),(Kp a k t)/\r=some (.ret (.tup [av t,.i e]) []):=by
 obtain⟨n,hsh,_⟩:=hR.sh
 have h1:=(A40 hsh).1
 dsimp only at h1
 match hs,az,hR,hz,h1 with
 | h::hs,(y1,y2,y3)::az,hR,_,_=>exact oP s lo c h hs y1 y2 y3 az is bs hi hR.few hlo (hR.am (y1,y2,y3) List.mem_cons_self)
 | [],_::_,_,_,h1=>simp at h1
theorem Tf(hi:Kp a k s)(hk:k<=900)(hR:Rok c hs az is bs)(hz:0<az.length):Ah E0 (.call 209 [av s,rq c hs az is bs] []) fun r=>∃(t:MS) (ns:List (List UInt8)),(Kp a (k+1) t)/\r=some (.ret (.tup [av t,.sl (.sl .u8) ns]) []):=by
 match az,hR,hz with
 | (y1,y2,y3)::az,hR,_=>exact jT s c hs y1 y2 y3 az is bs hi hk hR.few (hR.am (y1,y2,y3) List.mem_cons_self)
theorem wO(hi:Kp a k s)(hk:k<=890)(hf:Few hs az is bs):Ah E0 (.call 158 [av s,.i lo,rq c hs az is bs] []) fun r=>∃(t:MS) (e:Int) (is':List Int) (bs' ns':List (List UInt8)),Kp a (k+2) t/\r=some (.ret (.tup [av t,rp e is' bs' ns']) []):=by
 have hkk:=hi.kk
 refine CU fun P hP=>tw ?_
 obtain⟨e0,h0_1,yy0⟩:=Qv c hs az is bs A7;refine Aq yy0 ?_
 rcases AX e0 0 with hc1|hc1
 ·refine tw ?_;rw[BL ..];refine tw ?_;exact hP _ ⟨s,e0,[],[],[],clo,rfl⟩
 subst hc1
 replace h0_1:=h0_1 rfl
 refine tw ?_
 rcases AZ lo 0 with hc2|hc2
 ·refine tw ?_;rw[BL ..];refine tw ?_;exact hP _ ⟨s,13,[],[],[],clo,rfl⟩
 refine tw ?_
 rcases AZ 4 lo with hc3|hc3
 ·refine tw ?_;rw[BL ..];refine tw ?_;exact hP _ ⟨s,13,[],[],[],clo,rfl⟩
 refine tw ?_
 rcases AX c 1 with hc4|hc4
 ·refine tw ?_
  rcases bo (s.st) with hc5|hc5
  ·rw[hc5];refine tw ?_;obtain⟨b6,h6_1,yy6⟩:=eu {s with st:=true} c hs az is bs zbf A7 A7;refine Aq yy6 ?_
   rcases bo b6 with rfl|rfl
   ·replace h6_1:=h6_1 rfl
    refine tw ?_
    rcases AZ 0 (↑az.length) with hc8|hc8
    ·refine tw ?_;obtain⟨t9,e9_1,h9_2,yy9⟩:=Vm {s with st:=true} lo c hs az is bs zbf A7 A7 A7;refine Aq yy9 ?_
     rcases AX e9_1 0 with hc10|hc10
     ·refine tw ?_;rw[BL ..];refine tw ?_;exact hP _ ⟨t9,e9_1,[],[],[],clo,rfl⟩
     subst hc10;refine tw ?_;obtain⟨t11,e11_1,is'11_2,bs'11_3,h11_4,yy11⟩:=PT {s with st:=true} lo c hs az is bs zbf A7 A7 A7;refine Aq yy11 ?_
     rcases AL e11_1 0 with hc12|hc12
     ·subst hc12;refine tw ?_;obtain⟨t13,ns13_1,h13_2,yy13⟩:=Tf t11 c hs az is bs h11_4 A7 A7 A7;refine Aq yy13 ?_;exact hP _ ⟨t13,0,is'11_2,bs'11_3,ns13_1,clo,rfl⟩
     refine tw ?_;exact hP _ ⟨t11,e11_1,is'11_2,bs'11_3,[],clo,rfl⟩
    refine tw ?_;obtain⟨t14,e14_1,is'14_2,bs'14_3,h14_4,yy14⟩:=PT {s with st:=true} lo c hs az is bs zbf A7 A7 A7;refine Aq yy14 ?_
    rcases AL e14_1 0 with hc15|hc15
    ·subst hc15;refine tw ?_;exact hP _ ⟨t14,0,is'14_2,bs'14_3,[],clo,rfl⟩
    refine tw ?_;exact hP _ ⟨t14,e14_1,is'14_2,bs'14_3,[],clo,rfl⟩
   refine tw ?_;rw[BL ..];refine tw ?_;refine hP _ ⟨{s with st:=true},7,[],[],[],?_,rfl⟩;exact(Kp.st_ hi zav).up zaa
  rw[hc5];refine tw ?_;rw[BL ..];refine tw ?_;refine hP _ ⟨{s with st:=false},28,[],[],[],?_,rfl⟩;exact(Kp.st_ hi zav).up zaa
 subst hc4;refine tw ?_;obtain⟨b16,h16_1,yy16⟩:=eu s 1 hs az is bs hi A7 A7;refine Aq yy16 ?_
 rcases bo b16 with rfl|rfl
 ·replace h16_1:=h16_1 rfl
  refine tw ?_
  rcases AZ 0 (↑az.length) with hc18|hc18
  ·refine tw ?_;obtain⟨t19,e19_1,h19_2,yy19⟩:=Vm s lo 1 hs az is bs hi A7 A7 A7;refine Aq yy19 ?_
   rcases AX e19_1 0 with hc20|hc20
   ·refine tw ?_;rw[BL ..];refine tw ?_;exact hP _ ⟨t19,e19_1,[],[],[],clo,rfl⟩
   subst hc20;refine tw ?_;obtain⟨t21,e21_1,is'21_2,bs'21_3,h21_4,yy21⟩:=PT s lo 1 hs az is bs hi A7 A7 A7;refine Aq yy21 ?_
   rcases AL e21_1 0 with hc22|hc22
   ·subst hc22;refine tw ?_;obtain⟨t23,ns23_1,h23_2,yy23⟩:=Tf t21 1 hs az is bs h21_4 A7 A7 A7;refine Aq yy23 ?_;exact hP _ ⟨t23,0,is'21_2,bs'21_3,ns23_1,clo,rfl⟩
   refine tw ?_;exact hP _ ⟨t21,e21_1,is'21_2,bs'21_3,[],clo,rfl⟩
  refine tw ?_;obtain⟨t24,e24_1,is'24_2,bs'24_3,h24_4,yy24⟩:=PT s lo 1 hs az is bs hi A7 A7 A7;refine Aq yy24 ?_
  rcases AL e24_1 0 with hc25|hc25
  ·subst hc25;refine tw ?_;exact hP _ ⟨t24,0,is'24_2,bs'24_3,[],clo,rfl⟩
  refine tw ?_;exact hP _ ⟨t24,e24_1,is'24_2,bs'24_3,[],clo,rfl⟩
 refine tw ?_;rw[BL ..];refine tw ?_;exact hP _ ⟨s,7,[],[],[],clo,rfl⟩
end
section
attribute [local irreducible] Cc Dn D7 DU DD BA Dp F7 FY FD Ez Ci CS DK DV and' DW DL C9 BR Bh CB CG BG BI Aw BC Dq Fh Dt ER DX Bl CE Bv Bz Bi Az Bg BK Bj BO Du Bc DF BZ BM Cj Di fits Dv Dk Ac Am BH
attribute [local irreducible] Dw CJ Be nameB EL Eh Ar ET E8 Ea ES F8 BV GX Eg Fv FU EE Fa Ej Ho I5 En
theorem A41{s:MS}(hi:Kp a k s)(hk:k<=900):Kp a (k+1) {s with re:=s.re+1,rs:=0,rb:=Nk s.ac,ru:=0,st:=true,sp:=false,vc:=s.ck,sf:=s.od,od:=false,sb:=[],su:=0,dr:=0,ss:=List.replicate 3 ses0,ob:=List.replicate 3 obj0,rl:=[],wl:=[]}:=by
 have hn:=aB (a:=a) (by have:=hi.ac;omega)
 have h0:0<=k+1:=zau
 have hr:0<=s.re+1/\s.re+1<=k+1:=by have:=hi.re;omega
 exact {hi.up (k':=k+1) zau with re:=hr,rs:=⟨Int.le_refl _,h0⟩,rb:=(by rw[hi.ac.1];exact hn.1),st:=fun _ h=>(by show Nk s.ac≠[];rw[hi.ac.1];exact hn.2 h),ru:=⟨Int.le_refl _,h0⟩,vc:=hi.ck,sb:=PO a,su:=⟨Int.le_refl _,h0⟩,dr:=⟨Int.le_refl _,h0⟩,ssl:=Ns.1,ssm:=Ns.2,obl:=Nu.1,obm:=Nu.2,rl:=h0,wl:=h0}
theorem qB(hi:Kp a k s)(hk:k<=880):Ah E0 (.call 91 [av s] []) fun r=>∃ t:MS,(Kp a (k+1) t/\t.st=true)/\r=some (.ret (av t) []):=by
 have hkk:=hi.kk
 have hre:=hi.re
 have hac:=hi.ac
 refine CU fun P hP=>tw ?_
 rcases bo (s.st) with hc0|hc0
 ·rw[hc0];refine tw ?_;refine hP _ ⟨{s with st:=true},?_,rfl⟩;exact⟨(Kp.st_ hi zav).up zaa,rfl⟩
 rw[hc0];refine tw ?_;rw[NM ..];refine tw ?_;rw[Qm _ _ _ _ _ _ _ _ _ _ _ _ _ _ _ _ _ _ _ _ _ _ _ _ _ _ _ _ _ _ ⟨rfl,rfl⟩ zaa zaa];refine tw ?_;refine hP _ ⟨{s with re:=s.re+1,rs:=0,od:=false,sb:=[],su:=0,st:=true,sp:=false,rb:=Nk s.ac,ru:=0,vc:=s.ck,sf:=s.od,dr:=0,ss:=List.replicate 3 ses0,ob:=List.replicate 3 obj0,rl:=[],wl:=[]},?_,rfl⟩;exact⟨A41 hi zaa,rfl⟩
theorem A42(n m:Int)(b:List UInt8)(hi:Kp a k s)(hk:k<=870)(hc:0<=c/\c<=255)(hn:0<=n/\n<=255)(hm:0<=m/\m<=255)(hb:b.length<=1000):Ah E0 (.call 90 [av s,.i c,.i n,.i m,.sl .u8 b] []) fun r=>∃ t:MS,Kp a (k+3) t/\r=some (.ret (av t) []):=by
 have hkk:=hi.kk
 refine CU fun P hP=>tw ?_
 obtain⟨t0,⟨h0_1,h0_2⟩,yy0⟩:=qB s hi A7;refine Aq yy0 ?_
 rcases AL (c%16) 15 with hc1|hc1
 ·refine tw ?_
  obtain(⟨t2,⟨h2_1,h2_2⟩,yy2⟩|⟨t2_3,e2_4,h2_5,yy2⟩):=uP t0 (1+n) h0_1 A7
  ·refine Aq yy2 ?_;exact hP _ ⟨t2,clo,rfl⟩
  refine Aq yy2 ?_;exact hP _ ⟨t0,clo,rfl⟩
 rw[AA zaa]
 conv=>arg 1;whnf
 try dsimp -iota -beta -eta -zeta only
 rw[AA zaa]
 conv=>arg 1;whnf
 try dsimp -iota -beta -eta -zeta only
 rw[AA zaa]
 conv=>arg 1;whnf
 rw[Dy zah]
 conv=>arg 1;whnf
 try dsimp -iota -beta -eta -zeta only
 rw[FC zaa];rw[Gf zaa];rw[Au zaa];rw[Gf zaa];rw[Au zaa];rw[AQ];obtain⟨c3,hs3_1,az3_2,is3_3,bs3_4,h3_5,yy3⟩:=zG t0 (c/16*7+c) (7*n+m) m (BM [ER n] b) h0_1 A7;refine Aq yy3 ?_;obtain⟨t4,e4_1,is'4_2,bs'4_3,ns'4_4,h4_5,yy4⟩:=wO t0 (m%5) c3 hs3_1 az3_2 is3_3 bs3_4 h0_1 A7 A7;refine Aq yy4 ?_;exact hP _ ⟨t4,clo,rfl⟩
theorem wP(x:UInt8):0<=Fh x/\Fh x<=255:=by
 have:=x.toNat_lt
 rw[xI,u8i0]
 omega
theorem aZ(cs b:List UInt8){a:Int}(hb:b.length<=1000):∀(q:Nat) (i k:Int) (s:MS),0<=i->i+3*q=30->Kp a k s->k+3*q<=150->Ah E0 (.loop 28 0 0 2 [(1,.sl .u8 cs),(2,.sl .u8 b),(3,.i 10),(4,.pa 0 0),(8,.pa 1 0),(9,.i i)] [(0,some (.var (cv s))),(1,some (.var [.nil,.nil,.nil,.i 0,.i 0,.i 0,.i 0,.b false,.nil,.i 0,.i 0,.nil,.i 0,.i 0,.i 0,.i 0,.i 0,.i 0,.nil,.b false,.b false,.nil,.i 0,.i 0,.b false,.i 0,.nil,.nil,.nil,.nil]))]) fun r=>∃ t:MS,Kp a 190 t/\r=some (.fin (.exit 0) 2 [(4,.pa 0 0),(8,.pa 1 0)] [(0,some (.var (cv t))),(1,some (.var [.nil,.nil,.nil,.i 0,.i 0,.i 0,.i 0,.b false,.nil,.i 0,.i 0,.nil,.i 0,.i 0,.i 0,.i 0,.i 0,.i 0,.nil,.b false,.b false,.nil,.i 0,.i 0,.b false,.i 0,.nil,.nil,.nil,.nil]))])
 | 0,i,k,s,h0,hj,hi,hk=>by
  refine CU fun P hP=>?_
  refine tw ?_
  rcases AZ (i+2) (↑cs.length) with hc0|hc0
  ·refine tw ?_;exact hP _ ⟨s,clo,rfl⟩
  refine tw ?_;exact hP _ ⟨s,clo,rfl⟩
 | q+1,i,k,s,h0,hj,hi,hk=>by
  have hkk:=hi.kk
  have ih:=fun s (h:Kp a (k+3) s)=>aZ cs b hb q (i+3) (k+3) s zaa zaa h zaa
  refine CU fun P hP=>?_
  refine tw ?_
  rcases AZ (i+2) (↑cs.length) with hc0|hc0
  ·refine tw ?_;obtain⟨x1,m1,g1⟩:=EY (l:=cs) (i:=i) zaa;rw[g1];refine tw ?_;obtain⟨x2,m2,g2⟩:=EY (l:=cs) (i:=i+1) zaa;rw[g2];refine tw ?_;obtain⟨x3,m3,g3⟩:=EY (l:=cs) (i:=i+2) zaa;rw[g3];refine tw ?_;obtain⟨t4,h4_1,yy4⟩:=A42 s (Fh x1) (Fh x2) (Fh x3) b hi A7 (by(exact wP _)) (by(exact wP _)) (by(exact wP _)) A7;refine Aq yy4 ?_;exact hP _ (ih _ zav)
  refine tw ?_;exact hP _ ⟨s,clo,rfl⟩
theorem A43(cs b:List UInt8)(hi:Kp a k s)(hk:k<=100)(hb:b.length<=1000):Ah E0 (.call 28 [av s,.sl .u8 cs,.sl .u8 b,.i 10] []) fun r=>∃ t:MS,(Kp a 200 t/\t.st=true)/\r=some (.ret (av t) []):=by
 refine CU fun P hP=>tw ?_
 obtain⟨t0,h0,yy0⟩:=aZ cs b hb 10 0 k s zaa zaa hi zaa;rw[yy0];refine tw ?_;obtain⟨t0,⟨h0_1,h0_2⟩,yy0⟩:=qB t0 h0 A7;refine Aq yy0 ?_;exact hP _ ⟨t0,clo,rfl⟩
theorem A0w:Kp (n%4) 1 ⟨PH (CJ [UInt8.ofNat 7]),[[],[],[],[]],Dw (CJ [UInt8.ofNat 7]) mf [] 32,n%4,0+1,0,0,false,[],0,0,[],0,5,100,0,0,1000,[],true,false,Nk (n%4),0,0,true,0,List.replicate 3 ses0,List.replicate 3 obj0,[],[]⟩:=by
 have hn:=aB (a:=n%4) zaa
 have hs:∀ x∈PH (CJ [UInt8.ofNat 7]),x.length=32:=by
  intro l hl
  simp only[PH,List.mem_cons,List.not_mem_nil,or_false] at hl
  rcases hl with rfl|rfl|rfl<;>(rw[Ff zaa];rfl)
 exact {sdl:=rfl,sdm:=hs,aul:=rfl,aum:=zam,en:=(by show(Dw (CJ [UInt8.ofNat 7]) mf [] 32).length=32;rw[Ff zaa];rfl),ac:=⟨rfl,by omega⟩,kk:=(show(0:Int)<=1/\(1:Int)<=1000 by decide),re:=(show(0:Int)<=0+1/\(0+1:Int)<=1 by decide),rs:=(show(0:Int)<=0/\(0:Int)<=1 by decide),ck:=(show(0:Int)<=0/\(0:Int)<=1099511627776 by decide),sb:=PO _,su:=(show(0:Int)<=0/\(0:Int)<=1 by decide),ixl:=zam,ixm:=zam,lk:=(show O7 0 5 100 0 0 1000 from by unfold O7;decide),ksl:=zam,ksm:=zam,rb:=hn.1,st:=fun _ h=>hn.2 h,ru:=(show(0:Int)<=0/\(0:Int)<=1 by decide),vc:=(show(0:Int)<=0/\(0:Int)<=1099511627776 by decide),dr:=(show(0:Int)<=0/\(0:Int)<=1 by decide),ssl:=Ns.1,ssm:=Ns.2,obl:=Nu.1,obm:=Nu.2,rl:=zam,wl:=zam}
theorem XB(cs b:List UInt8)(hb:b.length<=1000):Ah E0 (.call 7 [.i n,.sl .u8 cs,.sl .u8 b] []) fun r=>∃ t:MS,(Kp (n%4) 200 t/\t.st=true)/\r=some (.ret (av t) []):=by
 have e3:BA .and n 3=n%4:=Jp 2 zal n
 refine CU fun P hP=>tw ?_
 rw[IK _]
 conv=>arg 1;whnf
 try dsimp -iota -beta -eta -zeta only
 rw[e3];refine tw ?_;rw[dn _ _ (AP _) zaa];refine tw ?_;rw[NM ..];refine tw ?_;rw[Qm _ _ _ _ _ _ _ _ _ _ _ _ _ _ _ _ _ _ _ _ _ _ _ _ _ _ _ _ _ _ ⟨rfl,rfl⟩ zaa zaa];refine tw ?_;obtain⟨t0,⟨h0,h0'⟩,yy0⟩:=A43 _ cs b (A0w n) zal hb;rw[yy0];refine tw ?_;exact hP _ ⟨t0,clo,rfl⟩
end
end Go.Proofs.YtnhgnfdbdflhcaaGreatDoor
