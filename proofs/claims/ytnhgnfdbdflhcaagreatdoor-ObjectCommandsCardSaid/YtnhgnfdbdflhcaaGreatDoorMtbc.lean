/-
  Own texts, laid together for this claim: contracts of functions of the program and its references, used by the statements of this seat.
-/
import Derived.Test.YtnhgnfdbdflhcaaGreatDoorMtab
import Derived.Test.YtnhgnfdbdflhcaaGreatDoorMtad
import Derived.Test.YtnhgnfdbdflhcaaGreatDoorMtae
import Derived.Test.YtnhgnfdbdflhcaaGreatDoorMtaf
import Derived.Test.YtnhgnfdbdflhcaaGreatDoorMtah
import Derived.Test.YtnhgnfdbdflhcaaGreatDoorMtaj
import Derived.Test.YtnhgnfdbdflhcaaGreatDoorMtao
import Derived.Test.YtnhgnfdbdflhcaaGreatDoorMtaw
import Derived.Test.YtnhgnfdbdflhcaaGreatDoorMtax
import Derived.Test.YtnhgnfdbdflhcaaGreatDoorMtay
import Derived.Test.YtnhgnfdbdflhcaaGreatDoorMtaz
set_option linter.all false
set_option maxHeartbeats 40000000
set_option maxRecDepth 100000
namespace Go.Proofs.YtnhgnfdbdflhcaaGreatDoor
open Go Go.Ax Go.Eng
variable {k:Int}(a:Int)(s:MS)(u:Int)(rb:List (List (List UInt8)))(s0 lo i:Int)(d:List UInt8)(s1:Int)(ds:List (List UInt8))
section
attribute [local irreducible] Cc Dn D7 DU DD BA Dp F7 FY FD Ez Ci CS DK DV and' DW DL C9 BR Bh CB CG BG BI Aw BC Dq Fh Dt ER DX Bl CE Bv Bz Bi Az Bg BK Bj BO Du Bc DF BZ BM Cj Di fits Dv Dk Ac Am BH
attribute [local irreducible] Dw CJ Be nameB EL Eh Ar
theorem A3p(n:Nat):Fg n (VF n):=by
 refine⟨Ap _ _,fun x hx=>?_⟩
 simp only[VF,OV,List.mem_map] at hx
 obtain⟨i,_,rfl⟩:=hx
 simp
theorem aB{a:Int}(h:0<=a/\a<=3):OW a (Nk a)/\(a/2%2=1->Nk a≠[]):=by
 have hb:=A3p
 unfold Nk OW
 rcases(show a=0\/a=1\/a=2\/a=3 by omega) with rfl|rfl|rfl|rfl
 ·exact⟨.inl rfl,by decide⟩
 ·exact⟨.inr ⟨_,_,rfl,.inr (hb 20),.inl rfl,fun h=>absurd h zal⟩,fun h=>absurd h zal⟩
 ·exact⟨.inr ⟨_,_,rfl,.inl rfl,.inr (hb 32),fun _=>hb 32⟩,fun _=>by simp⟩
 ·exact⟨.inr ⟨_,_,rfl,.inr (hb 20),.inr (hb 32),fun _=>hb 32⟩,fun _=>by simp⟩
theorem rg_of{a:Int}{b0 b1 c0 c1:List (List UInt8)}(h2:a/2%2=1->Fg 32 b1)(k0:b0=[]/\c0=[]\/Fg 20 c0)(k1:b1=[]/\c1=[]\/Fg 32 c1):OW a [c0,c1]:=by
 refine .inr ⟨c0,c1,rfl,?_,?_,fun ha=>?_⟩
 ·rcases k0 with⟨_,h⟩|h
  ·exact .inl h
  ·exact .inr h
 ·rcases k1 with⟨_,h⟩|h
  ·exact .inl h
  ·exact .inr h
 ·rcases k1 with⟨h,_⟩|h
  ·have:=(h2 ha).1;rw[h] at this;simp at this
  ·exact h
theorem PO:OW a []:=.inl rfl
theorem jJ(hd:ds.length=2)(hdm:∀ x∈ds,x.length<=10000):Ah E0 (.loop 286 0 0 2 [(2,AV.i i),(3,AV.sl Ty.u8.sl ds),(4,AV.pa 0 0),(8,AV.pa 1 0),(10,AV.i 0)] [(0,some (Rs.var [AV.sl Ty.u8.sl.sl [],AV.i u])),(1,some (Rs.var [AV.nil,AV.i 0]))]) fun r=>r=some (.fin .ret 2 [(2,AV.i i),(3,AV.sl Ty.u8.sl ds),(4,AV.pa 0 0),(8,AV.pa 1 0),(9,AV.i 27)] [(0,some (Rs.var [AV.sl Ty.u8.sl.sl [],AV.i u])),(1,some (Rs.var [AV.nil,AV.i 0]))])\/r=some (.fin (.exit 0) 2 [(2,AV.i i),(3,AV.sl Ty.u8.sl ds),(4,AV.pa 0 0),(8,AV.pa 1 0)] [(0,some (Rs.var [AV.sl Ty.u8.sl.sl [],AV.i u])),(1,some (Rs.var [AV.nil,AV.i 0]))]):=by
 refine CU fun P hP=>?_
 refine tw ?_;rw[G5 _ _ A7];refine tw ?_;obtain⟨x0,f0,g0⟩:=Dc hdm (i:=0) A7;rw[g0];refine tw ?_
 rcases AZ 0 (↑x0.length) with hc1|hc1
 ·refine tw ?_;exact hP _ (Or.inl rfl)
 refine tw ?_;refine tw ?_;rw[G5 _ _ A7];refine tw ?_;obtain⟨x2,f2,g2⟩:=Dc hdm (i:=1) A7;rw[g2];refine tw ?_
 rcases AZ 0 (↑x2.length) with hc3|hc3
 ·refine tw ?_;exact hP _ (Or.inl rfl)
 refine tw ?_;refine tw ?_;exact hP _ (Or.inr rfl)
theorem jK(hd:ds.length=2)(hdm:∀ x∈ds,x.length<=10000):Ah E0 (.loop 286 1 0 2 [(2,AV.i i),(3,AV.sl Ty.u8.sl ds),(4,AV.pa 0 0),(8,AV.pa 1 0),(11,AV.i 0)] [(0,some (Rs.var [AV.sl Ty.u8.sl.sl [],AV.i u])),(1,some (Rs.var [AV.nil,AV.i 0]))]) fun r=>r=some (.fin (.exit 2) 2 [(2,AV.i i),(3,AV.sl Ty.u8.sl ds),(4,AV.pa 0 0),(8,AV.pa 1 0)] [(0,some (Rs.var [AV.sl Ty.u8.sl.sl [],AV.i u])),(1,some (Rs.var [AV.nil,AV.i 0]))]):=by
 refine CU fun P hP=>?_
 refine tw ?_;rw[G5 _ _ A7];refine tw ?_;refine tw ?_;rw[G5 _ _ A7];refine tw ?_;refine tw ?_;exact hP _ rfl
theorem jL(hd:ds.length=2)(hdm:∀ x∈ds,x.length<=10000):Ah E0 (.loop 286 2 0 3 [(2,AV.i i),(3,AV.sl Ty.u8.sl ds),(4,AV.pa 0 0),(8,AV.pa 1 0),(12,.pa 2 0),(13,AV.i 0)] [(0,some (Rs.var [AV.sl Ty.u8.sl.sl [],AV.i u])),(1,some (Rs.var [AV.nil,AV.i 0])),(2,some (.var [.nil,.i u]))]) fun r=>r=some (.fin (.exit 4) 2 [(8,.pa 0 0),(12,.pa 1 0)] [(0,some (.var [.nil,.i 0])),(1,some (.var [.nil,.i u]))]):=by
 refine CU fun P hP=>?_
 refine tw ?_;rw[G5 _ _ A7];refine tw ?_;refine tw ?_;rw[G5 _ _ A7];refine tw ?_;refine tw ?_;exact hP _ rfl
theorem oI:Ah E0 (.loop 287 0 0 2 [(1,AV.sl Ty.u8 d),(2,AV.pa 0 0),(5,AV.nm 1),(6,AV.i 0)] [(0,some (Rs.var [AV.sl Ty.u8.sl.sl [],AV.i u])),(1,some (Rs.row 22 Ty.u8.sl (BZ 2 [])))]) fun r=>r=some (.fin (.exit 0) 0 [(5,.sl (.sl .u8) (BZ 2 []))] []):=by
 refine CU fun P hP=>?_
 refine tw ?_;rw[G5 _ _ A7];refine tw ?_;refine tw ?_;rw[G5 _ _ A7];refine tw ?_;refine tw ?_;exact hP _ rfl
theorem oJ:Ah E0 (.loop 289 0 0 3 [(2,AV.i i),(3,AV.pa 0 0),(6,AV.pa 1 0),(9,.pa 2 0),(10,AV.i 0)] [(0,some (Rs.var [AV.sl Ty.u8.sl.sl [],AV.i u])),(1,some (Rs.var [AV.nil,AV.i 0])),(2,some (.var [.nil,.i u]))]) fun r=>r=some (.fin (.exit 0) 2 [(6,.pa 0 0),(9,.pa 1 0)] [(0,some (.var [.nil,.i 0])),(1,some (.var [.nil,.i u]))]):=by
 refine CU fun P hP=>?_
 refine tw ?_;rw[G5 _ _ A7];refine tw ?_;refine tw ?_;rw[G5 _ _ A7];refine tw ?_;refine tw ?_;exact hP _ rfl
theorem jM:Ah E0 (.loop 54 0 0 2 [(2,AV.pa 0 0),(3,AV.pa 1 0),(6,AV.i 0)] [(0,some (Rs.var [AV.sl Ty.u8.sl.sl [],AV.i u])),(1,some (Rs.var [AV.i s0,AV.i s1]))]) fun r=>(r=some (.fin .ret 2 [(2,.pa 0 0),(3,.pa 1 0),(4,.nil),(5,.i 1)] [(0,some (Rs.var [AV.sl Ty.u8.sl.sl [],AV.i u])),(1,some (Rs.var [AV.i s0,AV.i s1]))]))\/r=some (.fin (.exit 0) 2 [(2,.pa 0 0),(3,.pa 1 0)] [(0,some (Rs.var [AV.sl Ty.u8.sl.sl [],AV.i u])),(1,some (Rs.var [AV.i s0,AV.i s1]))]):=by
 refine CU fun P hP=>?_
 refine tw ?_
 rcases AZ s0 0 with hc0|hc0
 ·refine tw ?_;exact hP _ (Or.inl rfl)
 refine tw ?_
 rcases AZ 65535 s0 with hc1|hc1
 ·refine tw ?_;exact hP _ (Or.inl rfl)
 refine tw ?_;refine tw ?_
 rcases AZ s1 0 with hc2|hc2
 ·refine tw ?_;exact hP _ (Or.inl rfl)
 refine tw ?_
 rcases AZ 65535 s1 with hc3|hc3
 ·refine tw ?_;exact hP _ (Or.inl rfl)
 refine tw ?_;refine tw ?_;exact hP _ (Or.inr rfl)
theorem Qn(u s0 s1 a:Int)(ha:a=0/\s0=0\/a=1/\s1=0):∀(n j:Nat),j+n=16->Y E0 (.loop 54 2 0 3 [(2,AV.pa 0 0),(3,AV.pa 1 0),(7,AV.nm 2),(8,AV.i a),(9,AV.i (j:Int))] [(0,some (Rs.var [AV.sl Ty.u8.sl.sl [],AV.i u])),(1,some (Rs.var [AV.i s0,AV.i s1])),(2,some (Rs.row 5 Ty.u8 []))])=some (.fin (.exit 4) 3 [(2,AV.pa 0 0),(3,AV.pa 1 0),(7,AV.nm 2),(8,AV.i a)] [(0,some (Rs.var [AV.sl Ty.u8.sl.sl [],AV.i u])),(1,some (Rs.var [AV.i s0,AV.i s1])),(2,some (Rs.row 5 Ty.u8 []))])
 | 0,j,hj=>by
  obtain rfl:j=16:=zaa
  exact tq rfl
 | n+1,j,hj=>by
  have ih:=Qn u s0 s1 a ha n (j+1) zaa
  rw[show((j+1:Nat):Int)=(j:Int)+1 from by omega] at ih
  have hb:=Zz j zaa
  rcases ha with⟨rfl,rfl⟩|⟨rfl,rfl⟩
  ·rw[Ad];conv=>lhs;whnf
   rw[EZ zaa]
   conv=>lhs;whnf
   try dsimp -iota -beta -eta -zeta only
   rw[Gm zaa]
   conv=>lhs;whnf
   rw[EZ zaa]
   conv=>lhs;whnf
   rw[AA (by rw[hb];decide)]
   refine tq ?_;exact ih
  ·rw[Ad];conv=>lhs;whnf
   rw[EZ zaa]
   conv=>lhs;whnf
   try dsimp -iota -beta -eta -zeta only
   rw[Gm zaa]
   conv=>lhs;whnf
   rw[EZ zaa]
   conv=>lhs;whnf
   rw[AA (by rw[hb];decide)]
   refine tq ?_;exact ih
theorem jO:Ah E0 (.loop 54 1 0 3 [(2,AV.pa 0 0),(3,AV.pa 1 0),(7,AV.nm 2),(8,AV.i 0)] [(0,some (Rs.var [AV.sl Ty.u8.sl.sl [],AV.i u])),(1,some (Rs.var [AV.i s0,AV.i s1])),(2,some (Rs.row 5 Ty.u8 []))]) fun r=>(∃ x:List UInt8,r=some (.fin .ret 1 [(3,AV.pa 0 0),(4,AV.nil),(5,AV.i 27),(7,AV.sl Ty.u8 x)] [(0,some (Rs.var [AV.i s0,AV.i s1]))]))\/r=some (.fin (.exit 2) 1 [(3,AV.pa 0 0),(7,AV.sl Ty.u8 [])] [(0,some (Rs.var [AV.i s0,AV.i s1]))]):=by
 have e0:=fun h:s0=0=>Qn u s0 s1 0 (.inl ⟨rfl,h⟩) 16 0 zaa
 have e1:=fun h:s1=0=>Qn u s0 s1 1 (.inr ⟨rfl,h⟩) 16 0 zaa
 simp only[show((0:Nat):Int)=0 from rfl] at e0 e1
 refine CU fun P hP=>?_
 refine tw ?_
 rcases AX s0 0 with hc0|hc0
 ·refine tw ?_;rw[G5 _ _ A7];refine tw ?_;exact hP _ (Or.inl ⟨[],rfl⟩)
 subst hc0
 replace e0:=e0 rfl
 refine tw ?_;rw[e0];refine tw ?_;refine tw ?_
 rcases AX s1 0 with hc1|hc1
 ·refine tw ?_;rw[G5 _ _ A7];refine tw ?_;exact hP _ (Or.inl ⟨[],rfl⟩)
 subst hc1
 replace e1:=e1 rfl
 refine tw ?_;rw[e1];refine tw ?_;refine tw ?_;exact hP _ (Or.inr rfl)
theorem A0c(hd:ds.length<=100)(hdm:∀ x∈ds,x.length<=10000):Ah E0 (.call 286 [PM [] u,.i lo,.i i,.sl (.sl .u8) ds] []) fun r=>r=some (.ret (.tup [PM [] (Cc u 1),.i 0]) [])\/∃ e:Int,(e≠0)/\r=some (.ret (.tup [PM [] 0,.i e]) []):=by
 refine CU fun P hP=>tw ?_
 rcases AZ lo 0 with hc0|hc0
 ·refine tw ?_;exact hP _ (Or.inr ⟨1,A7,rfl⟩)
 refine tw ?_
 rcases AZ 4 lo with hc1|hc1
 ·refine tw ?_;exact hP _ (Or.inr ⟨1,A7,rfl⟩)
 refine tw ?_
 rcases AZ i 0 with hc2|hc2
 ·refine tw ?_;exact hP _ (Or.inr ⟨1,A7,rfl⟩)
 refine tw ?_
 rcases DJ 16 i with hc3|hc3
 ·refine tw ?_;exact hP _ (Or.inr ⟨1,A7,rfl⟩)
 refine tw ?_
 rcases AX (↑ds.length) 2 with hc4|hc4
 ·refine tw ?_;exact hP _ (Or.inr ⟨1,A7,rfl⟩)
 refine tw ?_;obtain⟨x5,⟨h5_1,h5_2⟩,yy5⟩:=PN i false;refine Aq yy5 ?_
 rcases AZ lo x5 with hc6|hc6
 ·refine tw ?_;exact hP _ (Or.inr ⟨13,A7,rfl⟩)
 refine tw ?_
 obtain(yy7|yy7):=jJ u i ds A7 A7
 ·refine Aq yy7 ?_;exact hP _ (Or.inr ⟨27,A7,rfl⟩)
 refine Aq yy7 ?_
 obtain yy8:=jK u i ds A7 A7
 refine Aq yy8 ?_;rw[Zx]
 conv=>arg 1;whnf
 rw[Ad]
 conv=>arg 1;whnf
 try dsimp -iota -beta -eta -zeta only
 rw[Ee]
 obtain yy9:=jL u i ds A7 A7
 refine Aq yy9 ?_;exact hP _ (Or.inl rfl)
theorem oK(u lo i:Int)(ds:List (List UInt8))(h:OW a rb)(hd:ds.length<=100)(hdm:∀ x∈ds,x.length<=10000):Ah E0 (.call 286 [PM rb u,.i lo,.i i,.sl (.sl .u8) ds] []) fun r=>(∃ c:List (List (List UInt8)),(OW a c/\(rb≠[]->c≠[]))/\r=some (.ret (.tup [PM c (Cc u 1),.i 0]) []))\/∃ e:Int,(e≠0)/\r=some (.ret (.tup [PM [] 0,.i e]) []):=by
 rcases h with rfl|⟨b0,b1,rfl,h0,h1,h2⟩
 ·rcases A0c u lo i ds hd hdm with e|e
  ·exact .inl ⟨[],⟨PO a,id⟩,e⟩
  ·exact .inr e
 ·rcases nZ b0 b1 u lo i ds h0 h1 hd hdm with⟨c0,c1,⟨k0,k1⟩,e⟩|e
  ·exact .inl ⟨[c0,c1],⟨rg_of h2 k0 k1,fun _=>by simp⟩,e⟩
  ·exact .inr e
theorem uJ(hd:d.length<=10000):Ah E0 (.call 287 [PM [] u,.sl .u8 d] []) fun r=>∃ l:List (List UInt8),(Xw l)/\r=some (.ret (.sl (.sl .u8) l) []):=by
 refine CU fun P hP=>tw ?_
 obtain yy0:=oI u d
 refine Aq yy0 ?_;refine hP _ ⟨BZ 2 [],?_,rfl⟩;exact dg0
theorem eF(u:Int)(d:List UInt8)(h:OW a rb)(hd:d.length<=10000):Ah E0 (.call 287 [PM rb u,.sl .u8 d] []) fun r=>∃ l:List (List UInt8),(Xw l)/\r=some (.ret (.sl (.sl .u8) l) []):=by
 rcases h with rfl|⟨b0,b1,rfl,h0,h1,h2⟩
 ·exact uJ u d hd
 ·exact A0a b0 b1 u d hd
theorem uK(u lo i:Int)(d:List UInt8)(h:OW a rb)(hd:d.length<=10000):Ah E0 (.call 288 [PM rb u,.i lo,.i i,.sl .u8 d] []) fun r=>(∃ c:List (List (List UInt8)),(OW a c/\(rb≠[]->c≠[]))/\r=some (.ret (.tup [PM c (Cc u 1),.i 0]) []))\/∃ e:Int,(e≠0)/\r=some (.ret (.tup [PM [] 0,.i e]) []):=by
 have hq:∀ l:List (List UInt8),Xw l->l.length<=100/\∀ x∈l,x.length<=10000:=fun l hl=>⟨by have:=hl.1;omega,fun x hx=>by have:=hl.2 x hx;omega⟩
 refine CU fun P hP=>tw ?_
 rcases AZ 128 (↑d.length) with hc0|hc0
 ·refine tw ?_;exact hP _ (Or.inr ⟨4,A7,rfl⟩)
 refine tw ?_;obtain⟨l1,h1_1,yy1⟩:=eF a rb u d h A7;refine Aq yy1 ?_
 obtain(⟨c2,⟨h2_1,h2_2⟩,yy2⟩|⟨e2_3,h2_4,yy2⟩):=oK a rb u lo i l1 h (by(exact(hq _ zav).1)) (by(exact(hq _ zav).2))
 ·refine Aq yy2 ?_;exact hP _ (Or.inl ⟨c2,clo,rfl⟩)
 refine Aq yy2 ?_;exact hP _ (Or.inr ⟨e2_3,A7,rfl⟩)
theorem oL:Ah E0 (.call 289 [PM [] u,.i lo,.i i] []) fun r=>r=some (.ret (.tup [PM [] (Cc u 1),.i 0]) [])\/∃ e:Int,(e≠0)/\r=some (.ret (.tup [PM [] 0,.i e]) []):=by
 refine CU fun P hP=>tw ?_
 rcases AZ lo 0 with hc0|hc0
 ·refine tw ?_;exact hP _ (Or.inr ⟨1,A7,rfl⟩)
 refine tw ?_
 rcases AZ 4 lo with hc1|hc1
 ·refine tw ?_;exact hP _ (Or.inr ⟨1,A7,rfl⟩)
 refine tw ?_
 rcases AZ i 0 with hc2|hc2
 ·refine tw ?_;exact hP _ (Or.inr ⟨1,A7,rfl⟩)
 refine tw ?_
 rcases DJ 16 i with hc3|hc3
 ·refine tw ?_;exact hP _ (Or.inr ⟨1,A7,rfl⟩)
 refine tw ?_;obtain⟨x4,⟨h4_1,h4_2⟩,yy4⟩:=PN i true;refine Aq yy4 ?_
 rcases AZ x4 0 with hc5|hc5
 ·refine tw ?_;exact hP _ (Or.inr ⟨13,A7,rfl⟩)
 refine tw ?_
 rcases AZ lo x4 with hc6|hc6
 ·refine tw ?_;exact hP _ (Or.inr ⟨13,A7,rfl⟩)
 refine tw ?_;rw[Zx];refine tw ?_
 obtain yy7:=oJ u i
 refine Aq yy7 ?_;exact hP _ (Or.inl rfl)
theorem uM(u lo i:Int)(h:OW a rb):Ah E0 (.call 289 [PM rb u,.i lo,.i i] []) fun r=>(∃ c:List (List (List UInt8)),(OW a c/\(rb≠[]->c≠[]))/\r=some (.ret (.tup [PM c (Cc u 1),.i 0]) []))\/∃ e:Int,(e≠0)/\r=some (.ret (.tup [PM [] 0,.i e]) []):=by
 rcases h with rfl|⟨b0,b1,rfl,h0,h1,h2⟩
 ·rcases oL u lo i with e|e
  ·exact .inl ⟨[],⟨PO a,id⟩,e⟩
  ·exact .inr e
 ·rcases tZ b0 b1 u lo i h0 h1 with⟨c0,c1,⟨k0,k1⟩,e⟩|e
  ·exact .inl ⟨[c0,c1],⟨rg_of h2 k0 k1,fun _=>by simp⟩,e⟩
  ·exact .inr e
theorem uN(u k i:Int)(h:OW a rb):Ah E0 (.call 285 [PM rb u,.i k,.i i] []) fun r=>∃(l:List UInt8) (e:Int),r=some (.ret (.tup [.sl .u8 l,.i e]) []):=by
 rcases h with rfl|⟨b0,b1,rfl,h0,h1,h2⟩
 ·refine CU fun P hP=>tw ?_
  rcases AZ k 0 with hc0|hc0
  ·refine tw ?_;exact hP _ ⟨[],1,rfl⟩
  refine tw ?_
  rcases DJ 2 k with hc1|hc1
  ·refine tw ?_;exact hP _ ⟨[],1,rfl⟩
  refine tw ?_
  rcases AZ i 0 with hc2|hc2
  ·refine tw ?_;exact hP _ ⟨[],1,rfl⟩
  refine tw ?_
  rcases DJ 16 i with hc3|hc3
  ·refine tw ?_;exact hP _ ⟨[],1,rfl⟩
  refine tw ?_;rw[G5 _ _ A7];refine tw ?_;exact hP _ ⟨[],27,rfl⟩
 ·exact uA b0 b1 u k i h0 h1
theorem A0d:Ah E0 (.call 54 [PM [] u,.agg [.i s0,.i s1]] []) fun r=>∃(l:List UInt8) (e:Int),(l.length<=32)/\r=some (.ret (.tup [.sl .u8 l,.i e]) []):=by
 refine CU fun P hP=>tw ?_
 obtain(yy0|yy0):=jM u s0 s1
 ·refine Aq yy0 ?_;exact hP _ ⟨[],1,A7,rfl⟩
 refine Aq yy0 ?_
 obtain(⟨x1,yy1⟩|yy1):=jO u s0 s1
 ·refine Aq yy1 ?_;exact hP _ ⟨[],27,A7,rfl⟩
 refine Aq yy1 ?_;rw[CP _ _ _ A7];refine tw ?_;rw[CP _ _ _ A7];refine tw ?_;rw[F5 _ _ (by simp[Ae,AB]) zam];refine tw ?_;exact hP _ ⟨sha256 (Ar 5 [BV (BV [] 2 s0) 2 s1,[]]),0,A7,rfl⟩
theorem aC(u s0 s1:Int)(h:OW a rb):Ah E0 (.call 54 [PM rb u,.agg [.i s0,.i s1]] []) fun r=>∃(l:List UInt8) (e:Int),(l.length<=32)/\r=some (.ret (.tup [.sl .u8 l,.i e]) []):=by
 rcases h with rfl|⟨b0,b1,rfl,h0,h1,h2⟩
 ·exact A0d u s0 s1
 ·rcases o9 b0 b1 u s0 s1 h0 h1 with⟨e,_,he⟩|⟨_,he⟩
  ·exact⟨[],e,by simp,he⟩
  ·exact⟨_,0,by unfold X7;rw[A8];exact Nat.le_refl _,he⟩
theorem oM(u:Int)(h:OW a rb)(hn:rb≠[]):Ah E0 (.call 89 [PM rb u] []) fun r=>∃ c:List (List (List UInt8)),(OW a c/\c≠[])/\r=some (.ret (PM c u) []):=by
 rcases h with rfl|⟨b0,b1,rfl,h0,h1,h2⟩
 ·exact absurd rfl hn
 ·obtain⟨c0,c1,⟨k0,k1⟩,e⟩:=o8 b0 b1 u h0 h1;exact⟨[c0,c1],⟨rg_of h2 k0 k1,by simp⟩,e⟩
theorem Ns:(List.replicate 3 ses0).length=3/\∀ x∈List.replicate 3 ses0,Gz x:=by
 refine⟨by simp,fun x hx=>?_⟩
 rw[List.eq_of_mem_replicate hx];exact⟨by decide,by decide⟩
theorem Nu:(List.replicate 3 obj0).length=3/\∀ x∈List.replicate 3 obj0,FZ x:=by
 refine⟨by simp,fun x hx=>?_⟩
 rw[List.eq_of_mem_replicate hx];exact⟨by decide,by decide,by decide,by decide,by decide,by decide,by decide⟩
theorem oN(m:Int){a:Int}(hi:Kp a k s)(hk:k<=900):Ah E0 (.call 26 [av s,.i m] []) fun r=>(∃ t:MS,(Kp a (k+1) t/\t.st=true)/\r=some (.ret (.tup [av t,.i 0]) []))\/∃(t:MS) (e:Int),(e≠0)/\r=some (.ret (.tup [av t,.i e]) []):=by
 have hn:=aB hi.ac.2
 have h1:=hi.ac
 have h2:=hi.re
 have h3:=hi.rs
 have h4:=hi.kk
 have hs:=hi.sb
 have hs2:=hi.su
 refine CU fun P hP=>tw ?_
 rcases bo (s.st) with hc0|hc0
 ·rw[hc0];refine tw ?_;exact hP _ (Or.inr ⟨⟨[],[],[],0,0,0,0,false,[],0,0,[],0,0,0,0,0,0,[],false,false,[],0,0,false,0,[],[],[],[]⟩,28,A7,rfl⟩)
 rw[hc0];refine tw ?_
 rcases bo (s.sp) with hc1|hc1
 ·rw[hc1];refine tw ?_;exact hP _ (Or.inr ⟨⟨[],[],[],0,0,0,0,false,[],0,0,[],0,0,0,0,0,0,[],false,false,[],0,0,false,0,[],[],[],[]⟩,28,A7,rfl⟩)
 rw[hc1];refine tw ?_
 rcases AX m 0 with hc2|hc2
 ·refine tw ?_
  rcases AX m 1 with hc3|hc3
  ·refine tw ?_;exact hP _ (Or.inr ⟨⟨[],[],[],0,0,0,0,false,[],0,0,[],0,0,0,0,0,0,[],false,false,[],0,0,false,0,[],[],[],[]⟩,1,A7,rfl⟩)
  subst hc3;refine tw ?_
  rcases AL (↑s.sb.length) 0 with hc4|hc4
  ·refine tw ?_;exact hP _ (Or.inr ⟨⟨[],[],[],0,0,0,0,false,[],0,0,[],0,0,0,0,0,0,[],false,false,[],0,0,false,0,[],[],[],[]⟩,16,A7,rfl⟩)
  refine tv ?_;obtain⟨c5,⟨h5_1,h5_2⟩,yy5⟩:=oM a s.sb s.su hs (by(intro hz;simp_all))
  refine Aq yy5 ?_;refine hP _ (Or.inl ⟨{s with rs:=s.rs+1,od:=false,sb:=[],su:=0,st:=true,sp:=false,rb:=c5,ru:=s.su,vc:=s.ck,sf:=s.od},?_,rfl⟩);exact⟨{hi.up (k':=k+1) zaa with rs:=by show 0<=s.rs+1/\s.rs+1<=k+1;omega,sb:=PO a,su:=by show 0<=(0:Int)/\(0:Int)<=k+1;omega,rb:=by assumption,st:=fun _ _=>by assumption,ru:=by show 0<=s.su/\s.su<=k+1;omega,vc:=hi.ck},rfl⟩
 subst hc2;refine tv ?_;rw[ny _ A7];refine tw ?_;refine hP _ (Or.inl ⟨{s with re:=s.re+1,rs:=0,od:=false,sb:=[],su:=0,st:=true,sp:=false,rb:=Nk s.ac,ru:=0,vc:=s.ck,sf:=s.od},?_,rfl⟩);exact⟨{hi.up (k':=k+1) zaa with re:=by show 0<=s.re+1/\s.re+1<=k+1;omega,rs:=by show 0<=(0:Int)/\(0:Int)<=k+1;omega,sb:=PO a,su:=by show 0<=(0:Int)/\(0:Int)<=k+1;omega,rb:=by rw[h1.1];exact hn.1,st:=fun _ h=>by show Nk s.ac≠[];rw[h1.1];exact hn.2 h,ru:=by show 0<=(0:Int)/\(0:Int)<=k+1;omega,vc:=hi.ck},rfl⟩
theorem uO(m:Int){a:Int}(hi:Kp a k s):Ah E0 (.call 252 [av s,.i m] []) fun r=>(∃ t:MS,(Kp a k t)/\r=some (.ret (.tup [av t,.i 0]) []))\/∃(t:MS) (e:Int),(e≠0)/\r=some (.ret (.tup [av t,.i e]) []):=by
 refine CU fun P hP=>tw ?_
 rcases bo (s.st) with hc0|hc0
 ·rw[hc0];refine tw ?_
  rcases AX m 0 with hc1|hc1
  ·refine tw ?_
   rcases AX m 1 with hc2|hc2
   ·refine tw ?_;exact hP _ (Or.inr ⟨⟨[],[],[],0,0,0,0,false,[],0,0,[],0,0,0,0,0,0,[],false,false,[],0,0,false,0,[],[],[],[]⟩,1,A7,rfl⟩)
   subst hc2;refine tw ?_;rw[NM ..];refine tw ?_;refine hP _ (Or.inl ⟨{s with ck:=s.vc,od:=s.sf,sb:=s.rb,su:=s.ru,st:=false,sp:=true,rb:=[],ru:=0,vc:=0,sf:=false,dr:=0,ss:=List.replicate 3 ses0,ob:=List.replicate 3 obj0,rl:=[],wl:=[]},?_,rfl⟩);exact {hi with ck:=hi.vc,sb:=hi.rb,su:=hi.ru,rb:=PO a,st:=fun h=>za6,ru:=⟨Int.le_refl _,hi.kk.1⟩,vc:=(by show 0<=(0:Int)/\(0:Int)<=1099511627776;decide),dr:=⟨Int.le_refl _,hi.kk.1⟩,ssl:=Ns.1,ssm:=Ns.2,obl:=Nu.1,obm:=Nu.2,rl:=hi.kk.1,wl:=hi.kk.1}
  subst hc1;refine tw ?_;rw[NM ..];refine tw ?_;refine hP _ (Or.inl ⟨{s with ck:=s.vc,od:=s.sf,sb:=[],su:=0,st:=false,sp:=true,rb:=[],ru:=0,vc:=0,sf:=false,dr:=0,ss:=List.replicate 3 ses0,ob:=List.replicate 3 obj0,rl:=[],wl:=[]},?_,rfl⟩);exact {hi with ck:=hi.vc,sb:=PO a,su:=⟨Int.le_refl _,hi.kk.1⟩,rb:=PO a,st:=fun h=>za6,ru:=⟨Int.le_refl _,hi.kk.1⟩,vc:=(by show 0<=(0:Int)/\(0:Int)<=1099511627776;decide),dr:=⟨Int.le_refl _,hi.kk.1⟩,ssl:=Ns.1,ssm:=Ns.2,obl:=Nu.1,obm:=Nu.2,rl:=hi.kk.1,wl:=hi.kk.1}
 rw[hc0];refine tw ?_;exact hP _ (Or.inr ⟨⟨[],[],[],0,0,0,0,false,[],0,0,[],0,0,0,0,0,0,[],false,false,[],0,0,false,0,[],[],[],[]⟩,28,A7,rfl⟩)
theorem uP(n:Int){a:Int}(hi:Kp a k s)(hn : -1000000<=n/\n<=1000000):Ah E0 (.call 157 [av s,.i n] []) fun r=>(∃ t:MS,(Kp a k t/\t.st=s.st)/\r=some (.ret (.tup [av t,.i 0]) []))\/∃(t:MS) (e:Int),(e≠0)/\r=some (.ret (.tup [av t,.i e]) []):=by
 have hv:=hi.vc
 refine CU fun P hP=>tw ?_
 rcases bo (s.st) with hc0|hc0
 ·rw[hc0];refine tw ?_
  rcases AZ n 1 with hc1|hc1
  ·refine tw ?_;exact hP _ (Or.inr ⟨⟨[],[],[],0,0,0,0,false,[],0,0,[],0,0,0,0,0,0,[],false,false,[],0,0,false,0,[],[],[],[]⟩,1,A7,rfl⟩)
  refine tw ?_
  rcases AZ (1099511627776-n) s.vc with hc2|hc2
  ·refine tw ?_;exact hP _ (Or.inr ⟨⟨[],[],[],0,0,0,0,false,[],0,0,[],0,0,0,0,0,0,[],false,false,[],0,0,false,0,[],[],[],[]⟩,31,A7,rfl⟩)
  refine tw ?_
  rcases AX ((s.vc+n)/64) (s.vc/64) with hc3|hc3
  ·refine tw ?_;refine hP _ (Or.inl ⟨{s with ck:=s.vc+n,st:=true,vc:=s.vc+n,sf:=true},?_,rfl⟩);exact⟨{hi with ck:=zbt,st:=fun _=>hi.st hc0,vc:=zbt},hc0.symm⟩
  refine tw ?_;refine hP _ (Or.inl ⟨{s with st:=true,vc:=s.vc+n},?_,rfl⟩);exact⟨{hi with st:=fun _=>hi.st hc0,vc:=zbt},hc0.symm⟩
 rw[hc0];refine tw ?_;exact hP _ (Or.inr ⟨⟨[],[],[],0,0,0,0,false,[],0,0,[],0,0,0,0,0,0,[],false,false,[],0,0,false,0,[],[],[],[]⟩,28,A7,rfl⟩)
end
end Go.Proofs.YtnhgnfdbdflhcaaGreatDoor
