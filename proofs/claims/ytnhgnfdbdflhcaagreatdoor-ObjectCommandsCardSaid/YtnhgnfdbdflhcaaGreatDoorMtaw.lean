/-
  Own texts, laid together for this claim: contracts of functions of the program and its references, used by the statements of this seat.
-/
import Derived.Test.YtnhgnfdbdflhcaaGreatDoorMtab
import Derived.Test.YtnhgnfdbdflhcaaGreatDoorMtac
import Derived.Test.YtnhgnfdbdflhcaaGreatDoorMtad
import Derived.Test.YtnhgnfdbdflhcaaGreatDoorMtae
import Derived.Test.YtnhgnfdbdflhcaaGreatDoorMtaf
import Derived.Test.YtnhgnfdbdflhcaaGreatDoorMtah
import Derived.Test.YtnhgnfdbdflhcaaGreatDoorMtaj
set_option linter.all false
set_option maxHeartbeats 40000000
set_option maxRecDepth 100000
namespace Go.Proofs.YtnhgnfdbdflhcaaGreatDoor
open Go Go.Ax Go.Eng
variable {n:Nat}{b:List (List UInt8)}(b0 b1:List (List UInt8))(u i:Int)(ds:List (List UInt8))
section
attribute [local irreducible] Cc Dn D7 DU DD BA Dp F7 FY FD Ez Ci CS DK DV and' DW DL C9 BR Bh CB CG BG BI Aw BC Dq Fh Dt ER DX Bl CE Bv Bz Bi Az Bg BK Bj BO Du Bc DF BZ BM Cj Di fits Dv Dk Ac Am BH
attribute [local irreducible] Dw CJ Be nameB EL Eh Ar
theorem nT{α:Type}{l:List α}{j:Nat}(h:j<l.length):BM (l.take j) [l[j]]=l.take (j+1):=by rw[Ag,List.take_succ_eq_append_getElem h]
theorem Zu(b0 b1:List (List UInt8))(u:Int)(h0:b0.length<=16)(hm:∀ x∈b0,x.length<=1000):∀(n j:Nat),j+n=b0.length->Y E0 (.loop 156 1 0 4 [(1,AV.pa 0 0),(2,AV.pa 1 0),(3,AV.pa 2 0),(4,AV.i 0),(5,AV.nm 3),(6,AV.i (j:Int))] [(0,some (Rs.var [AV.sl Ty.u8.sl.sl [b0,b1],AV.i u])),(1,some (Rs.var [AV.nil,AV.i 0])),(2,some (Rs.var [AV.nil,AV.i u])),(3,some (Rs.row 22 Ty.u8.sl (b0.take j)))]) =
  some (.fin (.exit 2) 4 [(1,AV.pa 0 0),(2,AV.pa 1 0),(3,AV.pa 2 0),(4,AV.i 0),(5,AV.nm 3)] [(0,some (Rs.var [AV.sl Ty.u8.sl.sl [b0,b1],AV.i u])),(1,some (Rs.var [AV.nil,AV.i 0])),(2,some (Rs.var [AV.nil,AV.i u])),(3,some (Rs.row 22 Ty.u8.sl b0))])
 | 0,j,hj=>by
  obtain rfl:j=b0.length:=zaa
  rw[List.take_length]
  exact tq rfl
 | n+1,j,hj=>by
  have hg:BO b0 (j:Int)=some (b0[j]'zaa):=Fe zaa
  have hx:=hm _ (List.getElem_mem (show j<b0.length by omega))
  have ih:=Zu b0 b1 u h0 hm n (j+1) zaa
  rw[show((j+1:Nat):Int)=(j:Int)+1 from by omega,<-nT (show j<b0.length by omega)] at ih
  refine to ?_;rw[hg];refine tq ?_;rw[II _ A7];refine tq ?_;exact ih
theorem Zv(b0 b1:List (List UInt8))(u:Int)(h0:b1.length<=16)(hm:∀ x∈b1,x.length<=1000):∀(n j:Nat),j+n=b1.length->Y E0 (.loop 156 1 0 6 [(1,AV.pa 0 0),(2,AV.pa 1 0),(3,AV.pa 2 0),(4,AV.i 1),(5,AV.nm 3),(6,AV.i (j:Int))] [(0,some (Rs.var [AV.sl Ty.u8.sl.sl [b0,b1],AV.i u])),(1,some (Rs.var [AV.nil,AV.i 0])),(2,some (Rs.var [AV.nm 4,AV.i u])),(3,some (Rs.row 22 Ty.u8.sl (b1.take j))),(4,some (.rowA 24 1 1 [AV.nm 5])),(5,some (Rs.row 22 Ty.u8.sl b0))]) =
  some (.fin (.exit 2) 6 [(1,AV.pa 0 0),(2,AV.pa 1 0),(3,AV.pa 2 0),(4,AV.i 1),(5,AV.nm 3)] [(0,some (Rs.var [AV.sl Ty.u8.sl.sl [b0,b1],AV.i u])),(1,some (Rs.var [AV.nil,AV.i 0])),(2,some (Rs.var [AV.nm 4,AV.i u])),(3,some (Rs.row 22 Ty.u8.sl b1)),(4,some (.rowA 24 1 1 [AV.nm 5])),(5,some (Rs.row 22 Ty.u8.sl b0))])
 | 0,j,hj=>by
  obtain rfl:j=b1.length:=zaa
  rw[List.take_length]
  exact tq rfl
 | n+1,j,hj=>by
  have hg:BO b1 (j:Int)=some (b1[j]'zaa):=Fe zaa
  have hx:=hm _ (List.getElem_mem (show j<b1.length by omega))
  have ih:=Zv b0 b1 u h0 hm n (j+1) zaa
  rw[show((j+1:Nat):Int)=(j:Int)+1 from by omega,<-nT (show j<b1.length by omega)] at ih
  refine to ?_;rw[hg];refine tq ?_;rw[II _ A7];refine tq ?_;exact ih
theorem nU(h0:b0.length<=16)(h1:b1.length<=16)(m0:∀ x∈b0,x.length<=1000)(m1:∀ x∈b1,x.length<=1000):(Y E0 (.loop 156 0 0 3 [(1,AV.pa 0 0),(2,AV.pa 1 0),(3,AV.pa 2 0),(4,AV.i 0)] [(0,some (Rs.var [AV.sl Ty.u8.sl.sl [b0,b1],AV.i u])),(1,some (Rs.var [AV.nil,AV.i 0])),(2,some (Rs.var [AV.nil,AV.i u]))]))=some (.fin (.exit 0) 5 [(2,.pa 0 0),(3,.pa 1 0)] [(0,some (.var [.nil,.i 0])),(1,some (.var [.nm 2,.i u])),(2,some (.rowA 24 1 2 [.nm 3,.nm 4])),(3,some (.row 22 (.sl .u8) b0)),(4,some (.row 22 (.sl .u8) b1))]):=by
 have e:=Zu b0 b1 u h0 m0 b0.length 0 zaa
 rw[List.take_zero,show((0:Nat):Int)=0 from rfl] at e
 have e':=Zv b0 b1 u h1 m1 b1.length 0 zaa
 rw[List.take_zero,show((0:Nat):Int)=0 from rfl] at e'
 refine tq ?_;rw[e];refine tq ?_;refine tq ?_;rw[show(0:Int)+1=1 from rfl,e'];refine tq ?_;exact tq rfl
theorem Zw:Y E0 (.call 204 [.i 0] [])=some (.ret (.i 20) []):=by
 exact tq rfl
theorem PL:Y E0 (.call 204 [.i 1] [])=some (.ret (.i 32) []):=by
 exact tq rfl
theorem dh(l:List UInt8)(hl:l.length<=4294967296):Y E0 (.call 309 [.i 0,.sl .u8 l] [])=some (.ret (.sl .u8 (sha1 l)) []):=by
 refine tq ?_;rw[A5L _ A7];exact tq rfl
theorem SC(l:List UInt8)(hl:l.length<=4294967296):Y E0 (.call 309 [.i 1,.sl .u8 l] [])=some (.ret (.sl .u8 (sha256 l)) []):=by
 refine tq ?_;rw[Hz _ A7];exact tq rfl
abbrev PM(rb:List (List (List UInt8)))(u:Int):AV:=.agg [.sl (.sl (.sl .u8)) rb,.i u]
theorem X6(h0:b0.length<=16)(h1:b1.length<=16)(m0:∀ x∈b0,x.length<=1000)(m1:∀ x∈b1,x.length<=1000):Y E0 (.call 156 [PM [b0,b1] u] [])=some (.ret (.agg [.nm 0,.i u]) [some (.rowA 24 1 2 [.nm 1,.nm 2]),some (.row 22 (.sl .u8) b0),some (.row 22 (.sl .u8) b1)]):=by
 have e:=nU b0 b1 u h0 h1 m0 m1
 refine tq ?_;rw[e];exact tq rfl
theorem jC:(Y E0 (.loop 156 0 0 3 [(1,AV.pa 0 0),(2,AV.pa 1 0),(3,AV.pa 2 0),(4,AV.i 0)] [(0,some (Rs.var [AV.sl Ty.u8.sl.sl [],AV.i u])),(1,some (Rs.var [AV.nil,AV.i 0])),(2,some (Rs.var [AV.nil,AV.i u]))]))=some (.fin (.exit 0) 2 [(2,.pa 0 0),(3,.pa 1 0)] [(0,some (.var [.nil,.i 0])),(1,some (.var [.nil,.i u]))]):=by
 exact tq rfl
theorem Zx:Y E0 (.call 156 [PM [] u] [])=some (.ret (.agg [.nil,.i u]) []):=by
 have e:=jC u
 refine tq ?_;rw[e];exact tq rfl
theorem Ky(b:List (List UInt8))(l:List (List (List UInt8)))(u:Int)(hl:l.length<=100):Y E0 (.call 112 [PM (b::l) u,.i 0] [])=some (.ret (.b (decide (0<b.length))) []):=by
 refine tq ?_
 (rw[Jd,BB];simp)
theorem Gi(c b:List (List UInt8))(l:List (List (List UInt8)))(u:Int)(hl:l.length<=100):Y E0 (.call 112 [PM (c::b::l) u,.i 1] [])=some (.ret (.b (decide (0<b.length))) []):=by
 refine tq ?_
 (rw[Jd,BB];simp)
theorem G5(k:Int)(hk:0<=k):Y E0 (.call 112 [PM [] u,.i k] [])=some (.ret (.b false) []):=by
 exact tq rfl
theorem PN(b:Bool):Ah E0 (.call 308 [.i i,.b b] []) fun r=>∃ x:Int,(-1<=x/\x<=4)/\r=some (.ret (.i x) []):=by
 refine CU fun P hP=>tw ?_
 rcases bo b with rfl|rfl
 ·refine tw ?_
  rcases AZ i 12 with hc1|hc1
  ·refine tw ?_;exact hP _ ⟨-1,A7,rfl⟩
  refine tw ?_
  rcases AL i 14 with hc2|hc2
  ·subst hc2;refine tw ?_;exact hP _ ⟨3,A7,rfl⟩
  refine tw ?_
  rcases AL i 15 with hc3|hc3
  ·subst hc3;refine tw ?_;exact hP _ ⟨4,A7,rfl⟩
  refine tw ?_;exact hP _ ⟨0,A7,rfl⟩
 refine tw ?_
 rcases AL i 14 with hc4|hc4
 ·subst hc4;refine tw ?_;exact hP _ ⟨2,A7,rfl⟩
 refine tw ?_
 rcases AL i 15 with hc5|hc5
 ·subst hc5;refine tw ?_;exact hP _ ⟨3,A7,rfl⟩
 refine tw ?_;exact hP _ ⟨0,A7,rfl⟩
theorem nV(hd:ds.length=2)(hdm:∀ x∈ds,x.length<=10000):Ah E0 (.loop 286 0 0 2 [(2,AV.i i),(3,AV.sl Ty.u8.sl ds),(4,AV.pa 0 0),(8,AV.pa 1 0),(10,AV.i 0)] [(0,some (Rs.var [AV.sl Ty.u8.sl.sl [b0,b1],AV.i u])),(1,some (Rs.var [AV.nil,AV.i 0]))]) fun r=>r=some (.fin .ret 2 [(2,AV.i i),(3,AV.sl Ty.u8.sl ds),(4,AV.pa 0 0),(8,AV.pa 1 0),(9,AV.i 27)] [(0,some (Rs.var [AV.sl Ty.u8.sl.sl [b0,b1],AV.i u])),(1,some (Rs.var [AV.nil,AV.i 0]))])\/r=some (.fin (.exit 0) 2 [(2,AV.i i),(3,AV.sl Ty.u8.sl ds),(4,AV.pa 0 0),(8,AV.pa 1 0)] [(0,some (Rs.var [AV.sl Ty.u8.sl.sl [b0,b1],AV.i u])),(1,some (Rs.var [AV.nil,AV.i 0]))]):=by
 refine CU fun P hP=>?_
 refine tw ?_;rw[Ky _ _ _ A7];refine tw ?_
 rcases Decidable.em (0<b0.length) with hc0|hc0
 ·refine tw ?_;refine tw ?_;rw[Gi _ _ _ _ A7];refine tw ?_
  rcases Decidable.em (0<b1.length) with hc1|hc1
  ·refine tw ?_;refine tw ?_;exact hP _ (Or.inr rfl)
  refine tw ?_;obtain⟨x2,f2,g2⟩:=Dc hdm (i:=1) A7;rw[g2];refine tw ?_
  rcases AZ 0 (↑x2.length) with hc3|hc3
  ·refine tw ?_;exact hP _ (Or.inl rfl)
  refine tw ?_;refine tw ?_;exact hP _ (Or.inr rfl)
 refine tw ?_;obtain⟨x4,f4,g4⟩:=Dc hdm (i:=0) A7;rw[g4];refine tw ?_
 rcases AZ 0 (↑x4.length) with hc5|hc5
 ·refine tw ?_;exact hP _ (Or.inl rfl)
 refine tw ?_;refine tw ?_;rw[Gi _ _ _ _ A7];refine tw ?_
 rcases Decidable.em (0<b1.length) with hc6|hc6
 ·refine tw ?_;refine tw ?_;exact hP _ (Or.inr rfl)
 refine tw ?_;obtain⟨x7,f7,g7⟩:=Dc hdm (i:=1) A7;rw[g7];refine tw ?_
 rcases AZ 0 (↑x7.length) with hc8|hc8
 ·refine tw ?_;exact hP _ (Or.inl rfl)
 refine tw ?_;refine tw ?_;exact hP _ (Or.inr rfl)
theorem nX(hd:ds.length=2)(hdm:∀ x∈ds,x.length<=10000):Ah E0 (.loop 286 1 0 2 [(2,AV.i i),(3,AV.sl Ty.u8.sl ds),(4,AV.pa 0 0),(8,AV.pa 1 0),(11,AV.i 0)] [(0,some (Rs.var [AV.sl Ty.u8.sl.sl [b0,b1],AV.i u])),(1,some (Rs.var [AV.nil,AV.i 0]))]) fun r=>r=some (.fin .ret 2 [(2,AV.i i),(3,AV.sl Ty.u8.sl ds),(4,AV.pa 0 0),(8,AV.pa 1 0),(9,AV.i 24)] [(0,some (Rs.var [AV.sl Ty.u8.sl.sl [b0,b1],AV.i u])),(1,some (Rs.var [AV.nil,AV.i 0]))])\/r=some (.fin (.exit 2) 2 [(2,AV.i i),(3,AV.sl Ty.u8.sl ds),(4,AV.pa 0 0),(8,AV.pa 1 0)] [(0,some (Rs.var [AV.sl Ty.u8.sl.sl [b0,b1],AV.i u])),(1,some (Rs.var [AV.nil,AV.i 0]))]):=by
 refine CU fun P hP=>?_
 refine tw ?_;rw[Ky _ _ _ A7];refine tw ?_
 rcases Decidable.em (0<b0.length) with hc0|hc0
 ·refine tw ?_;obtain⟨x1,f1,g1⟩:=Dc hdm (i:=0) A7;rw[g1];refine tw ?_;rw[Zw];refine tw ?_
  rcases AX (↑x1.length) 20 with hc2|hc2
  ·refine tw ?_;exact hP _ (Or.inl rfl)
  refine tw ?_;refine tw ?_;rw[Gi _ _ _ _ A7];refine tw ?_
  rcases Decidable.em (0<b1.length) with hc3|hc3
  ·refine tw ?_;obtain⟨x4,f4,g4⟩:=Dc hdm (i:=1) A7;rw[g4];refine tw ?_;rw[PL];refine tw ?_
   rcases AX (↑x4.length) 32 with hc5|hc5
   ·refine tw ?_;exact hP _ (Or.inl rfl)
   refine tw ?_;refine tw ?_;exact hP _ (Or.inr rfl)
  refine tw ?_;refine tw ?_;exact hP _ (Or.inr rfl)
 refine tw ?_;refine tw ?_;rw[Gi _ _ _ _ A7];refine tw ?_
 rcases Decidable.em (0<b1.length) with hc6|hc6
 ·refine tw ?_;obtain⟨x7,f7,g7⟩:=Dc hdm (i:=1) A7;rw[g7];refine tw ?_;rw[PL];refine tw ?_
  rcases AX (↑x7.length) 32 with hc8|hc8
  ·refine tw ?_;exact hP _ (Or.inl rfl)
  refine tw ?_;refine tw ?_;exact hP _ (Or.inr rfl)
 refine tw ?_;refine tw ?_;exact hP _ (Or.inr rfl)
theorem Jv(h:b=[]\/Fg n b)(hn:n<=1000):b.length<=16/\∀ x∈b,x.length<=1000:=by
 rcases h with rfl|⟨h1,h2⟩
 ·simp
 ·exact⟨by omega,fun x hx=>by rw[h2 x hx];exact hn⟩
theorem JJ(h:¬0<b.length):b=[]:=List.eq_nil_of_length_eq_zero zaa
theorem TJ(h:b=[]\/Fg n b)(hb:0<b.length):Fg n b:=by
 rcases h with rfl|h
 ·simp at hb
 ·exact h
theorem JK{i:Int}{x:List UInt8}(h:Fg n b)(hx:x.length=n):Fg n (Bc b i x):=by
 obtain⟨h1,h2⟩:=dS (i:=i) h.2 hx;exact⟨h1.trans h.1,h2⟩
theorem Nq(h:b=[]\/Fg n b):b.length=0\/b.length=16:=by
 rcases h with rfl|h
 ·exact .inl rfl
 ·exact .inr h.1
theorem nY(h0:b0=[]\/Fg 20 b0)(h1:b1=[]\/Fg 32 b1)(hi:0<=i/\i<16)(hd:ds.length=2)(hdm:∀ x∈ds,x.length<=10000):Ah E0 (.loop 286 2 0 6 [(2,AV.i i),(3,AV.sl Ty.u8.sl ds),(4,AV.pa 0 0),(8,AV.pa 1 0),(12,.pa 2 0),(13,AV.i 0)] [(0,some (Rs.var [AV.sl Ty.u8.sl.sl [b0,b1],AV.i u])),(1,some (Rs.var [AV.nil,AV.i 0])),(2,some (.var [.nm 3,.i u])),(3,some (.rowA 24 1 2 [.nm 4,.nm 5])),(4,some (.row 22 (.sl .u8) b0)),(5,some (.row 22 (.sl .u8) b1))]) fun r=>∃ c0 c1:List (List UInt8),((b0=[]/\c0=[]\/Fg 20 c0)/\(b1=[]/\c1=[]\/Fg 32 c1))/\r=some (.fin (.exit 4) 5 [(8,.pa 0 0),(12,.pa 1 0)] [(0,some (.var [.nil,.i 0])),(1,some (.var [.nm 2,.i u])),(2,some (.rowA 24 1 2 [.nm 3,.nm 4])),(3,some (.row 22 (.sl .u8) c0)),(4,some (.row 22 (.sl .u8) c1))]):=by
 have k0:=(Jv h0 zal).2
 have k1:=(Jv h1 zal).2
 have q0:=Nq h0
 have q1:=Nq h1
 refine CU fun P hP=>?_
 refine tw ?_;rw[Ky _ _ _ A7];refine tw ?_
 rcases Decidable.em (0<b0.length) with hc0|hc0
 ·refine tw ?_;obtain⟨x1,f1,g1⟩:=Dc k0 (i:=i) A7;rw[g1];refine tw ?_;rw[II _ A7];refine tw ?_;obtain⟨x2,f2,g2⟩:=Dc hdm (i:=0) A7;rw[g2];refine tw ?_;rw[dh _ A7];refine tw ?_;rw[g1];refine tw ?_;refine tw ?_;rw[Gi _ _ _ _ A7];refine tw ?_
  rcases Decidable.em (0<b1.length) with hc3|hc3
  ·refine tw ?_;obtain⟨x4,f4,g4⟩:=Dc k1 (i:=i) A7;rw[g4];refine tw ?_;rw[II _ A7];refine tw ?_;obtain⟨x5,f5,g5⟩:=Dc hdm (i:=1) A7;rw[g5];refine tw ?_;rw[SC _ A7];refine tw ?_;rw[g4];refine tw ?_;refine tw ?_
   refine hP _ ⟨Bc b0 i (sha1 (BM x1 x2)),Bc b1 i (sha256 (BM x4 x5)),?_,rfl⟩;(refine⟨?_,?_⟩<;>first|exact .inl ⟨JJ zaa,JJ zaa⟩|exact .inr (JK (TJ zav zaa) (by simp only[EO,A8])))
  refine tw ?_;refine tw ?_
  refine hP _ ⟨Bc b0 i (sha1 (BM x1 x2)),b1,?_,rfl⟩;(refine⟨?_,?_⟩<;>first|exact .inl ⟨JJ zaa,JJ zaa⟩|exact .inr (JK (TJ zav zaa) (by simp only[EO,A8])))
 refine tw ?_;refine tw ?_;rw[Gi _ _ _ _ A7];refine tw ?_
 rcases Decidable.em (0<b1.length) with hc6|hc6
 ·refine tw ?_;obtain⟨x7,f7,g7⟩:=Dc k1 (i:=i) A7;rw[g7];refine tw ?_;rw[II _ A7];refine tw ?_;obtain⟨x8,f8,g8⟩:=Dc hdm (i:=1) A7;rw[g8];refine tw ?_;rw[SC _ A7];refine tw ?_;rw[g7];refine tw ?_;refine tw ?_
  refine hP _ ⟨b0,Bc b1 i (sha256 (BM x7 x8)),?_,rfl⟩;(refine⟨?_,?_⟩<;>first|exact .inl ⟨JJ zaa,JJ zaa⟩|exact .inr (JK (TJ zav zaa) (by simp only[EO,A8])))
 refine tw ?_;refine tw ?_
 refine hP _ ⟨b0,b1,?_,rfl⟩;(refine⟨?_,?_⟩<;>first|exact .inl ⟨JJ zaa,JJ zaa⟩|exact .inr (JK (TJ zav zaa) (by simp only[EO,A8])))
theorem nZ(lo i:Int)(ds:List (List UInt8))(h0:b0=[]\/Fg 20 b0)(h1:b1=[]\/Fg 32 b1)(hd:ds.length<=100)(hdm:∀ x∈ds,x.length<=10000):Ah E0 (.call 286 [PM [b0,b1] u,.i lo,.i i,.sl (.sl .u8) ds] []) fun r=>(∃ c0 c1:List (List UInt8),((b0=[]/\c0=[]\/Fg 20 c0)/\(b1=[]/\c1=[]\/Fg 32 c1))/\r=some (.ret (.tup [PM [c0,c1] (Cc u 1),.i 0]) []))\/∃ e:Int,(e≠0)/\r=some (.ret (.tup [PM [] 0,.i e]) []):=by
 have k0:=Jv h0 zal
 have k1:=Jv h1 zal
 refine CU fun P hP=>tw ?_
 rcases AZ lo 0 with hc0|hc0
 ·refine tw ?_;exact hP _ (Or.inr ⟨1,A7,rfl⟩)
 refine tw ?_
 rcases AZ 4 lo with hc1|hc1
 ·refine tw ?_;exact hP _ (Or.inr ⟨1,A7,rfl⟩)
 refine tw ?_
 rcases AZ i 0 with hc2|hc2
 ·refine tw ?_;exact hP _ (Or.inr ⟨1,A7,rfl⟩)
 refine tw ?_
 rcases DJ 16 i with hc3|hc3
 ·refine tw ?_;exact hP _ (Or.inr ⟨1,A7,rfl⟩)
 refine tw ?_
 rcases AX (↑ds.length) 2 with hc4|hc4
 ·refine tw ?_;exact hP _ (Or.inr ⟨1,A7,rfl⟩)
 refine tw ?_;obtain⟨x5,⟨h5_1,h5_2⟩,yy5⟩:=PN i false;refine Aq yy5 ?_
 rcases AZ lo x5 with hc6|hc6
 ·refine tw ?_;exact hP _ (Or.inr ⟨13,A7,rfl⟩)
 refine tw ?_
 obtain(yy7|yy7):=nV b0 b1 u i ds A7 A7
 ·refine Aq yy7 ?_;exact hP _ (Or.inr ⟨27,A7,rfl⟩)
 refine Aq yy7 ?_
 obtain(yy8|yy8):=nX b0 b1 u i ds A7 A7
 ·refine Aq yy8 ?_;exact hP _ (Or.inr ⟨24,A7,rfl⟩)
 refine Aq yy8 ?_;rw[X6 _ _ _ k0.1 k1.1 k0.2 k1.2]
 conv=>arg 1;whnf
 rw[Ad]
 conv=>arg 1;whnf
 try dsimp -iota -beta -eta -zeta only
 rw[Ee];obtain⟨c09,c19_1,⟨h9_2,h9_3⟩,yy9⟩:=nY b0 b1 u i ds A7 A7 A7 A7 A7
 erw[yy9]
 refine tw ?_;exact hP _ (Or.inl ⟨c09,c19_1,clo,rfl⟩)
end
end Go.Proofs.YtnhgnfdbdflhcaaGreatDoor
