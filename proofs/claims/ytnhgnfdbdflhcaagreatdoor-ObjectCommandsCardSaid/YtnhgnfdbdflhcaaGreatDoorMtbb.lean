/-
  Own texts, laid together for this claim: contracts of functions of the program and its references, used by the statements of this seat.
-/
import Derived.Test.YtnhgnfdbdflhcaaGreatDoorMtab
import Derived.Test.YtnhgnfdbdflhcaaGreatDoorMtac
import Derived.Test.YtnhgnfdbdflhcaaGreatDoorMtad
import Derived.Test.YtnhgnfdbdflhcaaGreatDoorMtae
import Derived.Test.YtnhgnfdbdflhcaaGreatDoorMtaf
import Derived.Test.YtnhgnfdbdflhcaaGreatDoorMtah
import Derived.Test.YtnhgnfdbdflhcaaGreatDoorMtaj
import Derived.Test.YtnhgnfdbdflhcaaGreatDoorMtao
import Derived.Test.YtnhgnfdbdflhcaaGreatDoorMtap
set_option linter.all false
set_option maxHeartbeats 40000000
set_option maxRecDepth 100000
namespace Go.Proofs.YtnhgnfdbdflhcaaGreatDoor
open Go Go.Ax Go.Eng
variable (n k a z:Int)(p u:List UInt8)(w:Bool)(d x:List UInt8)
section
attribute [local irreducible] Cc Dn D7 DU DD BA Dp F7 FY FD Ez Ci CS DK DV and' DW DL C9 BR Bh CB CG BG BI Aw BC Dq Fh Dt ER DX Bl CE Bv Bz Bi Az Bg BK Bj BO Du Bc DF BZ BM Cj Di fits Dv Dk Ac Am BH
attribute [local irreducible] Dw CJ Be nameB EL Eh Ar
theorem oG:Ah E0 (.call 312 [.i k,.i z] []) fun r=>∃ b:Bool,(b=true->0<=z/\z<=128/\(k≠3\/z=8))/\r=some (.ret (.b b) []):=by
 refine CU fun P hP=>tw ?_
 rcases AL k 1 with hc0|hc0
 ·subst hc0;refine tw ?_
  rcases DJ 1 z with hc1|hc1
  ·refine tw ?_
   refine hP _ ⟨Ez z 128,?_,rfl⟩;(intro hz;simp only[Dz,EU,decide_eq_true_eq,Bool.false_eq_true] at hz<;>omega)
  refine tw ?_
  refine hP _ ⟨false,?_,rfl⟩;(intro hz;simp only[Dz,EU,decide_eq_true_eq,Bool.false_eq_true] at hz<;>omega)
 refine tw ?_
 rcases AL k 2 with hc2|hc2
 ·subst hc2;refine tw ?_
  refine hP _ ⟨F7 z 8,?_,rfl⟩;(intro hz;simp only[Dz,EU,decide_eq_true_eq,Bool.false_eq_true] at hz<;>omega)
 refine tw ?_
 rcases AL k 3 with hc3|hc3
 ·subst hc3;refine tw ?_
  refine hP _ ⟨F7 z 8,?_,rfl⟩;(intro hz;simp only[Dz,EU,decide_eq_true_eq,Bool.false_eq_true] at hz<;>omega)
 refine tw ?_
 rcases AL k 4 with hc4|hc4
 ·subst hc4;refine tw ?_
  refine hP _ ⟨F7 z 32,?_,rfl⟩;(intro hz;simp only[Dz,EU,decide_eq_true_eq,Bool.false_eq_true] at hz<;>omega)
 refine tw ?_
 refine hP _ ⟨false,?_,rfl⟩;(intro hz;simp only[Dz,EU,decide_eq_true_eq,Bool.false_eq_true] at hz<;>omega)
theorem A0b(p:List UInt8):Ah E0 (.call 294 [.i n,.i k,.i a,.i z,.sl .u8 u,.sl .u8 p] []) fun r=>(∃ d:List UInt8,(CZ n k p u d)/\r=some (.ret (.tup [jh n k a z p u false d,.i 0]) []))\/∃ e:Int,(e≠0)/\r=some (.ret (.tup [jh 0 0 0 0 [] [] false [],.i e]) []):=by
 refine CU fun P hP=>tw ?_
 rcases AZ n 0 with hc0|hc0
 ·refine tw ?_;exact hP _ (Or.inr ⟨1,A7,rfl⟩)
 refine tw ?_
 rcases AZ 255 n with hc1|hc1
 ·refine tw ?_;exact hP _ (Or.inr ⟨1,A7,rfl⟩)
 refine tw ?_;obtain⟨b2,h2_1,yy2⟩:=oG k z;refine Aq yy2 ?_
 rcases bo b2 with rfl|rfl
 ·replace h2_1:=h2_1 rfl
  refine tw ?_
  rcases AX (↑p.length) 0 with hc4|hc4
  ·refine tw ?_
   rcases AX (↑p.length) 32 with hc5|hc5
   ·refine tw ?_;exact hP _ (Or.inr ⟨1,A7,rfl⟩)
   refine tw ?_
   rcases AZ 32 (↑u.length) with hc6|hc6
   ·refine tw ?_;exact hP _ (Or.inr ⟨4,A7,rfl⟩)
   rw[GL zaq]
   conv=>arg 1;whnf
   rw[Ad]
   conv=>arg 1;whnf
   rcases AZ a 0 with hc7|hc7
   ·refine tw ?_;exact hP _ (Or.inr ⟨20,A7,rfl⟩)
   refine tw ?_
   rcases AZ 127 a with hc8|hc8
   ·refine tw ?_;exact hP _ (Or.inr ⟨20,A7,rfl⟩)
   refine tw ?_
   rcases AL (BA BinOp.and a 21) 0 with hc9|hc9
   ·refine tw ?_;exact hP _ (Or.inr ⟨20,A7,rfl⟩)
   refine tw ?_
   rcases AL (BA BinOp.and a 42) 0 with hc10|hc10
   ·refine tw ?_;exact hP _ (Or.inr ⟨20,A7,rfl⟩)
   refine tw ?_
   rcases AX (BA BinOp.and a 12) 0 with hc11|hc11
   ·rw[G8 zaa]
    conv=>arg 1;whnf
    rw[Ad]
    conv=>arg 1;whnf
    rw[AA zaq]
    conv=>arg 1;whnf
    rw[NC zaa]
    conv=>arg 1;whnf
    rw[EH zaa]
    conv=>arg 1;whnf
    try dsimp -iota -beta -eta -zeta only
    exact hP _ (Or.inl ⟨BZ z 0,clo,rfl⟩)
   rw[Cf zaa]
   conv=>arg 1;whnf
   rw[Ad]
   conv=>arg 1;whnf
   rw[NC zaa]
   conv=>arg 1;whnf
   rw[EH zaa]
   conv=>arg 1;whnf
   try dsimp -iota -beta -eta -zeta only
   exact hP _ (Or.inl ⟨BZ z 0,clo,rfl⟩)
  refine tw ?_
  rcases AZ 32 (↑u.length) with hc12|hc12
  ·refine tw ?_;exact hP _ (Or.inr ⟨4,A7,rfl⟩)
  refine tw ?_
  rcases AZ a 0 with hc13|hc13
  ·refine tw ?_;exact hP _ (Or.inr ⟨20,A7,rfl⟩)
  rw[GL zaa]
  conv=>arg 1;whnf
  rw[Ad]
  conv=>arg 1;whnf
  rcases AZ 127 a with hc14|hc14
  ·refine tw ?_;exact hP _ (Or.inr ⟨20,A7,rfl⟩)
  refine tw ?_
  rcases AL (BA BinOp.and a 21) 0 with hc15|hc15
  ·refine tw ?_;exact hP _ (Or.inr ⟨20,A7,rfl⟩)
  refine tw ?_
  rcases AL (BA BinOp.and a 42) 0 with hc16|hc16
  ·refine tw ?_;exact hP _ (Or.inr ⟨20,A7,rfl⟩)
  refine tw ?_
  rcases AX (BA BinOp.and a 12) 0 with hc17|hc17
  ·rw[G8 zaa]
   conv=>arg 1;whnf
   rw[Ad]
   conv=>arg 1;whnf
   rw[EH zaq]
   conv=>arg 1;whnf
   try dsimp -iota -beta -eta -zeta only
   exact hP _ (Or.inr ⟨20,A7,rfl⟩)
  refine tw ?_;exact hP _ (Or.inl ⟨BZ z 0,clo,rfl⟩)
 refine tw ?_;exact hP _ (Or.inr ⟨1,A7,rfl⟩)
theorem VP(o n z:Int)(hn : -1000000<=n/\n<=1099511627776)(hz:0<=z/\z<=100000):Ah E0 (.call 313 [.i o,.i n,.i z] []) fun r=>∃ b:Bool,(b=true->0<=o/\0<=n/\n<=z/\o<=z-n)/\r=some (.ret (.b b) []):=by
 refine CU fun P hP=>tw ?_
 rcases DJ 0 o with hc0|hc0
 ·refine tw ?_
  rcases DJ 0 n with hc1|hc1
  ·refine tw ?_
   rcases DJ n z with hc2|hc2
   ·refine tw ?_
    refine hP _ ⟨Ez o (z-n),?_,rfl⟩;(intro hz;simp only[Dz,EU,decide_eq_true_eq,Bool.false_eq_true] at hz<;>omega)
   refine tw ?_
   refine hP _ ⟨false,?_,rfl⟩;(intro hz;simp only[Dz,EU,decide_eq_true_eq,Bool.false_eq_true] at hz<;>omega)
  refine tw ?_
  refine hP _ ⟨false,?_,rfl⟩;(intro hz;simp only[Dz,EU,decide_eq_true_eq,Bool.false_eq_true] at hz<;>omega)
 refine tw ?_
 refine hP _ ⟨false,?_,rfl⟩;(intro hz;simp only[Dz,EU,decide_eq_true_eq,Bool.false_eq_true] at hz<;>omega)
theorem oH(o:Int)(x:List UInt8)(h:CZ n k p u d)(hx:x.length<=2000)(ho:0<=o/\o<=1099511627776):Ah E0 (.call 299 [jh n k a z p u w d,.i o,.sl .u8 x] []) fun r=>(∃(w':Bool) (d':List UInt8),(CZ n k p u d')/\r=some (.ret (.tup [jh n k a z p u w' d',.i 0]) []))\/∃ e:Int,(e≠0)/\r=some (.ret (.tup [jh 0 0 0 0 [] [] false [],.i e]) []):=by
 unfold CZ at h
 refine CU fun P hP=>tw ?_
 rcases AX k 1 with hc0|hc0
 ·refine tw ?_;exact hP _ (Or.inr ⟨19,A7,rfl⟩)
 subst hc0;refine tw ?_;obtain⟨b1,h1_1,yy1⟩:=VP o (Bj x) (Bj d) A7 A7;refine Aq yy1 ?_
 rcases bo b1 with rfl|rfl
 ·replace h1_1:=h1_1 rfl
  refine tw ?_;rw[II _ A7];refine tw ?_;exact hP _ (Or.inl ⟨true,BM (BM (List.take o.toNat d) x) (List.take (Bj d-(o+Bj x)).toNat (List.drop (o+Bj x).toNat d)),clo,rfl⟩)
 refine tw ?_;exact hP _ (Or.inr ⟨24,A7,rfl⟩)
theorem uG(o m:Int)(h:CZ n k p u d)(ho:0<=o/\o<=1099511627776)(hm:0<=m/\m<=1099511627776):Ah E0 (.call 298 [jh n k a z p u w d,.i o,.i m] []) fun r=>∃(l:List UInt8) (e:Int),r=some (.ret (.tup [.sl .u8 l,.i e]) []):=by
 unfold CZ at h
 refine CU fun P hP=>tw ?_
 rcases bo w with rfl|rfl
 ·refine tw ?_;obtain⟨b1,h1_1,yy1⟩:=VP o m (Bj d) A7 A7;refine Aq yy1 ?_
  rcases bo b1 with rfl|rfl
  ·replace h1_1:=h1_1 rfl
   refine tw ?_;rw[II _ A7];refine tw ?_;exact hP _ ⟨List.take (o+m-o).toNat (List.drop o.toNat d),0,rfl⟩
  refine tw ?_;exact hP _ ⟨[],24,rfl⟩
 refine tw ?_;exact hP _ ⟨[],22,rfl⟩
theorem jH(h:CZ n k p u d):Ah E0 (.call 314 [jh n k a z p u w d] []) fun r=>∃ v:Int,r=some (.ret (.i v) []):=by
 unfold CZ at h
 refine CU fun P hP=>tw ?_
 rw[Qe _];refine tw ?_;rw[show Y E0 (.call 40 [.pa 0 0,.i 8] [.var [.sl .u8 d,.i 0,.i 0]])=_ from Gs d 0 0 8 zaa zaa];refine tw ?_;exact hP _ ⟨(Hr d 0 0 8).fst,rfl⟩
theorem uH(m:Int)(h:CZ n k p u d):Ah E0 (.call 300 [jh n k a z p u w d,.i m] []) fun r=>(∃(w':Bool) (d':List UInt8) (v:Int),(CZ n k p u d')/\r=some (.ret (.tup [jh n k a z p u w' d',.i v,.i 0]) []))\/∃ e:Int,(e≠0)/\r=some (.ret (.tup [jh 0 0 0 0 [] [] false [],.i 0,.i e]) []):=by
 refine CU fun P hP=>tw ?_
 rcases AX k 2 with hc0|hc0
 ·refine tw ?_;exact hP _ (Or.inr ⟨19,A7,rfl⟩)
 subst hc0;refine tw ?_
 rcases bo w with rfl|rfl
 ·refine tw ?_;obtain⟨v2,yy2⟩:=jH n 2 a z p u true d A7;refine Aq yy2 ?_
  rcases DJ 1099511627776 v2 with hc3|hc3
  ·refine tw ?_;exact hP _ (Or.inr ⟨31,A7,rfl⟩)
  refine tw ?_;rw[CP _ _ _ A7];refine tw ?_;refine hP _ (Or.inl ⟨true,BV [] 8 (Cc v2 1),max m (Cc v2 1),?_,rfl⟩);(unfold CZ at *;simp only[AU,List.length_nil];omega)
 refine tw ?_
 rcases DJ 1099511627776 m with hc4|hc4
 ·refine tw ?_;exact hP _ (Or.inr ⟨31,A7,rfl⟩)
 refine tw ?_;rw[CP _ _ _ A7];refine tw ?_;refine hP _ (Or.inl ⟨true,BV [] 8 (Cc m 1),max m (Cc m 1),?_,rfl⟩);(unfold CZ at *;simp only[AU,List.length_nil];omega)
theorem VQ(n a z:Int)(p u:List UInt8)(w:Bool)(o x:List UInt8)(hx:x.length=8):∀(q:Nat) (j:Int) (d:List UInt8),0<=j->j+q=d.length->d.length<=8->Ah E0 (.loop 301 0 0 3 [(1,.sl .u8 x),(2,.pa 0 0),(4,.pa 1 0),(6,.nm 2),(7,.i j)] [(0,some (.var [.i n,.i 3,.i a,.i z,.sl .u8 p,.sl .u8 u,.b w,.sl .u8 o])),(1,some (.var [.i 0,.i 0,.i 0,.i 0,.nil,.nil,.b false,.nil])),(2,some (.row 5 .u8 d))]) fun r=>∃ d':List UInt8,(d'.length=d.length)/\r=some (.fin (.exit 0) 2 [(2,.pa 0 0),(4,.pa 1 0),(6,.sl .u8 d')] [(0,some (.var [.i n,.i 3,.i a,.i z,.sl .u8 p,.sl .u8 u,.b w,.sl .u8 o])),(1,some (.var [.i 0,.i 0,.i 0,.i 0,.nil,.nil,.b false,.nil]))])
 | 0,j,d,h0,hj,hd=>by
  refine CU fun P hP=>?_
  refine tw ?_;exact hP _ ⟨d,A7,rfl⟩
 | q+1,j,d,h0,hj,hd=>by
  have ih:=fun d' (h:d'.length=d.length)=>VQ n a z p u w o x hx q (j+1) d' zaa zaa zaa
  have hs:∀ y,(Bc d j y).length=d.length:=fun y=>by rw[GG];simp
  refine CU fun P hP=>?_
  refine tw ?_;obtain⟨x0,m0,g0⟩:=EY (l:=d) (i:=j) zaa;rw[g0];refine tw ?_;obtain⟨x1,m1,g1⟩:=EY (l:=x) (i:=j) zaa;rw[g1];refine tw ?_;rw[g0];refine tw ?_
  obtain⟨d',h',e'⟩:=ih _ (hs _);rw[e'];rw[hs] at h';refine tw ?_;exact hP _ ⟨d',A7,rfl⟩
theorem uI(h:CZ n k p u d):Ah E0 (.call 301 [jh n k a z p u w d,.sl .u8 x] []) fun r=>(∃(w':Bool) (d':List UInt8),(CZ n k p u d')/\r=some (.ret (.tup [jh n k a z p u w' d',.i 0]) []))\/∃ e:Int,(e≠0)/\r=some (.ret (.tup [jh 0 0 0 0 [] [] false [],.i e]) []):=by
 unfold CZ at h
 refine CU fun P hP=>tw ?_
 rcases AX k 3 with hc0|hc0
 ·refine tw ?_;exact hP _ (Or.inr ⟨19,A7,rfl⟩)
 subst hc0;refine tw ?_
 rcases AX (↑x.length) 8 with hc1|hc1
 ·refine tw ?_;exact hP _ (Or.inr ⟨24,A7,rfl⟩)
 refine tw ?_;rw[II _ A7];refine tw ?_;obtain⟨d'2,h2_1,yy2⟩:=VQ n a z p u w d x A7 (Int.toNat (↑d.length-(0))) 0 d A7 zaa A7;refine Aq yy2 ?_;exact hP _ (Or.inl ⟨true,d'2,clo,rfl⟩)
theorem jI(h:CZ n k p u d)(hx:x.length<=2000):Ah E0 (.call 302 [jh n k a z p u w d,.sl .u8 x] []) fun r=>(∃(w':Bool) (d':List UInt8),(CZ n k p u d')/\r=some (.ret (.tup [jh n k a z p u w' d',.i 0]) []))\/∃ e:Int,(e≠0)/\r=some (.ret (.tup [jh 0 0 0 0 [] [] false [],.i e]) []):=by
 unfold CZ at h
 refine CU fun P hP=>tw ?_
 rcases AX k 4 with hc0|hc0
 ·refine tw ?_;exact hP _ (Or.inr ⟨19,A7,rfl⟩)
 subst hc0;refine tw ?_
 rcases AZ 128 (↑x.length) with hc1|hc1
 ·refine tw ?_;exact hP _ (Or.inr ⟨4,A7,rfl⟩)
 refine tw ?_;rw[II _ A7];refine tw ?_;rw[Hz _ A7];refine tw ?_;exact hP _ (Or.inl ⟨true,sha256 (BM d x),clo,rfl⟩)
end
end Go.Proofs.YtnhgnfdbdflhcaaGreatDoor
