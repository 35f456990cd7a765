/-
  Own texts, laid together for this claim: contracts of functions of the program and its references, used by the statements of this seat.
-/
import Derived.Test.YtnhgnfdbdflhcaaGreatDoorMtab
import Derived.Test.YtnhgnfdbdflhcaaGreatDoorMtac
import Derived.Test.YtnhgnfdbdflhcaaGreatDoorMtad
import Derived.Test.YtnhgnfdbdflhcaaGreatDoorMtae
import Derived.Test.YtnhgnfdbdflhcaaGreatDoorMtaf
import Derived.Test.YtnhgnfdbdflhcaaGreatDoorMtah
import Derived.Test.YtnhgnfdbdflhcaaGreatDoorMtaj
import Derived.Test.YtnhgnfdbdflhcaaGreatDoorMtao
set_option linter.all false
set_option maxHeartbeats 40000000
set_option maxRecDepth 100000
namespace Go.Ax
open Go.Eng
theorem uB(tag:Int):∀(ls:List (List UInt8)) (m:Nat),(∀ x∈ls,x.length<=m)->(Ar tag ls).length<=1+ls.length*(m+4):=by
 intro ls m h
 have key:∀ j,j<=ls.length->(Ar tag (ls.take j)).length<=1+j*(m+4):=by
  intro j
  induction j with
  | zero=>intro _;simp[Ar,fieldsB]
  | succ j ih =>
   intro hj
   have hg:ls[j]?=some (ls[j]'zaa):=List.getElem?_eq_getElem zaa
   have hx:=h _ (List.getElem_mem (show j<ls.length by omega))
   rw[QL tag ls j _ hg,List.length_append,List.length_append]
   have:=ih zaa
   have h4:(qm (ls[j]'zaa)).length=4:=rfl
   rw[h4,Nat.succ_mul];omega
 have:=key ls.length (Nat.le_refl _)
 rwa [List.take_length] at this
end Go.Ax
namespace Go.Proofs.YtnhgnfdbdflhcaaGreatDoor
open Go Go.Ax Go.Eng
variable (l1 l2 l3 l4 l5 l6 now:Int)
section
attribute [local irreducible] Cc Dn D7 DU DD BA Dp F7 FY FD Ez Ci CS DK DV and' DW DL C9 BR Bh CB CG BG BI Aw BC Dq Fh Dt ER DX Bl CE Bv Bz Bi Az Bg BK Bj BO Du Bc DF BZ BM Cj Di fits Dv Dk Ac Am BH
attribute [local irreducible] Dw CJ Be nameB EL Eh Ar
abbrev lkA(l1 l2 l3 l4 l5 l6:Int):AV:=.agg [.i l1,.i l2,.i l3,.i l4,.i l5,.i l6]
theorem A5c{a b n:Int}(hn:0<=n)(ha:0<=a)(hb:0<b):0<=min n (a/b)/\0<=min n (a/b)*b/\min n (a/b)*b<=a:=by
 have h1:0<=a/b:=Int.ediv_nonneg ha zaa
 have h2:a/b*b<=a:=Int.ediv_mul_le _ zaa
 have h0:0<=min n (a/b):=zaa
 exact⟨h0,Int.mul_nonneg h0 zaa,Int.le_trans (Int.mul_le_mul_of_nonneg_right (Int.min_le_right _ _) zaa) h2⟩
theorem dw(h:O7 l1 l2 l3 l4 l5 l6)(hn:0<=now/\now<=1099511627776):Ah E0 (.call 307 [lkA l1 l2 l3 l4 l5 l6,.i now] []) fun r=>∃ m1 m4:Int,(O7 m1 l2 l3 m4 l5 l6)/\r=some (.ret (lkA m1 l2 l3 m4 l5 l6) []):=by
 unfold O7 at *
 have hq:=fun(h0:l4<=now) (h2:l3≠0)=>A5c (n:=l1) (a:=now-l4) (b:=l3) zaa zaa zaa
 refine CU fun P hP=>tw ?_
 rcases AZ now l4 with hc0|hc0
 ·refine tw ?_;exact hP _ ⟨l1,now,A7,rfl⟩
 replace hq:=hq hc0
 refine tw ?_
 rcases AL l1 0 with hc1|hc1
 ·subst hc1;refine tw ?_;exact hP _ ⟨0,now,A7,rfl⟩
 refine tw ?_
 rcases AL l3 0 with hc2|hc2
 ·subst hc2;refine tw ?_;exact hP _ ⟨l1,l4,A7,rfl⟩
 replace hq:=hq hc2
 rw[AA zaa]
 conv=>arg 1;whnf
 rw[AA zaa]
 conv=>arg 1;whnf
 try dsimp -iota -beta -eta -zeta only
 rw[CY zaa];rw[FC zaa];rw[drw zas];conv=>arg 1;whnf
 rw[CY zaa]
 rcases AL (l1-min l1 ((now-l4)/l3)) 0 with hc3|hc3
 ·refine tw ?_;exact hP _ ⟨l1-min l1 ((now-l4)/l3),now,A7,rfl⟩
 refine tw ?_;exact hP _ ⟨l1-min l1 ((now-l4)/l3),l4+min l1 ((now-l4)/l3)*l3,A7,rfl⟩
theorem jD(h:O7 l1 l2 l3 l4 l5 l6)(hn:0<=now/\now<=1099511627776):Ah E0 (.call 282 [lkA l1 l2 l3 l4 l5 l6,.i now] []) fun r=>∃ b:Bool,r=some (.ret (.b b) []):=by
 refine CU fun P hP=>tw ?_
 obtain⟨m10,m40_1,h0_2,yy0⟩:=dw l1 l2 l3 l4 l5 l6 now A7 A7;refine Aq yy0 ?_;exact hP _ ⟨Ez l2 m10,rfl⟩
theorem uC(h:O7 l1 l2 l3 l4 l5 l6)(hn:0<=now/\now<=1099511627776):Ah E0 (.call 284 [lkA l1 l2 l3 l4 l5 l6,.i now] []) fun r=>∃ m1 m4:Int,(O7 m1 l2 l3 m4 l5 l6)/\r=some (.ret (lkA m1 l2 l3 m4 l5 l6) []):=by
 refine CU fun P hP=>tw ?_
 obtain⟨m10,m40_1,h0_2,yy0⟩:=dw l1 l2 l3 l4 l5 l6 now A7 A7;refine Aq yy0 ?_;refine hP _ ⟨min (Cc m10 1) l2,m40_1,?_,rfl⟩;(unfold O7 at *;rw[Au zaa];omega)
theorem oC(h:O7 l1 l2 l3 l4 l5 l6)(hn:0<=now/\now<=1099511627776):Ah E0 (.call 261 [lkA l1 l2 l3 l4 l5 l6,.i now] []) fun r=>∃ m1 m4:Int,(O7 m1 l2 l3 m4 l5 l6)/\r=some (.ret (lkA m1 l2 l3 m4 l5 l6) []):=by
 refine CU fun P hP=>tw ?_
 refine hP _ ⟨0,now,?_,rfl⟩;(unfold O7 at *;omega)
theorem oD(h:O7 l1 l2 l3 l4 l5 l6)(hn:0<=now/\now<=1099511627776):Ah E0 (.call 283 [lkA l1 l2 l3 l4 l5 l6,.i now] []) fun r=>∃ m5:Int,(O7 l1 l2 l3 l4 m5 l6)/\r=some (.ret (lkA l1 l2 l3 l4 m5 l6) []):=by
 refine CU fun P hP=>tw ?_
 refine hP _ ⟨Cc now l6,?_,rfl⟩;(unfold O7 at *;rw[Au zaa];omega)
theorem uD:Ah E0 (.call 280 [lkA l1 l2 l3 l4 l5 l6,.i now] []) fun r=>∃ b:Bool,r=some (.ret (.b b) []):=by
 refine CU fun P hP=>tw ?_
 exact hP _ ⟨Ez l5 now,rfl⟩
theorem jE(a b c:Int)(h:O7 l1 l2 l3 l4 l5 l6):Ah E0 (.call 262 [lkA l1 l2 l3 l4 l5 l6,.i a,.i b,.i c] []) fun r=>∃ m1 m2 m3 m4 m5 m6 e:Int,(O7 m1 m2 m3 m4 m5 m6)/\r=some (.ret (.tup [lkA m1 m2 m3 m4 m5 m6,.i e]) []):=by
 refine CU fun P hP=>tw ?_
 rcases AZ a 1 with hc0|hc0
 ·refine tw ?_;exact hP _ ⟨0,0,0,0,0,0,1,clo,rfl⟩
 refine tw ?_
 rcases AZ 100 a with hc1|hc1
 ·refine tw ?_;exact hP _ ⟨0,0,0,0,0,0,1,clo,rfl⟩
 refine tw ?_
 rcases AZ b 0 with hc2|hc2
 ·refine tw ?_;exact hP _ ⟨0,0,0,0,0,0,1,clo,rfl⟩
 refine tw ?_
 rcases AZ 1048576 b with hc3|hc3
 ·refine tw ?_;exact hP _ ⟨0,0,0,0,0,0,1,clo,rfl⟩
 refine tw ?_
 rcases AZ c 0 with hc4|hc4
 ·refine tw ?_;exact hP _ ⟨0,0,0,0,0,0,1,clo,rfl⟩
 refine tw ?_
 rcases AZ 1048576 c with hc5|hc5
 ·refine tw ?_;exact hP _ ⟨0,0,0,0,0,0,1,clo,rfl⟩
 refine tw ?_;refine hP _ ⟨min l1 a,a,b,l4,l5,c,0,?_,rfl⟩;(unfold O7 at *;omega)
abbrev asA(k s0 s1:Int)(d:List UInt8)(n o:Int)(x y z:List UInt8)(bs:List (List UInt8)):AV:=.agg [.i k,.i s0,.i s1,.sl .u8 d,.i n,.i o,.sl .u8 x,.sl .u8 y,.sl .u8 z,.sl (.sl .u8) bs]
def SN(d x y z:List UInt8)(bs:List (List UInt8)):Prop:=d.length<=2000/\x.length<=2000/\y.length<=2000/\z.length<=2000/\bs.length<=100/\∀ b∈bs,b.length<=2000
theorem UA:Ah E0 (.call 243 [] []) fun r=>∃ l:List UInt8,(l.length=32)/\r=some (.ret (.sl .u8 l) []):=by
 refine CU fun P hP=>tw ?_
 exact hP _ ⟨BZ 32 0,A7,rfl⟩
theorem UB(n f:List UInt8):Ah E0 (.call 304 [.sl .u8 n,.sl .u8 f] []) fun r=>∃ e:Int,r=some (.ret (.i e) []):=by
 refine CU fun P hP=>tw ?_
 rcases AX (↑n.length) 32 with hc0|hc0
 ·refine tw ?_;exact hP _ ⟨1,rfl⟩
 refine tw ?_
 rcases AZ 128 (↑f.length) with hc1|hc1
 ·refine tw ?_;exact hP _ ⟨4,rfl⟩
 refine tw ?_;exact hP _ ⟨0,rfl⟩
theorem jF(a b:Int):Ah E0 (.call 303 [.agg [.i a,.i b]] []) fun r=>∃ x:Bool,r=some (.ret (.b x) []):=by
 refine CU fun P hP=>tw ?_
 rcases DJ 0 a with hc0|hc0
 ·refine tw ?_
  rcases DJ a 65535 with hc1|hc1
  ·refine tw ?_
   rcases DJ 0 b with hc2|hc2
   ·refine tw ?_;exact hP _ ⟨Ez b 65535,rfl⟩
   refine tw ?_;exact hP _ ⟨false,rfl⟩
  refine tw ?_;exact hP _ ⟨false,rfl⟩
 refine tw ?_;exact hP _ ⟨false,rfl⟩
theorem Pm(l:List (List UInt8))(hl:l.length<=100):∀(n:Nat) (j:Int),0<=j->j+n=l.length->Ah E0 (.loop 305 0 0 0 [(0,.sl (.sl .u8) l),(3,.i j)] []) fun r=>r=some (.fin .ret 0 [(2,.b false)] [])\/r=some (.fin (.exit 0) 0 [] [])
 | 0,j,h0,hj=>by
  refine CU fun P hP=>?_
  refine tw ?_;exact hP _ (Or.inr rfl)
 | n+1,j,h0,hj=>by
  have ih:=Pm l hl n (j+1) zaa zaa
  refine CU fun P hP=>?_
  refine tw ?_;obtain⟨x0,m0,g0⟩:=EY (l:=l) (i:=j) zaa;rw[g0];refine tw ?_
  rcases AX (↑x0.length) 32 with hc1|hc1
  ·refine tw ?_;exact hP _ (Or.inl rfl)
  refine tw ?_;exact hP _ ih
theorem ay(l:List (List UInt8))(hl:l.length<=100):Ah E0 (.call 305 [.sl (.sl .u8) l] []) fun r=>∃ x:Bool,r=some (.ret (.b x) []):=by
 refine CU fun P hP=>tw ?_
 rcases AZ (↑l.length) 2 with hc0|hc0
 ·refine tw ?_;exact hP _ ⟨false,rfl⟩
 refine tw ?_
 rcases AZ 8 (↑l.length) with hc1|hc1
 ·refine tw ?_;exact hP _ ⟨false,rfl⟩
 refine tw ?_
 obtain(yy2|yy2):=Pm l A7 (Int.toNat (↑l.length-(0))) 0 A7 zaa
 ·refine Aq yy2 ?_;exact hP _ ⟨false,rfl⟩
 refine Aq yy2 ?_;exact hP _ ⟨true,rfl⟩
theorem NP(k s0 s1:Int)(d:List UInt8)(n o:Int)(x y z:List UInt8)(bs:List (List UInt8))(h:SN d x y z bs):Ah E0 (.call 273 [asA k s0 s1 d n o x y z bs] []) fun r=>∃ e:Int,r=some (.ret (.i e) []):=by
 have hb:=h.2.2.2.2.1
 refine CU fun P hP=>tw ?_
 rcases AL k 1 with hc0|hc0
 ·subst hc0;refine tw ?_;obtain⟨x1,yy1⟩:=jF s0 s1;refine Aq yy1 ?_
  rcases bo x1 with rfl|rfl
  ·refine tw ?_
   rcases AL (↑d.length) 32 with hc3|hc3
   ·refine tw ?_;exact hP _ ⟨0,rfl⟩
   refine tw ?_;exact hP _ ⟨1,rfl⟩
  refine tw ?_;exact hP _ ⟨1,rfl⟩
 refine tw ?_
 rcases AL k 2 with hc4|hc4
 ·subst hc4;refine tw ?_
  rcases DJ 1 n with hc5|hc5
  ·refine tw ?_
   rcases DJ n 31 with hc6|hc6
   ·refine tw ?_;exact hP _ ⟨0,rfl⟩
   refine tw ?_;exact hP _ ⟨1,rfl⟩
  refine tw ?_;exact hP _ ⟨1,rfl⟩
 refine tw ?_
 rcases AL k 3 with hc7|hc7
 ·subst hc7;refine tw ?_
  rcases DJ 1 n with hc8|hc8
  ·refine tw ?_
   rcases DJ n 255 with hc9|hc9
   ·refine tw ?_;exact hP _ ⟨0,rfl⟩
   refine tw ?_;exact hP _ ⟨1,rfl⟩
  refine tw ?_;exact hP _ ⟨1,rfl⟩
 refine tw ?_
 rcases AL k 4 with hc10|hc10
 ·subst hc10;refine tw ?_
  rcases AZ o 0 with hc11|hc11
  ·refine tw ?_;exact hP _ ⟨1,rfl⟩
  refine tw ?_
  rcases AZ 3 o with hc12|hc12
  ·refine tw ?_;exact hP _ ⟨1,rfl⟩
  refine tw ?_;obtain⟨e13,yy13⟩:=UB y x;refine Aq yy13 ?_;exact hP _ ⟨e13,rfl⟩
 refine tw ?_
 rcases AL k 5 with hc14|hc14
 ·subst hc14;refine tw ?_
  rcases DJ 0 o with hc15|hc15
  ·refine tw ?_
   rcases DJ o 3 with hc16|hc16
   ·refine tw ?_
    rcases DJ 0 n with hc17|hc17
    ·refine tw ?_
     rcases DJ n 1099511627776 with hc18|hc18
     ·refine tw ?_;exact hP _ ⟨0,rfl⟩
     refine tw ?_;exact hP _ ⟨1,rfl⟩
    refine tw ?_;exact hP _ ⟨1,rfl⟩
   refine tw ?_;exact hP _ ⟨1,rfl⟩
  refine tw ?_;exact hP _ ⟨1,rfl⟩
 refine tw ?_
 rcases AL k 6 with hc19|hc19
 ·subst hc19;refine tw ?_;obtain⟨e20,yy20⟩:=UB y z;refine Aq yy20 ?_;exact hP _ ⟨e20,rfl⟩
 refine tw ?_
 rcases AL k 9 with hc21|hc21
 ·subst hc21;refine tw ?_;obtain⟨e22,yy22⟩:=UB y z;refine Aq yy22 ?_;exact hP _ ⟨e22,rfl⟩
 refine tw ?_
 rcases AL k 7 with hc23|hc23
 ·subst hc23;refine tw ?_;exact hP _ ⟨0,rfl⟩
 refine tw ?_
 rcases AL k 8 with hc24|hc24
 ·subst hc24;refine tw ?_;obtain⟨x25,yy25⟩:=ay bs A7;refine Aq yy25 ?_
  rcases bo x25 with rfl|rfl
  ·refine tw ?_;exact hP _ ⟨0,rfl⟩
  refine tw ?_;exact hP _ ⟨1,rfl⟩
 refine tw ?_;exact hP _ ⟨19,rfl⟩
theorem FV(tag:Int)(ls:List (List UInt8))(hn:ls.length<=120)(hm:∀ x∈ls,x.length<=2000):Ah E0 (.call 122 [.i tag,.sl (.sl .u8) ls] []) fun r=>∃ l:List UInt8,(l.length<=300000)/\r=some (.ret (.sl .u8 l) []):=by
 have h:=uB tag ls 2000 hm
 have h2:ls.length*(2000+4)<=120*2004:=Nat.mul_le_mul_right _ hn
 exact⟨_,by omega,Ha tag ls zaa zaa⟩
theorem uF(w:List UInt8)(k s0 s1:Int)(d:List UInt8)(n o:Int)(x y z:List UInt8)(bs:List (List UInt8))(hw:w.length<=2000)(h:SN d x y z bs):Ah E0 (.call 274 [.sl .u8 w,asA k s0 s1 d n o x y z bs] []) fun r=>∃ l:List UInt8,(l.length<=300000)/\r=some (.ret (.sl .u8 l) []):=by
 obtain⟨h1,h2,h3,h4,h5,h6⟩:=h
 refine CU fun P hP=>tw ?_
 rcases AL k 1 with hc0|hc0
 ·subst hc0;refine tw ?_;rw[CP _ _ _ A7];refine tw ?_;rw[CP _ _ _ A7];refine tw ?_;obtain⟨l1,h1_1,yy1⟩:=FV 8 (BM [[ER 1]] [w,BV (BV [] 2 s0) 2 s1,d]) A7 (by(rw[Ag];simp only[List.cons_append,List.nil_append,List.forall_mem_cons,List.not_mem_nil,false_implies,implies_true,and_true,List.length_cons,List.length_nil,AU,AB];first|assumption|omega|(refine⟨by omega,?_⟩;assumption)))
  refine Aq yy1 ?_;exact hP _ ⟨l1,A7,rfl⟩
 refine tw ?_
 rcases AL k 2 with hc2|hc2
 ·subst hc2;refine tw ?_;obtain⟨l3,h3_1,yy3⟩:=FV 8 (BM [[ER 2]] [w,[ER n]]) A7 (by(rw[Ag];simp only[List.cons_append,List.nil_append,List.forall_mem_cons,List.not_mem_nil,false_implies,implies_true,and_true,List.length_cons,List.length_nil,AU,AB];first|assumption|omega|(refine⟨by omega,?_⟩;assumption)))
  refine Aq yy3 ?_;exact hP _ ⟨l3,A7,rfl⟩
 refine tw ?_
 rcases AL k 3 with hc4|hc4
 ·subst hc4;refine tw ?_;obtain⟨l5,h5_1,yy5⟩:=FV 8 (BM [[ER 3]] [w,[ER n]]) A7 (by(rw[Ag];simp only[List.cons_append,List.nil_append,List.forall_mem_cons,List.not_mem_nil,false_implies,implies_true,and_true,List.length_cons,List.length_nil,AU,AB];first|assumption|omega|(refine⟨by omega,?_⟩;assumption)))
  refine Aq yy5 ?_;exact hP _ ⟨l5,A7,rfl⟩
 refine tw ?_
 rcases AL k 4 with hc6|hc6
 ·subst hc6;refine tw ?_;obtain⟨l7,h7_1,yy7⟩:=FV 8 (BM [[ER 4]] [w,[ER o],x,y]) A7 (by(rw[Ag];simp only[List.cons_append,List.nil_append,List.forall_mem_cons,List.not_mem_nil,false_implies,implies_true,and_true,List.length_cons,List.length_nil,AU,AB];first|assumption|omega|(refine⟨by omega,?_⟩;assumption)))
  refine Aq yy7 ?_;exact hP _ ⟨l7,A7,rfl⟩
 refine tw ?_
 rcases AL k 5 with hc8|hc8
 ·subst hc8;refine tw ?_;rw[CP _ _ _ A7];refine tw ?_;obtain⟨l9,h9_1,yy9⟩:=FV 8 (BM [[ER 5]] [w,[ER o],BV [] 8 n]) A7 (by(rw[Ag];simp only[List.cons_append,List.nil_append,List.forall_mem_cons,List.not_mem_nil,false_implies,implies_true,and_true,List.length_cons,List.length_nil,AU,AB];first|assumption|omega|(refine⟨by omega,?_⟩;assumption)))
  refine Aq yy9 ?_;exact hP _ ⟨l9,A7,rfl⟩
 refine tw ?_
 rcases AL k 6 with hc10|hc10
 ·subst hc10;refine tw ?_;obtain⟨l11,h11_1,yy11⟩:=FV 8 (BM [[ER 6]] [w,y,z]) A7 (by(rw[Ag];simp only[List.cons_append,List.nil_append,List.forall_mem_cons,List.not_mem_nil,false_implies,implies_true,and_true,List.length_cons,List.length_nil,AU,AB];first|assumption|omega|(refine⟨by omega,?_⟩;assumption)))
  refine Aq yy11 ?_;exact hP _ ⟨l11,A7,rfl⟩
 refine tw ?_
 rcases AL k 7 with hc12|hc12
 ·subst hc12;refine tw ?_;obtain⟨l13,h13_1,yy13⟩:=FV 8 (BM [[ER 7]] [w]) A7 (by(rw[Ag];simp only[List.cons_append,List.nil_append,List.forall_mem_cons,List.not_mem_nil,false_implies,implies_true,and_true,List.length_cons,List.length_nil,AU,AB];first|assumption|omega|(refine⟨by omega,?_⟩;assumption)))
  refine Aq yy13 ?_;exact hP _ ⟨l13,A7,rfl⟩
 refine tw ?_
 rcases AL k 8 with hc14|hc14
 ·subst hc14;refine tw ?_;obtain⟨l15,h15_1,yy15⟩:=FV 8 (BM [[ER 8]] bs) A7 (by(rw[Ag];simp only[List.cons_append,List.nil_append,List.forall_mem_cons,List.not_mem_nil,false_implies,implies_true,and_true,List.length_cons,List.length_nil,AU,AB];first|assumption|omega|(refine⟨by omega,?_⟩;assumption)))
  refine Aq yy15 ?_;exact hP _ ⟨l15,A7,rfl⟩
 refine tw ?_
 rcases AL k 9 with hc16|hc16
 ·subst hc16;refine tw ?_;obtain⟨l17,h17_1,yy17⟩:=FV 8 (BM [[ER 9]] [y,z]) A7 (by(rw[Ag];simp only[List.cons_append,List.nil_append,List.forall_mem_cons,List.not_mem_nil,false_implies,implies_true,and_true,List.length_cons,List.length_nil,AU,AB];first|assumption|omega|(refine⟨by omega,?_⟩;assumption)))
  refine Aq yy17 ?_;exact hP _ ⟨l17,A7,rfl⟩
 refine tw ?_;rw[Ha _ _ A7 A7];refine tw ?_;exact hP _ ⟨Ar 8 [[ER k]],A7,rfl⟩
theorem EF(w:List UInt8)(k s0 s1:Int)(d:List UInt8)(n o:Int)(x y z:List UInt8)(bs:List (List UInt8))(hw:w.length<=2000)(h:SN d x y z bs):Ah E0 (.call 244 [.sl .u8 w,asA k s0 s1 d n o x y z bs] []) fun r=>∃ l:List UInt8,(l.length<=32)/\r=some (.ret (.sl .u8 l) []):=by
 refine CU fun P hP=>tw ?_
 obtain⟨e0,yy0⟩:=NP k s0 s1 d n o x y z bs A7;refine Aq yy0 ?_
 rcases AX e0 0 with hc1|hc1
 ·refine tw ?_;exact hP _ ⟨[],A7,rfl⟩
 subst hc1;refine tw ?_;obtain⟨l2,h2_1,yy2⟩:=uF w k s0 s1 d n o x y z bs A7 A7;refine Aq yy2 ?_;rw[Hz _ A7];refine tw ?_;exact hP _ ⟨sha256 l2,A7,rfl⟩
theorem VO(b:List UInt8)(hb:b.length<=10000):∀(n:Nat) (j:Int),0<=j->j+n=b.length->Ah E0 (.loop 323 0 0 0 [(0,.sl .u8 b),(3,.i j)] []) fun r=>∃ i:Int,(0<=i/\i<=b.length)/\r=some (.fin (.exit 0) 0 [(0,.sl .u8 b),(3,.i i)] [])
 | 0,j,h0,hj=>by
  refine CU fun P hP=>?_
  refine tw ?_;exact hP _ ⟨j,A7,rfl⟩
 | n+1,j,h0,hj=>by
  have ih:=VO b hb n (j+1) zaa zaa
  refine CU fun P hP=>?_
  refine tw ?_;obtain⟨x0,m0,g0⟩:=EY (l:=b) (i:=j) zaa;rw[g0];refine tw ?_
  rcases AL (↑x0.toNat) (↑(UInt8.ofNat 0).toNat) with hc1|hc1
  ·refine tw ?_;exact hP _ ih
  refine tw ?_;exact hP _ ⟨j,A7,rfl⟩
theorem Xg(a b:List UInt8)(ha:a.length<=10000)(hb:b.length=a.length):∀(n:Nat) (j:Int),0<=j->j+n=a.length->Ah E0 (.loop 322 0 0 0 [(5,.sl .u8 a),(6,.sl .u8 b),(7,.i j)] []) fun r=>(∃ x:Bool,r=some (.fin .ret 0 [(4,.b x)] []))\/r=some (.fin (.exit 0) 0 [] [])
 | 0,j,h0,hj=>by
  refine CU fun P hP=>?_
  refine tw ?_;exact hP _ (Or.inr rfl)
 | n+1,j,h0,hj=>by
  have ih:=Xg a b ha hb n (j+1) zaa zaa
  refine CU fun P hP=>?_
  refine tw ?_;obtain⟨x0,m0,g0⟩:=EY (l:=a) (i:=j) zaa;rw[g0];refine tw ?_;obtain⟨x1,m1,g1⟩:=EY (l:=b) (i:=j) zaa;rw[g1];refine tw ?_
  rcases AX (↑x0.toNat) (↑x1.toNat) with hc2|hc2
  ·refine tw ?_;rw[g0];refine tw ?_;rw[g1]
   conv=>arg 1;whnf
   try dsimp -iota -beta -eta -zeta only
   rw[drw zas];conv=>arg 1;whnf
   exact hP _ (Or.inl ⟨Bg BinOp.lss x0 x1,rfl⟩)
  refine tw ?_;exact hP _ ih
theorem aA(b:List UInt8)(hb:b.length<=10000):Ah E0 (.call 323 [.sl .u8 b] []) fun r=>∃ l:List UInt8,(l.length<=b.length)/\r=some (.ret (.sl .u8 l) []):=by
 refine CU fun P hP=>tw ?_
 obtain⟨i0,⟨h0_1,h0_2⟩,yy0⟩:=VO b A7 (Int.toNat (↑b.length-(0))) 0 A7 zaa;refine Aq yy0 ?_;exact hP _ ⟨List.take (Bj b-i0).toNat (List.drop i0.toNat b),A7,rfl⟩
theorem MQ(a b:List UInt8)(ha:a.length<=10000)(hb:b.length<=10000):Ah E0 (.call 322 [.sl .u8 a,.sl .u8 b] []) fun r=>∃ x:Bool,r=some (.ret (.b x) []):=by
 refine CU fun P hP=>tw ?_
 obtain⟨l0,h0_1,yy0⟩:=aA a A7;refine Aq yy0 ?_;obtain⟨l1,h1_1,yy1⟩:=aA b A7;refine Aq yy1 ?_
 rcases AX (↑l0.length) (↑l1.length) with hc2|hc2
 ·refine tw ?_;exact hP _ ⟨FD (Bj l0) (Bj l1),rfl⟩
 refine tw ?_
 obtain(⟨x3,yy3⟩|yy3):=Xg l0 l1 A7 A7 (Int.toNat (↑l0.length-(0))) 0 A7 zaa
 ·refine Aq yy3 ?_;exact hP _ ⟨x3,rfl⟩
 refine Aq yy3 ?_;exact hP _ ⟨false,rfl⟩
theorem jG(o:Int)(a b:List UInt8)(ha:a.length<=10000)(hb:b.length<=10000):Ah E0 (.call 321 [.i o,.sl .u8 a,.sl .u8 b] []) fun r=>∃ x:Bool,r=some (.ret (.b x) []):=by
 refine CU fun P hP=>tw ?_
 rcases AL o 0 with hc0|hc0
 ·subst hc0;refine tw ?_;obtain⟨x1,yy1⟩:=MQ a b A7 A7;refine Aq yy1 ?_
  rcases bo x1 with rfl|rfl
  ·refine tw ?_;exact hP _ ⟨false,rfl⟩
  refine tw ?_;obtain⟨x3,yy3⟩:=MQ b a A7 A7;rw[yy3]
  conv=>arg 1;whnf
  exact hP _ ⟨DV x3,rfl⟩
 refine tw ?_
 rcases AL o 1 with hc4|hc4
 ·subst hc4;refine tw ?_;obtain⟨x5,yy5⟩:=MQ a b A7 A7;refine Aq yy5 ?_
  rcases bo x5 with rfl|rfl
  ·refine tw ?_;exact hP _ ⟨true,rfl⟩
  refine tw ?_;obtain⟨x7,yy7⟩:=MQ b a A7 A7;refine Aq yy7 ?_;exact hP _ ⟨x7,rfl⟩
 refine tw ?_
 rcases AL o 2 with hc8|hc8
 ·subst hc8;refine tw ?_;obtain⟨x9,yy9⟩:=MQ a b A7 A7;refine Aq yy9 ?_;exact hP _ ⟨x9,rfl⟩
 refine tw ?_
 rcases AL o 3 with hc10|hc10
 ·subst hc10;refine tw ?_;obtain⟨x11,yy11⟩:=MQ a b A7 A7;rw[yy11]
  conv=>arg 1;whnf
  exact hP _ ⟨DV x11,rfl⟩
 refine tw ?_;exact hP _ ⟨false,rfl⟩
end
end Go.Proofs.YtnhgnfdbdflhcaaGreatDoor
