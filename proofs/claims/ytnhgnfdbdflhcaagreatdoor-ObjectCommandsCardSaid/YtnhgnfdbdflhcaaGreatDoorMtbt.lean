/-
  Own texts, laid together for this claim: contracts of functions of the program and its references, used by the statements of this seat.
-/
import Derived.Test.YtnhgnfdbdflhcaaGreatDoorMtab
import Derived.Test.YtnhgnfdbdflhcaaGreatDoorMtae
import Derived.Test.YtnhgnfdbdflhcaaGreatDoorMtaf
import Derived.Test.YtnhgnfdbdflhcaaGreatDoorMtah
import Derived.Test.YtnhgnfdbdflhcaaGreatDoorMtai
import Derived.Test.YtnhgnfdbdflhcaaGreatDoorMtaj
import Derived.Test.YtnhgnfdbdflhcaaGreatDoorMtbd
import Derived.Test.YtnhgnfdbdflhcaaGreatDoorMtbr
import Derived.Test.YtnhgnfdbdflhcaaGreatDoorMtbs
set_option linter.all false
set_option maxHeartbeats 40000000
set_option maxRecDepth 100000
namespace Go.Proofs.YtnhgnfdbdflhcaaGreatDoor
open Go Go.Ax Go.Eng
variable {a k:Int}(s:MS)(c:Int)(hs:List Int)(az:List (El AY))(is:List Int)(bs:List (List UInt8))
section
attribute [local irreducible] Cc Dn D7 DU DD BA Dp F7 FY FD Ez Ci CS DK DV and' DW DL C9 BR Bh CB CG BG BI Aw BC Dq Fh Dt ER DX Bl CE Bv Bz Bi Az Bg BK Bj BO Du Bc DF BZ BM Cj Di fits Dv Dk Ac Am BH
attribute [local irreducible] Dw CJ Be nameB EL Eh Ar ET E8 Ea ES F8 BV GX Eg Fv FU EE
theorem A4B(hb:Both 8 60 s (rq 9 hs az is bs) a k):Ah E0 (.call 22 [av s,rq 9 hs az is bs] []) fun r=>r=some (.ret (.b true) []):=by
 obtain⟨t,e,is',bs',hk,ho,e1,e2⟩:=hb
 have e3:=IA e is' bs' [] zbG zbA (fun x hx=>by have:=ho.2.2 x hx;omega) zam zam
 have e4:=Lp t hk
 refine CU fun P hP=>?_
 refine tw ?_
 rw[e1]
 refine tw ?_
 rw[e2]
 refine tw ?_
 rw[e3]
 refine tw ?_
 rw[e4]
 refine tw ?_
 exact hP _ rfl
theorem A13(hb:Both 61 62 s (rq 10 hs az is bs) a k):Ah E0 (.call 22 [av s,rq 10 hs az is bs] []) fun r=>r=some (.ret (.b true) []):=by
 obtain⟨t,e,is',bs',hk,ho,e1,e2⟩:=hb
 have e3:=IA e is' bs' [] zbG zbA (fun x hx=>by have:=ho.2.2 x hx;omega) zam zam
 have e4:=Lp t hk
 refine CU fun P hP=>?_
 refine tw ?_
 rw[e1]
 refine tw ?_
 rw[e2]
 refine tw ?_
 rw[e3]
 refine tw ?_
 rw[e4]
 refine tw ?_
 exact hP _ rfl
theorem A14(hb:Both 63 64 s (rq 11 hs az is bs) a k):Ah E0 (.call 22 [av s,rq 11 hs az is bs] []) fun r=>r=some (.ret (.b true) []):=by
 obtain⟨t,e,is',bs',hk,ho,e1,e2⟩:=hb
 have e3:=IA e is' bs' [] zbG zbA (fun x hx=>by have:=ho.2.2 x hx;omega) zam zam
 have e4:=Lp t hk
 refine CU fun P hP=>?_
 refine tw ?_
 rw[e1]
 refine tw ?_
 rw[e2]
 refine tw ?_
 rw[e3]
 refine tw ?_
 rw[e4]
 refine tw ?_
 exact hP _ rfl
theorem A15(hb:Both 65 66 s (rq 12 hs az is bs) a k):Ah E0 (.call 22 [av s,rq 12 hs az is bs] []) fun r=>r=some (.ret (.b true) []):=by
 obtain⟨t,e,is',bs',hk,ho,e1,e2⟩:=hb
 have e3:=IA e is' bs' [] zbG zbA (fun x hx=>by have:=ho.2.2 x hx;omega) zam zam
 have e4:=Lp t hk
 refine CU fun P hP=>?_
 refine tw ?_
 rw[e1]
 refine tw ?_
 rw[e2]
 refine tw ?_
 rw[e3]
 refine tw ?_
 rw[e4]
 refine tw ?_
 exact hP _ rfl
theorem A16(hb:Both 24 67 s (rq 13 hs az is bs) a k):Ah E0 (.call 22 [av s,rq 13 hs az is bs] []) fun r=>r=some (.ret (.b true) []):=by
 obtain⟨t,e,is',bs',hk,ho,e1,e2⟩:=hb
 have e3:=IA e is' bs' [] zbG zbA (fun x hx=>by have:=ho.2.2 x hx;omega) zam zam
 have e4:=Lp t hk
 refine CU fun P hP=>?_
 refine tw ?_
 rw[e1]
 refine tw ?_
 rw[e2]
 refine tw ?_
 rw[e3]
 refine tw ?_
 rw[e4]
 refine tw ?_
 exact hP _ rfl
theorem A17(hb:Both 68 69 s (rq 14 hs az is bs) a k):Ah E0 (.call 22 [av s,rq 14 hs az is bs] []) fun r=>r=some (.ret (.b true) []):=by
 obtain⟨t,e,is',bs',hk,ho,e1,e2⟩:=hb
 have e3:=IA e is' bs' [] zbG zbA (fun x hx=>by have:=ho.2.2 x hx;omega) zam zam
 have e4:=Lp t hk
 refine CU fun P hP=>?_
 refine tw ?_
 rw[e1]
 refine tw ?_
 rw[e2]
 refine tw ?_
 rw[e3]
 refine tw ?_
 rw[e4]
 refine tw ?_
 exact hP _ rfl
theorem A18(hb:Both 13 15 s (rq 15 hs az is bs) a k):Ah E0 (.call 22 [av s,rq 15 hs az is bs] []) fun r=>r=some (.ret (.b true) []):=by
 obtain⟨t,e,is',bs',hk,ho,e1,e2⟩:=hb
 have e3:=IA e is' bs' [] zbG zbA (fun x hx=>by have:=ho.2.2 x hx;omega) zam zam
 have e4:=Lp t hk
 refine CU fun P hP=>?_
 refine tw ?_
 rw[e1]
 refine tw ?_
 rw[e2]
 refine tw ?_
 rw[e3]
 refine tw ?_
 rw[e4]
 refine tw ?_
 exact hP _ rfl
end
section
attribute [local irreducible] Cc Dn D7 DU DD BA Dp F7 FY FD Ez Ci CS DK DV and' DW DL C9 BR Bh CB CG BG BI Aw BC Dq Fh Dt ER DX Bl CE Bv Bz Bi Az Bg BK Bj BO Du Bc DF BZ BM Cj Di fits Dv Dk Ac Am BH
attribute [local irreducible] Dw CJ Be nameB EL Eh Ar ET E8 Ea ES F8 BV GX Eg Fv FU EE
theorem A4C(h:Int)(az:List (El AY))(is:List Int)(bs:List (List UInt8))(hi:Kp a k s)(hR:Rok c [h] az is bs)(he:Y E0 (.call 58 [rq c [h] az is bs] [])=some (.ret (.i 0) [])):Ah E0 (.call 21 [av s,rq c [h] az is bs] []) fun r=>∃ b:Bool,(b=true->9<=c/\c<=15/\(c=9->0<=h/\h<=2)/\(c=10\/c=11\/c=13\/c=14\/c=15->0<=Jl h s.ob))/\r=some (.ret (.b b) []):=by
 have hol:=hi.obl
 refine CU fun P hP=>?_
 refine tw ?_
 rw[he]
 refine tw ?_
 rcases AL c 9 with hc0|hc0
 ·
  subst hc0
  refine tw ?_
  rcases DJ 0 h with hc1|hc1
  ·
   refine tw ?_
   (refine hP _ ⟨_,fun hb=>?_,rfl⟩;try simp only[Dz,EU,Jd,decide_eq_true_eq] at hb;first|omega|cases hb)
  refine tw ?_
  exact hP _ ⟨false,fun hb=>(by cases hb),rfl⟩
 refine tw ?_
 rcases AL c 10 with hc2|hc2
 ·
  subst hc2
  refine tw ?_
  rw[Eu _ _ _ _ _ _ _ _ _ _ _ _ _ _ _ _ _ _ _ _ _ _ _ _ _ _ _ _ _ _ _ zaa]
  refine tw ?_
  (refine hP _ ⟨_,fun hb=>?_,rfl⟩;try simp only[Dz,EU,Jd,decide_eq_true_eq] at hb;first|omega|cases hb)
 refine tw ?_
 rcases AL c 11 with hc3|hc3
 ·
  subst hc3
  refine tw ?_
  rw[Eu _ _ _ _ _ _ _ _ _ _ _ _ _ _ _ _ _ _ _ _ _ _ _ _ _ _ _ _ _ _ _ zaa]
  refine tw ?_
  (refine hP _ ⟨_,fun hb=>?_,rfl⟩;try simp only[Dz,EU,Jd,decide_eq_true_eq] at hb;first|omega|cases hb)
 refine tw ?_
 rcases AL c 13 with hc4|hc4
 ·
  subst hc4
  refine tw ?_
  rw[Eu _ _ _ _ _ _ _ _ _ _ _ _ _ _ _ _ _ _ _ _ _ _ _ _ _ _ _ _ _ _ _ zaa]
  refine tw ?_
  (refine hP _ ⟨_,fun hb=>?_,rfl⟩;try simp only[Dz,EU,Jd,decide_eq_true_eq] at hb;first|omega|cases hb)
 refine tw ?_
 rcases AL c 14 with hc5|hc5
 ·
  subst hc5
  refine tw ?_
  rw[Eu _ _ _ _ _ _ _ _ _ _ _ _ _ _ _ _ _ _ _ _ _ _ _ _ _ _ _ _ _ _ _ zaa]
  refine tw ?_
  (refine hP _ ⟨_,fun hb=>?_,rfl⟩;try simp only[Dz,EU,Jd,decide_eq_true_eq] at hb;first|omega|cases hb)
 refine tw ?_
 rcases AL c 15 with hc6|hc6
 ·
  subst hc6
  refine tw ?_
  rw[Eu _ _ _ _ _ _ _ _ _ _ _ _ _ _ _ _ _ _ _ _ _ _ _ _ _ _ _ _ _ _ _ zaa]
  refine tw ?_
  (refine hP _ ⟨_,fun hb=>?_,rfl⟩;try simp only[Dz,EU,Jd,decide_eq_true_eq] at hb;first|omega|cases hb)
 refine tw ?_
 (refine hP _ ⟨_,fun hb=>?_,rfl⟩;try simp only[Dz,EU,Jd,decide_eq_true_eq] at hb;first|omega|cases hb)
theorem A4D(hi:Kp a k s)(hc:c≠9/\c≠10/\c≠11/\c≠13/\c≠14/\c≠15)(he:Y E0 (.call 58 [rq c hs az is bs] [])=some (.ret (.i 0) [])):Ah E0 (.call 21 [av s,rq c hs az is bs] []) fun r=>∃ b:Bool,(b=true->c=12)/\r=some (.ret (.b b) []):=by
 obtain⟨c1,c2,c3,c4,c5,c6⟩:=hc
 refine CU fun P hP=>?_
 refine tw ?_
 rw[he]
 refine tw ?_
 (refine hP _ ⟨_,fun hb=>?_,rfl⟩;try simp only[Dz,EU,Jd,decide_eq_true_eq] at hb;first|omega|cases hb)
theorem A4E(e:Int)(h0:e≠0)(he:Y E0 (.call 58 [rq c hs az is bs] [])=some (.ret (.i e) [])):Ah E0 (.call 21 [av s,rq c hs az is bs] []) fun r=>r=some (.ret (.b false) []):=by
 refine CU fun P hP=>?_
 refine tw ?_
 rw[he]
 refine tw ?_
 exact hP _ rfl
end
end Go.Proofs.YtnhgnfdbdflhcaaGreatDoor
