/-
  Own texts, laid together for this claim: contracts of functions of the program and its references, used by the statements of this seat.
-/
import Derived.Test.YtnhgnfdbdflhcaaGreatDoorMtab
import Derived.Test.YtnhgnfdbdflhcaaGreatDoorMtae
import Derived.Test.YtnhgnfdbdflhcaaGreatDoorMtaf
import Derived.Test.YtnhgnfdbdflhcaaGreatDoorMtah
import Derived.Test.YtnhgnfdbdflhcaaGreatDoorMtai
import Derived.Test.YtnhgnfdbdflhcaaGreatDoorMtaj
import Derived.Test.YtnhgnfdbdflhcaaGreatDoorMtba
import Derived.Test.YtnhgnfdbdflhcaaGreatDoorMtbd
import Derived.Test.YtnhgnfdbdflhcaaGreatDoorMtbg
import Derived.Test.YtnhgnfdbdflhcaaGreatDoorMtbj
import Derived.Test.YtnhgnfdbdflhcaaGreatDoorMtbk
import Derived.Test.YtnhgnfdbdflhcaaGreatDoorMtbl
set_option linter.all false
set_option maxHeartbeats 40000000
set_option maxRecDepth 100000
namespace Go.Proofs.YtnhgnfdbdflhcaaGreatDoor
open Go Go.Ax Go.Eng
variable {a k:Int}(s:MS)(lo hA ia hB ib ya ic:Int)(yb yc ba:List UInt8)
section
attribute [local irreducible] Cc Dn D7 DU DD BA Dp F7 FY FD Ez Ci CS DK DV and' DW DL C9 BR Bh CB CG BG BI Aw BC Dq Fh Dt ER DX Bl CE Bv Bz Bi Az Bg BK Bj BO Du Bc DF BZ BM Cj Di fits Dv Dk Ac Am BH
attribute [local irreducible] Dw CJ Be nameB EL Eh Ar ET E8 Ea ES F8 BV GX Eg Fv FU EE Fa Ej Ho I5 En
theorem vN(hi:Kp a k s)(hk:k<=900)(uhA:0<=hA/\hA<=65535)(hz:0<=Jl hA s.ob):Ah E0 (.call 255 [av s,rq 13 [hA] [(ya,yb,yc)] [] []] []) fun r=>∃(t:MS) (e:Int) (is':List Int) (bs':List (List UInt8)),Kp a (k+1) t/\r=some (.ret (.tup [av t,rp e is' bs' []]) []):=by
 refine CU fun P hP=>tw ?_
 obtain⟨t0,e0_1,is'0_2,bs'0_3,h0_4,yy0⟩:=jY s 13 hA [] [(ya,yb,yc)] [] [] hi A7 A7 A7;refine Aq yy0 ?_;exact hP _ ⟨t0,e0_1,is'0_2,bs'0_3,A7,rfl⟩
theorem vO(hi:Kp a k s)(hk:k<=900)(uhA:0<=hA/\hA<=65535)(hz:0<=Jl hA s.ob):Ah E0 (.call 208 [av s,.i lo,rq 13 [hA] [(ya,yb,yc)] [] []] []) fun r=>∃(t:MS) (e:Int) (is':List Int) (bs':List (List UInt8)),Kp a (k+1) t/\r=some (.ret (.tup [av t,rp e is' bs' []]) []):=by
 refine CU fun P hP=>tw ?_
 obtain⟨t0,e0_1,is'0_2,bs'0_3,h0_4,yy0⟩:=vN s hA ya yb yc hi A7 A7 A7;refine Aq yy0 ?_;exact hP _ ⟨t0,e0_1,is'0_2,bs'0_3,A7,rfl⟩
theorem vP(hi:Kp a k s)(hk:k<=900)(uhA:0<=hA/\hA<=65535)(uba:ba.length<=1024)(hz:0<=Jl hA s.ob):Ah E0 (.call 255 [av s,rq 14 [hA] [(ya,yb,yc)] [] [ba]] []) fun r=>∃(t:MS) (e:Int) (is':List Int) (bs':List (List UInt8)),Kp a (k+1) t/\r=some (.ret (.tup [av t,rp e is' bs' []]) []):=by
 refine CU fun P hP=>tw ?_
 obtain⟨t0,e0_1,is'0_2,bs'0_3,h0_4,yy0⟩:=uh s 14 hA [] [(ya,yb,yc)] [] ba [] hi A7 A7 A7 A7 A7;refine Aq yy0 ?_;exact hP _ ⟨t0,e0_1,is'0_2,bs'0_3,A7,rfl⟩
theorem vS(hi:Kp a k s)(hk:k<=900)(uhA:0<=hA/\hA<=65535)(uba:ba.length<=1024)(hz:0<=Jl hA s.ob):Ah E0 (.call 208 [av s,.i lo,rq 14 [hA] [(ya,yb,yc)] [] [ba]] []) fun r=>∃(t:MS) (e:Int) (is':List Int) (bs':List (List UInt8)),Kp a (k+1) t/\r=some (.ret (.tup [av t,rp e is' bs' []]) []):=by
 refine CU fun P hP=>tw ?_
 obtain⟨t0,e0_1,is'0_2,bs'0_3,h0_4,yy0⟩:=vP s hA ya yb yc ba hi A7 A7 A7 A7;refine Aq yy0 ?_;exact hP _ ⟨t0,e0_1,is'0_2,bs'0_3,A7,rfl⟩
theorem vT(hi:Kp a k s)(hk:k<=900)(uhA:0<=hA/\hA<=65535)(uia:0<=ia/\ia<=1099511627776)(uib:0<=ib/\ib<=1099511627776)(uba:ba.length<=1024)(hz:0<=Jl hA s.ob):Ah E0 (.call 255 [av s,rq 15 [hA] [(ya,yb,yc)] [ia,ib] [ba]] []) fun r=>∃(t:MS) (e:Int) (is':List Int) (bs':List (List UInt8)),Kp a (k+1) t/\r=some (.ret (.tup [av t,rp e is' bs' []]) []):=by
 refine CU fun P hP=>tw ?_
 obtain⟨t0,e0_1,is'0_2,bs'0_3,h0_4,yy0⟩:=oz s 15 hA ia ib [] [(ya,yb,yc)] ba [] hi A7 A7 A7 A7 A7;refine Aq yy0 ?_;exact hP _ ⟨t0,e0_1,is'0_2,bs'0_3,A7,rfl⟩
theorem vU(hi:Kp a k s)(hk:k<=900)(uhA:0<=hA/\hA<=65535)(uia:0<=ia/\ia<=1099511627776)(uib:0<=ib/\ib<=1099511627776)(uba:ba.length<=1024)(hz:0<=Jl hA s.ob):Ah E0 (.call 208 [av s,.i lo,rq 15 [hA] [(ya,yb,yc)] [ia,ib] [ba]] []) fun r=>∃(t:MS) (e:Int) (is':List Int) (bs':List (List UInt8)),Kp a (k+1) t/\r=some (.ret (.tup [av t,rp e is' bs' []]) []):=by
 refine CU fun P hP=>tw ?_
 obtain⟨t0,e0_1,is'0_2,bs'0_3,h0_4,yy0⟩:=vT s hA ia ib ya yb yc ba hi A7 A7 A7 A7 A7 A7;refine Aq yy0 ?_;exact hP _ ⟨t0,e0_1,is'0_2,bs'0_3,A7,rfl⟩
theorem vV(hi:Kp a k s)(hk:k<=900)(uia:0<=ia/\ia<=1099511627776):Ah E0 (.call 208 [av s,.i lo,rq 16 [] [] [ia] []] []) fun r=>∃(t:MS) (e:Int) (is':List Int) (bs':List (List UInt8)),Kp a (k+1) t/\r=some (.ret (.tup [av t,rp e is' bs' []]) []):=by
 refine CU fun P hP=>tw ?_
 obtain⟨t0,e0_1,is'0_2,bs'0_3,h0_4,yy0⟩:=pR s ia [] [] [] hi A7 A7;refine Aq yy0 ?_;exact hP _ ⟨t0,e0_1,is'0_2,bs'0_3,A7,rfl⟩
theorem vW(id ie ig:Int)(bs:List (List UInt8))(hi:Kp a k s)(hk:k<=900)(uia:0<=ia/\ia<=1099511627776)(uib:0<=ib/\ib<=1099511627776)(uic:0<=ic/\ic<=1099511627776)(uid:0<=id/\id<=1099511627776)(uie:0<=ie/\ie<=1099511627776)(uig:0<=ig/\ig<=1099511627776)(ubs:bs.length<=8)(umb:∀ x∈bs,x.length<=2000):Ah E0 (.call 208 [av s,.i lo,rq 17 [] [] [ia,ib,ic,id,ie,ig] bs] []) fun r=>∃(t:MS) (e:Int) (is':List Int) (bs':List (List UInt8)),Kp a (k+1) t/\r=some (.ret (.tup [av t,rp e is' bs' []]) []):=by
 refine CU fun P hP=>tw ?_
 obtain⟨t0,e0_1,is'0_2,bs'0_3,h0_4,yy0⟩:=pU s ia ib ic id ie ig [] [] bs hi A7 A7 A7 A7;refine Aq yy0 ?_;exact hP _ ⟨t0,e0_1,is'0_2,bs'0_3,A7,rfl⟩
theorem vX(hi:Kp a k s)(hk:k<=900)(uhA:0<=hA/\hA<=65535)(uia:0<=ia/\ia<=1099511627776)(uib:0<=ib/\ib<=1099511627776)(uba:ba.length<=1024):Ah E0 (.call 208 [av s,.i lo,rq 18 [hA] [(ya,yb,yc)] [ia,ib] [ba]] []) fun r=>∃(t:MS) (e:Int) (is':List Int) (bs':List (List UInt8)),Kp a (k+1) t/\r=some (.ret (.tup [av t,rp e is' bs' []]) []):=by
 refine CU fun P hP=>tw ?_
 obtain⟨t0,e0_1,is'0_2,bs'0_3,h0_4,yy0⟩:=pV s hA ia ib ya yb yc ba hi A7 A7 A7;refine Aq yy0 ?_;exact hP _ ⟨t0,e0_1,is'0_2,bs'0_3,A7,rfl⟩
theorem vY(bb bc:List UInt8)(hi:Kp a k s)(hk:k<=900)(uia:0<=ia/\ia<=1099511627776)(uba:ba.length<=1024)(ubb:bb.length<=1024)(ubc:bc.length<=1024):Ah E0 (.call 208 [av s,.i lo,rq 19 [] [] [ia] [ba,bb,bc]] []) fun r=>∃(t:MS) (e:Int) (is':List Int) (bs':List (List UInt8)),Kp a (k+1) t/\r=some (.ret (.tup [av t,rp e is' bs' []]) []):=by
 refine CU fun P hP=>?_
 rw[Ad]
 conv=>arg 1;whnf
 rw[AA zaa]
 conv=>arg 1;whnf
 rw[AA zaa]
 conv=>arg 1;whnf
 rw[AA zaa]
 conv=>arg 1;whnf
 rw[AA zaa]
 conv=>arg 1;whnf
 rw[AA zaa]
 conv=>arg 1;whnf
 rw[AA zaa]
 conv=>arg 1;whnf
 rw[AA zaa]
 conv=>arg 1;whnf
 rw[AA zaa]
 conv=>arg 1;whnf
 rw[AA zaa]
 conv=>arg 1;whnf
 rw[AA zaa]
 conv=>arg 1;whnf
 rw[AA zaa]
 conv=>arg 1;whnf
 rw[AA zaa]
 conv=>arg 1;whnf
 rw[AA zaa]
 conv=>arg 1;whnf
 rw[AA zaa]
 conv=>arg 1;whnf
 rw[AA zaa]
 conv=>arg 1;whnf
 rw[AA zaa]
 conv=>arg 1;whnf
 rw[AA zaa]
 conv=>arg 1;whnf
 rw[EH zaa]
 conv=>arg 1;whnf
 rw[Ad]
 conv=>arg 1;whnf
 try dsimp -iota -beta -eta -zeta only
 rw[AQ];obtain⟨t0,e0_1,is'0_2,bs'0_3,h0_4,yy0⟩:=pW s ia [] [] ba bb bc hi A7 A7 A7 A7 A7;refine Aq yy0 ?_;exact hP _ ⟨t0,e0_1,is'0_2,bs'0_3,A7,rfl⟩
theorem vZ(hi:Kp a k s)(hk:k<=900)(uia:0<=ia/\ia<=1099511627776):Ah E0 (.call 208 [av s,.i lo,rq 20 [] [] [ia] []] []) fun r=>∃(t:MS) (e:Int) (is':List Int) (bs':List (List UInt8)),Kp a (k+1) t/\r=some (.ret (.tup [av t,rp e is' bs' []]) []):=by
 refine CU fun P hP=>?_
 rw[Ad]
 conv=>arg 1;whnf
 rw[AA zaa]
 conv=>arg 1;whnf
 rw[AA zaa]
 conv=>arg 1;whnf
 rw[AA zaa]
 conv=>arg 1;whnf
 rw[AA zaa]
 conv=>arg 1;whnf
 rw[AA zaa]
 conv=>arg 1;whnf
 rw[AA zaa]
 conv=>arg 1;whnf
 rw[AA zaa]
 conv=>arg 1;whnf
 rw[AA zaa]
 conv=>arg 1;whnf
 rw[AA zaa]
 conv=>arg 1;whnf
 rw[AA zaa]
 conv=>arg 1;whnf
 rw[AA zaa]
 conv=>arg 1;whnf
 rw[AA zaa]
 conv=>arg 1;whnf
 rw[AA zaa]
 conv=>arg 1;whnf
 rw[AA zaa]
 conv=>arg 1;whnf
 rw[AA zaa]
 conv=>arg 1;whnf
 rw[AA zaa]
 conv=>arg 1;whnf
 rw[AA zaa]
 conv=>arg 1;whnf
 rw[AA zaa]
 conv=>arg 1;whnf
 rw[Ad]
 conv=>arg 1;whnf
 rw[EH zaa]
 conv=>arg 1;whnf
 try dsimp -iota -beta -eta -zeta only
 rw[AQ];obtain⟨t0,e0_1,is'0_2,bs'0_3,h0_4,yy0⟩:=pX s ia [] [] [] hi A7 A7;refine Aq yy0 ?_;exact hP _ ⟨t0,e0_1,is'0_2,bs'0_3,A7,rfl⟩
theorem ve(id:Int)(ya:Int)(yb yc:List UInt8)(ba bb:List UInt8)(hi:Kp a k s)(hk:k<=900)(uhA:0<=hA/\hA<=65535)(uia:0<=ia/\ia<=1099511627776)(uib:0<=ib/\ib<=1099511627776)(uic:0<=ic/\ic<=1099511627776)(uid:0<=id/\id<=1099511627776)(uba:ba.length<=1024)(ubb:bb.length<=1024):Ah E0 (.call 208 [av s,.i lo,rq 21 [hA] [(ya,yb,yc)] [ia,ib,ic,id] [ba,bb]] []) fun r=>∃(t:MS) (e:Int) (is':List Int) (bs':List (List UInt8)),Kp a (k+1) t/\r=some (.ret (.tup [av t,rp e is' bs' []]) []):=by
 refine CU fun P hP=>?_
 rw[Ad]
 conv=>arg 1;whnf
 rw[AA zaa]
 conv=>arg 1;whnf
 rw[AA zaa]
 conv=>arg 1;whnf
 rw[AA zaa]
 conv=>arg 1;whnf
 rw[AA zaa]
 conv=>arg 1;whnf
 rw[AA zaa]
 conv=>arg 1;whnf
 rw[AA zaa]
 conv=>arg 1;whnf
 rw[AA zaa]
 conv=>arg 1;whnf
 rw[AA zaa]
 conv=>arg 1;whnf
 rw[AA zaa]
 conv=>arg 1;whnf
 rw[AA zaa]
 conv=>arg 1;whnf
 rw[AA zaa]
 conv=>arg 1;whnf
 rw[AA zaa]
 conv=>arg 1;whnf
 rw[AA zaa]
 conv=>arg 1;whnf
 rw[AA zaa]
 conv=>arg 1;whnf
 rw[AA zaa]
 conv=>arg 1;whnf
 rw[AA zaa]
 conv=>arg 1;whnf
 rw[AA zaa]
 conv=>arg 1;whnf
 rw[AA zaa]
 conv=>arg 1;whnf
 rw[Ad]
 conv=>arg 1;whnf
 rw[AA zaa]
 conv=>arg 1;whnf
 rw[EH zaa]
 conv=>arg 1;whnf
 try dsimp -iota -beta -eta -zeta only
 rw[AQ];obtain⟨t0,e0_1,is'0_2,bs'0_3,h0_4,yy0⟩:=A0h s hA ia ib ic id [(ya,yb,yc)] ba bb hi A7;refine Aq yy0 ?_;exact hP _ ⟨t0,e0_1,is'0_2,bs'0_3,A7,rfl⟩
theorem vg(hi:Kp a k s)(hk:k<=900)(uhA:0<=hA/\hA<=65535)(uia:0<=ia/\ia<=1099511627776):Ah E0 (.call 208 [av s,.i lo,rq 22 [hA] [(ya,yb,yc)] [ia] []] []) fun r=>∃(t:MS) (e:Int) (is':List Int) (bs':List (List UInt8)),Kp a (k+1) t/\r=some (.ret (.tup [av t,rp e is' bs' []]) []):=by
 refine CU fun P hP=>?_
 rw[Ad]
 conv=>arg 1;whnf
 rw[AA zaa]
 conv=>arg 1;whnf
 rw[AA zaa]
 conv=>arg 1;whnf
 rw[AA zaa]
 conv=>arg 1;whnf
 rw[AA zaa]
 conv=>arg 1;whnf
 rw[AA zaa]
 conv=>arg 1;whnf
 rw[AA zaa]
 conv=>arg 1;whnf
 rw[AA zaa]
 conv=>arg 1;whnf
 rw[AA zaa]
 conv=>arg 1;whnf
 rw[AA zaa]
 conv=>arg 1;whnf
 rw[AA zaa]
 conv=>arg 1;whnf
 rw[AA zaa]
 conv=>arg 1;whnf
 rw[AA zaa]
 conv=>arg 1;whnf
 rw[AA zaa]
 conv=>arg 1;whnf
 rw[AA zaa]
 conv=>arg 1;whnf
 rw[AA zaa]
 conv=>arg 1;whnf
 rw[AA zaa]
 conv=>arg 1;whnf
 rw[AA zaa]
 conv=>arg 1;whnf
 rw[AA zaa]
 conv=>arg 1;whnf
 rw[Ad]
 conv=>arg 1;whnf
 rw[AA zaa]
 conv=>arg 1;whnf
 rw[AA zaa]
 conv=>arg 1;whnf
 rw[EH zaa]
 conv=>arg 1;whnf
 try dsimp -iota -beta -eta -zeta only
 rw[AQ];obtain⟨t0,e0_1,is'0_2,bs'0_3,h0_4,yy0⟩:=pg s hA ia [(ya,yb,yc)] [] hi A7 A7;refine Aq yy0 ?_;exact hP _ ⟨t0,e0_1,is'0_2,bs'0_3,A7,rfl⟩
theorem vk(ia:Int)(ya:Int)(yb yc:List UInt8)(ba:List UInt8)(hi:Kp a k s)(hk:k<=900)(uhA:0<=hA/\hA<=65535)(uhB:0<=hB/\hB<=65535)(uia:0<=ia/\ia<=1099511627776)(uba:ba.length<=1024)(hz:0<=Lu hB s.ix):Ah E0 (.call 208 [av s,.i lo,rq 23 [hA,hB] [(ya,yb,yc)] [ia] [ba]] []) fun r=>∃(t:MS) (e:Int) (is':List Int) (bs':List (List UInt8)),Kp a (k+1) t/\r=some (.ret (.tup [av t,rp e is' bs' []]) []):=by
 refine CU fun P hP=>?_
 rw[Ad]
 conv=>arg 1;whnf
 rw[AA zaa]
 conv=>arg 1;whnf
 rw[AA zaa]
 conv=>arg 1;whnf
 rw[AA zaa]
 conv=>arg 1;whnf
 rw[AA zaa]
 conv=>arg 1;whnf
 rw[AA zaa]
 conv=>arg 1;whnf
 rw[AA zaa]
 conv=>arg 1;whnf
 rw[AA zaa]
 conv=>arg 1;whnf
 rw[AA zaa]
 conv=>arg 1;whnf
 rw[AA zaa]
 conv=>arg 1;whnf
 rw[AA zaa]
 conv=>arg 1;whnf
 rw[AA zaa]
 conv=>arg 1;whnf
 rw[AA zaa]
 conv=>arg 1;whnf
 rw[AA zaa]
 conv=>arg 1;whnf
 rw[AA zaa]
 conv=>arg 1;whnf
 rw[AA zaa]
 conv=>arg 1;whnf
 rw[AA zaa]
 conv=>arg 1;whnf
 rw[AA zaa]
 conv=>arg 1;whnf
 rw[AA zaa]
 conv=>arg 1;whnf
 rw[Ad]
 conv=>arg 1;whnf
 rw[AA zaa]
 conv=>arg 1;whnf
 rw[AA zaa]
 conv=>arg 1;whnf
 rw[AA zaa]
 conv=>arg 1;whnf
 rw[AA zaa]
 conv=>arg 1;whnf
 rw[AA zaa]
 conv=>arg 1;whnf
 rw[AA zaa]
 conv=>arg 1;whnf
 rw[AA zaa]
 conv=>arg 1;whnf
 rw[Ad]
 conv=>arg 1;whnf
 try dsimp -iota -beta -eta -zeta only
 rw[AQ];obtain⟨t0,e0_1,is'0_2,bs'0_3,h0_4,yy0⟩:=ut s hA hB ia ba [(ya,yb,yc)] hi A7 A7 A7 A7;refine Aq yy0 ?_;exact hP _ ⟨t0,e0_1,is'0_2,bs'0_3,A7,rfl⟩
end
section
attribute [local irreducible] Cc Dn D7 DU DD BA Dp F7 FY FD Ez Ci CS DK DV and' DW DL C9 BR Bh CB CG BG BI Aw BC Dq Fh Dt ER DX Bl CE Bv Bz Bi Az Bg BK Bj BO Du Bc DF BZ BM Cj Di fits Dv Dk Ac Am BH
attribute [local irreducible] Dw CJ Be nameB EL Eh Ar ET E8 Ea ES F8 BV GX Eg Fv FU EE Fa Ej Ho I5 En
theorem vz(ia ib:Int)(ya:Int)(yb yc:List UInt8)(hi:Kp a k s)(hk:k<=900)(uhA:0<=hA/\hA<=65535)(uhB:0<=hB/\hB<=65535)(uia:0<=ia/\ia<=1099511627776)(uib:0<=ib/\ib<=1099511627776)(hz:0<=Lu hB s.ix):Ah E0 (.call 208 [av s,.i lo,rq 24 [hA,hB] [(ya,yb,yc)] [ia,ib] []] []) fun r=>∃(t:MS) (e:Int) (is':List Int) (bs':List (List UInt8)),Kp a (k+1) t/\r=some (.ret (.tup [av t,rp e is' bs' []]) []):=by
 refine CU fun P hP=>?_
 rw[Ad]
 conv=>arg 1;whnf
 rw[AA zaa]
 conv=>arg 1;whnf
 rw[AA zaa]
 conv=>arg 1;whnf
 rw[AA zaa]
 conv=>arg 1;whnf
 rw[AA zaa]
 conv=>arg 1;whnf
 rw[AA zaa]
 conv=>arg 1;whnf
 rw[AA zaa]
 conv=>arg 1;whnf
 rw[AA zaa]
 conv=>arg 1;whnf
 rw[AA zaa]
 conv=>arg 1;whnf
 rw[AA zaa]
 conv=>arg 1;whnf
 rw[AA zaa]
 conv=>arg 1;whnf
 rw[AA zaa]
 conv=>arg 1;whnf
 rw[AA zaa]
 conv=>arg 1;whnf
 rw[AA zaa]
 conv=>arg 1;whnf
 rw[AA zaa]
 conv=>arg 1;whnf
 rw[AA zaa]
 conv=>arg 1;whnf
 rw[AA zaa]
 conv=>arg 1;whnf
 rw[AA zaa]
 conv=>arg 1;whnf
 rw[AA zaa]
 conv=>arg 1;whnf
 rw[Ad]
 conv=>arg 1;whnf
 rw[AA zaa]
 conv=>arg 1;whnf
 rw[AA zaa]
 conv=>arg 1;whnf
 rw[AA zaa]
 conv=>arg 1;whnf
 rw[AA zaa]
 conv=>arg 1;whnf
 rw[AA zaa]
 conv=>arg 1;whnf
 rw[AA zaa]
 conv=>arg 1;whnf
 rw[AA zaa]
 conv=>arg 1;whnf
 rw[Ad]
 conv=>arg 1;whnf
 try dsimp -iota -beta -eta -zeta only
 rw[AQ];obtain⟨t0,e0_1,is'0_2,bs'0_3,h0_4,yy0⟩:=uu s hA hB ia ib [] [(ya,yb,yc)] hi A7 A7 A7 A7;refine Aq yy0 ?_;exact hP _ ⟨t0,e0_1,is'0_2,bs'0_3,A7,rfl⟩
theorem wB(hi:Kp a k s)(hk:k<=900)(uhA:0<=hA/\hA<=65535)(uhB:0<=hB/\hB<=65535)(hz:0<=Lu hB s.ix):Ah E0 (.call 208 [av s,.i lo,rq 25 [hA,hB] [(ya,yb,yc)] [] []] []) fun r=>∃(t:MS) (e:Int) (is':List Int) (bs':List (List UInt8)),Kp a (k+1) t/\r=some (.ret (.tup [av t,rp e is' bs' []]) []):=by
 refine CU fun P hP=>?_
 rw[Ad]
 conv=>arg 1;whnf
 rw[AA zaa]
 conv=>arg 1;whnf
 rw[AA zaa]
 conv=>arg 1;whnf
 rw[AA zaa]
 conv=>arg 1;whnf
 rw[AA zaa]
 conv=>arg 1;whnf
 rw[AA zaa]
 conv=>arg 1;whnf
 rw[AA zaa]
 conv=>arg 1;whnf
 rw[AA zaa]
 conv=>arg 1;whnf
 rw[AA zaa]
 conv=>arg 1;whnf
 rw[AA zaa]
 conv=>arg 1;whnf
 rw[AA zaa]
 conv=>arg 1;whnf
 rw[AA zaa]
 conv=>arg 1;whnf
 rw[AA zaa]
 conv=>arg 1;whnf
 rw[AA zaa]
 conv=>arg 1;whnf
 rw[AA zaa]
 conv=>arg 1;whnf
 rw[AA zaa]
 conv=>arg 1;whnf
 rw[AA zaa]
 conv=>arg 1;whnf
 rw[AA zaa]
 conv=>arg 1;whnf
 rw[AA zaa]
 conv=>arg 1;whnf
 rw[Ad]
 conv=>arg 1;whnf
 rw[AA zaa]
 conv=>arg 1;whnf
 rw[AA zaa]
 conv=>arg 1;whnf
 rw[AA zaa]
 conv=>arg 1;whnf
 rw[AA zaa]
 conv=>arg 1;whnf
 rw[AA zaa]
 conv=>arg 1;whnf
 rw[AA zaa]
 conv=>arg 1;whnf
 rw[AA zaa]
 conv=>arg 1;whnf
 rw[Ad]
 conv=>arg 1;whnf
 try dsimp -iota -beta -eta -zeta only
 rw[AQ];obtain⟨t0,e0_1,is'0_2,bs'0_3,h0_4,yy0⟩:=uw s hA hB [] [] [(ya,yb,yc)] hi A7 A7;refine Aq yy0 ?_;exact hP _ ⟨t0,e0_1,is'0_2,bs'0_3,A7,rfl⟩
theorem wC(hi:Kp a k s)(hk:k<=900)(uhA:0<=hA/\hA<=65535)(uhB:0<=hB/\hB<=65535)(uba:ba.length<=1024)(hz:0<=Lu hB s.ix):Ah E0 (.call 208 [av s,.i lo,rq 26 [hA,hB] [(ya,yb,yc)] [] [ba]] []) fun r=>∃(t:MS) (e:Int) (is':List Int) (bs':List (List UInt8)),Kp a (k+1) t/\r=some (.ret (.tup [av t,rp e is' bs' []]) []):=by
 refine CU fun P hP=>?_
 rw[Ad]
 conv=>arg 1;whnf
 rw[AA zaa]
 conv=>arg 1;whnf
 rw[AA zaa]
 conv=>arg 1;whnf
 rw[AA zaa]
 conv=>arg 1;whnf
 rw[AA zaa]
 conv=>arg 1;whnf
 rw[AA zaa]
 conv=>arg 1;whnf
 rw[AA zaa]
 conv=>arg 1;whnf
 rw[AA zaa]
 conv=>arg 1;whnf
 rw[AA zaa]
 conv=>arg 1;whnf
 rw[AA zaa]
 conv=>arg 1;whnf
 rw[AA zaa]
 conv=>arg 1;whnf
 rw[AA zaa]
 conv=>arg 1;whnf
 rw[AA zaa]
 conv=>arg 1;whnf
 rw[AA zaa]
 conv=>arg 1;whnf
 rw[AA zaa]
 conv=>arg 1;whnf
 rw[AA zaa]
 conv=>arg 1;whnf
 rw[AA zaa]
 conv=>arg 1;whnf
 rw[AA zaa]
 conv=>arg 1;whnf
 rw[AA zaa]
 conv=>arg 1;whnf
 rw[Ad]
 conv=>arg 1;whnf
 rw[AA zaa]
 conv=>arg 1;whnf
 rw[AA zaa]
 conv=>arg 1;whnf
 rw[AA zaa]
 conv=>arg 1;whnf
 rw[AA zaa]
 conv=>arg 1;whnf
 rw[AA zaa]
 conv=>arg 1;whnf
 rw[AA zaa]
 conv=>arg 1;whnf
 rw[AA zaa]
 conv=>arg 1;whnf
 rw[Ad]
 conv=>arg 1;whnf
 try dsimp -iota -beta -eta -zeta only
 rw[AQ];obtain⟨t0,e0_1,is'0_2,bs'0_3,h0_4,yy0⟩:=uy s hA hB [] ba [(ya,yb,yc)] hi A7 A7 A7;refine Aq yy0 ?_;exact hP _ ⟨t0,e0_1,is'0_2,bs'0_3,A7,rfl⟩
theorem wE(hi:Kp a k s)(hk:k<=900)(uhA:0<=hA/\hA<=65535)(uhB:0<=hB/\hB<=65535)(uba:ba.length<=1024)(hz:0<=Lu hB s.ix):Ah E0 (.call 208 [av s,.i lo,rq 27 [hA,hB] [(ya,yb,yc)] [] [ba]] []) fun r=>∃(t:MS) (e:Int) (is':List Int) (bs':List (List UInt8)),Kp a (k+1) t/\r=some (.ret (.tup [av t,rp e is' bs' []]) []):=by
 refine CU fun P hP=>?_
 rw[Ad]
 conv=>arg 1;whnf
 rw[AA zaa]
 conv=>arg 1;whnf
 rw[AA zaa]
 conv=>arg 1;whnf
 rw[AA zaa]
 conv=>arg 1;whnf
 rw[AA zaa]
 conv=>arg 1;whnf
 rw[AA zaa]
 conv=>arg 1;whnf
 rw[AA zaa]
 conv=>arg 1;whnf
 rw[AA zaa]
 conv=>arg 1;whnf
 rw[AA zaa]
 conv=>arg 1;whnf
 rw[AA zaa]
 conv=>arg 1;whnf
 rw[AA zaa]
 conv=>arg 1;whnf
 rw[AA zaa]
 conv=>arg 1;whnf
 rw[AA zaa]
 conv=>arg 1;whnf
 rw[AA zaa]
 conv=>arg 1;whnf
 rw[AA zaa]
 conv=>arg 1;whnf
 rw[AA zaa]
 conv=>arg 1;whnf
 rw[AA zaa]
 conv=>arg 1;whnf
 rw[AA zaa]
 conv=>arg 1;whnf
 rw[AA zaa]
 conv=>arg 1;whnf
 rw[Ad]
 conv=>arg 1;whnf
 rw[AA zaa]
 conv=>arg 1;whnf
 rw[AA zaa]
 conv=>arg 1;whnf
 rw[AA zaa]
 conv=>arg 1;whnf
 rw[AA zaa]
 conv=>arg 1;whnf
 rw[AA zaa]
 conv=>arg 1;whnf
 rw[AA zaa]
 conv=>arg 1;whnf
 rw[AA zaa]
 conv=>arg 1;whnf
 rw[Ad]
 conv=>arg 1;whnf
 try dsimp -iota -beta -eta -zeta only
 rw[AQ];obtain⟨t0,e0_1,is'0_2,bs'0_3,h0_4,yy0⟩:=uz s hA hB [] ba [(ya,yb,yc)] hi A7 A7 A7;refine Aq yy0 ?_;exact hP _ ⟨t0,e0_1,is'0_2,bs'0_3,A7,rfl⟩
theorem wF(hi:Kp a k s)(hk:k<=900)(uhA:0<=hA/\hA<=65535)(uhB:0<=hB/\hB<=65535)(hz:0<=Lu hB s.ix):Ah E0 (.call 208 [av s,.i lo,rq 28 [hA,hB] [(ya,yb,yc)] [] []] []) fun r=>∃(t:MS) (e:Int) (is':List Int) (bs':List (List UInt8)),Kp a (k+1) t/\r=some (.ret (.tup [av t,rp e is' bs' []]) []):=by
 refine CU fun P hP=>?_
 rw[Ad]
 conv=>arg 1;whnf
 rw[AA zaa]
 conv=>arg 1;whnf
 rw[AA zaa]
 conv=>arg 1;whnf
 rw[AA zaa]
 conv=>arg 1;whnf
 rw[AA zaa]
 conv=>arg 1;whnf
 rw[AA zaa]
 conv=>arg 1;whnf
 rw[AA zaa]
 conv=>arg 1;whnf
 rw[AA zaa]
 conv=>arg 1;whnf
 rw[AA zaa]
 conv=>arg 1;whnf
 rw[AA zaa]
 conv=>arg 1;whnf
 rw[AA zaa]
 conv=>arg 1;whnf
 rw[AA zaa]
 conv=>arg 1;whnf
 rw[AA zaa]
 conv=>arg 1;whnf
 rw[AA zaa]
 conv=>arg 1;whnf
 rw[AA zaa]
 conv=>arg 1;whnf
 rw[AA zaa]
 conv=>arg 1;whnf
 rw[AA zaa]
 conv=>arg 1;whnf
 rw[AA zaa]
 conv=>arg 1;whnf
 rw[AA zaa]
 conv=>arg 1;whnf
 rw[Ad]
 conv=>arg 1;whnf
 rw[AA zaa]
 conv=>arg 1;whnf
 rw[AA zaa]
 conv=>arg 1;whnf
 rw[AA zaa]
 conv=>arg 1;whnf
 rw[AA zaa]
 conv=>arg 1;whnf
 rw[AA zaa]
 conv=>arg 1;whnf
 rw[AA zaa]
 conv=>arg 1;whnf
 rw[AA zaa]
 conv=>arg 1;whnf
 rw[Ad]
 conv=>arg 1;whnf
 try dsimp -iota -beta -eta -zeta only
 rw[AQ];obtain⟨t0,e0_1,is'0_2,bs'0_3,h0_4,yy0⟩:=vC s hA hB [] [] [(ya,yb,yc)] hi A7 A7;refine Aq yy0 ?_;exact hP _ ⟨t0,e0_1,is'0_2,bs'0_3,A7,rfl⟩
theorem wG(hi:Kp a k s)(hk:k<=900)(uhA:0<=hA/\hA<=65535)(uhB:0<=hB/\hB<=65535)(hz:0<=Lu hB s.ix):Ah E0 (.call 208 [av s,.i lo,rq 29 [hA,hB] [(ya,yb,yc)] [] []] []) fun r=>∃(t:MS) (e:Int) (is':List Int) (bs':List (List UInt8)),Kp a (k+1) t/\r=some (.ret (.tup [av t,rp e is' bs' []]) []):=by
 refine CU fun P hP=>?_
 rw[Ad]
 conv=>arg 1;whnf
 rw[AA zaa]
 conv=>arg 1;whnf
 rw[AA zaa]
 conv=>arg 1;whnf
 rw[AA zaa]
 conv=>arg 1;whnf
 rw[AA zaa]
 conv=>arg 1;whnf
 rw[AA zaa]
 conv=>arg 1;whnf
 rw[AA zaa]
 conv=>arg 1;whnf
 rw[AA zaa]
 conv=>arg 1;whnf
 rw[AA zaa]
 conv=>arg 1;whnf
 rw[AA zaa]
 conv=>arg 1;whnf
 rw[AA zaa]
 conv=>arg 1;whnf
 rw[AA zaa]
 conv=>arg 1;whnf
 rw[AA zaa]
 conv=>arg 1;whnf
 rw[AA zaa]
 conv=>arg 1;whnf
 rw[AA zaa]
 conv=>arg 1;whnf
 rw[AA zaa]
 conv=>arg 1;whnf
 rw[AA zaa]
 conv=>arg 1;whnf
 rw[AA zaa]
 conv=>arg 1;whnf
 rw[AA zaa]
 conv=>arg 1;whnf
 rw[Ad]
 conv=>arg 1;whnf
 rw[AA zaa]
 conv=>arg 1;whnf
 rw[AA zaa]
 conv=>arg 1;whnf
 rw[AA zaa]
 conv=>arg 1;whnf
 rw[AA zaa]
 conv=>arg 1;whnf
 rw[AA zaa]
 conv=>arg 1;whnf
 rw[AA zaa]
 conv=>arg 1;whnf
 rw[AA zaa]
 conv=>arg 1;whnf
 rw[Ad]
 conv=>arg 1;whnf
 try dsimp -iota -beta -eta -zeta only
 rw[AQ];obtain⟨t0,e0_1,is'0_2,bs'0_3,h0_4,yy0⟩:=vF s hA hB [] [] [(ya,yb,yc)] hi A7 A7;refine Aq yy0 ?_;exact hP _ ⟨t0,e0_1,is'0_2,bs'0_3,A7,rfl⟩
theorem wH(hi:Kp a k s)(hk:k<=900)(uhA:0<=hA/\hA<=65535)(uba:ba.length<=1024)(hz:0<=hA/\hA<=3):Ah E0 (.call 208 [av s,.i lo,rq 30 [hA] [(ya,yb,yc)] [] [ba]] []) fun r=>∃(t:MS) (e:Int) (is':List Int) (bs':List (List UInt8)),Kp a (k+1) t/\r=some (.ret (.tup [av t,rp e is' bs' []]) []):=by
 refine CU fun P hP=>?_
 rw[Ad]
 conv=>arg 1;whnf
 rw[AA zaa]
 conv=>arg 1;whnf
 rw[AA zaa]
 conv=>arg 1;whnf
 rw[AA zaa]
 conv=>arg 1;whnf
 rw[AA zaa]
 conv=>arg 1;whnf
 rw[AA zaa]
 conv=>arg 1;whnf
 rw[AA zaa]
 conv=>arg 1;whnf
 rw[AA zaa]
 conv=>arg 1;whnf
 rw[AA zaa]
 conv=>arg 1;whnf
 rw[AA zaa]
 conv=>arg 1;whnf
 rw[AA zaa]
 conv=>arg 1;whnf
 rw[AA zaa]
 conv=>arg 1;whnf
 rw[AA zaa]
 conv=>arg 1;whnf
 rw[AA zaa]
 conv=>arg 1;whnf
 rw[AA zaa]
 conv=>arg 1;whnf
 rw[AA zaa]
 conv=>arg 1;whnf
 rw[AA zaa]
 conv=>arg 1;whnf
 rw[AA zaa]
 conv=>arg 1;whnf
 rw[AA zaa]
 conv=>arg 1;whnf
 rw[Ad]
 conv=>arg 1;whnf
 rw[AA zaa]
 conv=>arg 1;whnf
 rw[AA zaa]
 conv=>arg 1;whnf
 rw[AA zaa]
 conv=>arg 1;whnf
 rw[EH zaa]
 conv=>arg 1;whnf
 try dsimp -iota -beta -eta -zeta only
 rw[AQ];obtain⟨t0,e0_1,is'0_2,bs'0_3,h0_4,yy0⟩:=jc s hA ba [(ya,yb,yc)] [] hi A7 A7 A7;refine Aq yy0 ?_;exact hP _ ⟨t0,e0_1,is'0_2,bs'0_3,A7,rfl⟩
theorem wI(hi:Kp a k s)(hk:k<=900)(uhA:0<=hA/\hA<=65535):Ah E0 (.call 208 [av s,.i lo,rq 31 [hA] [(ya,yb,yc)] [] []] []) fun r=>∃(t:MS) (e:Int) (is':List Int) (bs':List (List UInt8)),Kp a (k+1) t/\r=some (.ret (.tup [av t,rp e is' bs' []]) []):=by
 refine CU fun P hP=>?_
 rw[Ad]
 conv=>arg 1;whnf
 rw[AA zaa]
 conv=>arg 1;whnf
 rw[AA zaa]
 conv=>arg 1;whnf
 rw[AA zaa]
 conv=>arg 1;whnf
 rw[AA zaa]
 conv=>arg 1;whnf
 rw[AA zaa]
 conv=>arg 1;whnf
 rw[AA zaa]
 conv=>arg 1;whnf
 rw[AA zaa]
 conv=>arg 1;whnf
 rw[AA zaa]
 conv=>arg 1;whnf
 rw[AA zaa]
 conv=>arg 1;whnf
 rw[AA zaa]
 conv=>arg 1;whnf
 rw[AA zaa]
 conv=>arg 1;whnf
 rw[AA zaa]
 conv=>arg 1;whnf
 rw[AA zaa]
 conv=>arg 1;whnf
 rw[AA zaa]
 conv=>arg 1;whnf
 rw[AA zaa]
 conv=>arg 1;whnf
 rw[AA zaa]
 conv=>arg 1;whnf
 rw[AA zaa]
 conv=>arg 1;whnf
 rw[AA zaa]
 conv=>arg 1;whnf
 rw[Ad]
 conv=>arg 1;whnf
 rw[AA zaa]
 conv=>arg 1;whnf
 rw[AA zaa]
 conv=>arg 1;whnf
 rw[AA zaa]
 conv=>arg 1;whnf
 rw[AA zaa]
 conv=>arg 1;whnf
 rw[EH zaa]
 conv=>arg 1;whnf
 try dsimp -iota -beta -eta -zeta only
 rw[AQ];obtain⟨t0,e0_1,is'0_2,bs'0_3,h0_4,yy0⟩:=pq s hi A7;refine Aq yy0 ?_;exact hP _ ⟨t0,e0_1,is'0_2,bs'0_3,A7,rfl⟩
theorem wJ(hi:Kp a k s)(hk:k<=900)(uhA:0<=hA/\hA<=65535):Ah E0 (.call 208 [av s,.i lo,rq 32 [hA] [(ya,yb,yc)] [] []] []) fun r=>∃(t:MS) (e:Int) (is':List Int) (bs':List (List UInt8)),Kp a (k+1) t/\r=some (.ret (.tup [av t,rp e is' bs' []]) []):=by
 have hvc:=hi.vc
 have hlk:=hi.lk
 refine CU fun P hP=>?_
 rw[Ad]
 conv=>arg 1;whnf
 rw[AA zaa]
 conv=>arg 1;whnf
 rw[AA zaa]
 conv=>arg 1;whnf
 rw[AA zaa]
 conv=>arg 1;whnf
 rw[AA zaa]
 conv=>arg 1;whnf
 rw[AA zaa]
 conv=>arg 1;whnf
 rw[AA zaa]
 conv=>arg 1;whnf
 rw[AA zaa]
 conv=>arg 1;whnf
 rw[AA zaa]
 conv=>arg 1;whnf
 rw[AA zaa]
 conv=>arg 1;whnf
 rw[AA zaa]
 conv=>arg 1;whnf
 rw[AA zaa]
 conv=>arg 1;whnf
 rw[AA zaa]
 conv=>arg 1;whnf
 rw[AA zaa]
 conv=>arg 1;whnf
 rw[AA zaa]
 conv=>arg 1;whnf
 rw[AA zaa]
 conv=>arg 1;whnf
 rw[AA zaa]
 conv=>arg 1;whnf
 rw[AA zaa]
 conv=>arg 1;whnf
 rw[AA zaa]
 conv=>arg 1;whnf
 rw[Ad]
 conv=>arg 1;whnf
 rw[AA zaa]
 conv=>arg 1;whnf
 rw[AA zaa]
 conv=>arg 1;whnf
 rw[AA zaa]
 conv=>arg 1;whnf
 rw[AA zaa]
 conv=>arg 1;whnf
 rw[AA zaa]
 conv=>arg 1;whnf
 rw[EH zaa]
 conv=>arg 1;whnf
 try dsimp -iota -beta -eta -zeta only
 rw[AQ];obtain⟨m10,m40_1,h0_2,yy0⟩:=oC s.l1 s.l2 s.l3 s.l4 s.l5 s.l6 s.vc A7 A7;refine Aq yy0 ?_;refine hP _ ⟨{s with l1:=m10,l4:=m40_1},0,[],[],?_,rfl⟩;exact {hi.up (k':=k+1) zau with lk:=zav}
theorem wK(ya:Int)(yb yc:List UInt8)(hi:Kp a k s)(hk:k<=900)(uhA:0<=hA/\hA<=65535)(uia:0<=ia/\ia<=1099511627776)(uib:0<=ib/\ib<=1099511627776)(uic:0<=ic/\ic<=1099511627776):Ah E0 (.call 208 [av s,.i lo,rq 33 [hA] [(ya,yb,yc)] [ia,ib,ic] []] []) fun r=>∃(t:MS) (e:Int) (is':List Int) (bs':List (List UInt8)),Kp a (k+1) t/\r=some (.ret (.tup [av t,rp e is' bs' []]) []):=by
 have hvc:=hi.vc
 have hlk:=hi.lk
 refine CU fun P hP=>?_
 rw[Ad]
 conv=>arg 1;whnf
 rw[AA zaa]
 conv=>arg 1;whnf
 rw[AA zaa]
 conv=>arg 1;whnf
 rw[AA zaa]
 conv=>arg 1;whnf
 rw[AA zaa]
 conv=>arg 1;whnf
 rw[AA zaa]
 conv=>arg 1;whnf
 rw[AA zaa]
 conv=>arg 1;whnf
 rw[AA zaa]
 conv=>arg 1;whnf
 rw[AA zaa]
 conv=>arg 1;whnf
 rw[AA zaa]
 conv=>arg 1;whnf
 rw[AA zaa]
 conv=>arg 1;whnf
 rw[AA zaa]
 conv=>arg 1;whnf
 rw[AA zaa]
 conv=>arg 1;whnf
 rw[AA zaa]
 conv=>arg 1;whnf
 rw[AA zaa]
 conv=>arg 1;whnf
 rw[AA zaa]
 conv=>arg 1;whnf
 rw[AA zaa]
 conv=>arg 1;whnf
 rw[AA zaa]
 conv=>arg 1;whnf
 rw[AA zaa]
 conv=>arg 1;whnf
 rw[Ad]
 conv=>arg 1;whnf
 rw[AA zaa]
 conv=>arg 1;whnf
 rw[AA zaa]
 conv=>arg 1;whnf
 rw[AA zaa]
 conv=>arg 1;whnf
 rw[AA zaa]
 conv=>arg 1;whnf
 rw[AA zaa]
 conv=>arg 1;whnf
 rw[AA zaa]
 conv=>arg 1;whnf
 rw[EH zaa]
 conv=>arg 1;whnf
 try dsimp -iota -beta -eta -zeta only
 rw[lg0];conv=>arg 1;whnf
 rw[lg1];conv=>arg 1;whnf
 rw[lg2];conv=>arg 1;whnf
 try dsimp -iota -beta -eta -zeta only
 rw[AQ];obtain⟨m10,m20_1,m30_2,m40_3,m50_4,m60_5,e0_6,h0_7,yy0⟩:=jE s.l1 s.l2 s.l3 s.l4 s.l5 s.l6 ia ib ic A7;refine Aq yy0 ?_
 rcases AX e0_6 0 with hc1|hc1
 ·refine tw ?_;rw[BL ..];refine tw ?_;exact hP _ ⟨s,e0_6,[],[],clo,rfl⟩
 subst hc1;refine tw ?_;refine hP _ ⟨{s with l1:=m10,l2:=m20_1,l3:=m30_2,l4:=m40_3,l5:=m50_4,l6:=m60_5},0,[],[],?_,rfl⟩;exact {hi.up (k':=k+1) zau with lk:=zav}
end
end Go.Proofs.YtnhgnfdbdflhcaaGreatDoor
