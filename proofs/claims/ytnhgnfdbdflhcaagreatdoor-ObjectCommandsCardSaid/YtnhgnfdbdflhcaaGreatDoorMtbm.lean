/-
  Own texts, laid together for this claim: contracts of functions of the program and its references, used by the statements of this seat.
-/
import Derived.Test.YtnhgnfdbdflhcaaGreatDoorMtab
import Derived.Test.YtnhgnfdbdflhcaaGreatDoorMtae
import Derived.Test.YtnhgnfdbdflhcaaGreatDoorMtaf
import Derived.Test.YtnhgnfdbdflhcaaGreatDoorMtag
import Derived.Test.YtnhgnfdbdflhcaaGreatDoorMtah
import Derived.Test.YtnhgnfdbdflhcaaGreatDoorMtai
import Derived.Test.YtnhgnfdbdflhcaaGreatDoorMtaj
import Derived.Test.YtnhgnfdbdflhcaaGreatDoorMtan
import Derived.Test.YtnhgnfdbdflhcaaGreatDoorMtas
import Derived.Test.YtnhgnfdbdflhcaaGreatDoorMtau
import Derived.Test.YtnhgnfdbdflhcaaGreatDoorMtav
import Derived.Test.YtnhgnfdbdflhcaaGreatDoorMtaz
import Derived.Test.YtnhgnfdbdflhcaaGreatDoorMtba
import Derived.Test.YtnhgnfdbdflhcaaGreatDoorMtbc
import Derived.Test.YtnhgnfdbdflhcaaGreatDoorMtbd
import Derived.Test.YtnhgnfdbdflhcaaGreatDoorMtbe
import Derived.Test.YtnhgnfdbdflhcaaGreatDoorMtbg
import Derived.Test.YtnhgnfdbdflhcaaGreatDoorMtbj
import Derived.Test.YtnhgnfdbdflhcaaGreatDoorMtbk
set_option linter.all false
set_option maxHeartbeats 40000000
set_option maxRecDepth 100000
namespace Go.Ax
open Go Go.Eng Go.RowKit
theorem A3y{par s:Sen}{p:Pub}(h1:s.auth.length<=32)(h2:s.seed.length<=32)(h3:s.data.length<=128):1<=(Ea par p s).length:=by
 unfold Ea
 have hn:=Aa p
 have hp:(PG s).length<=1024:=by unfold PG;simp only[AO,List.length_nil];omega
 rw[Ws za5 hp];omega
end Go.Ax
namespace Go.Proofs.YtnhgnfdbdflhcaaGreatDoor
open Go Go.Ax Go.Eng
variable {a k:Int}(s:MS)(k' lo n hA ia m:Int)(b:List UInt8)(ib ic ya:Int)(yb ba yc:List UInt8)
section
attribute [local irreducible] Cc Dn D7 DU DD BA Dp F7 FY FD Ez Ci CS DK DV and' DW DL C9 BR Bh CB CG BG BI Aw BC Dq Fh Dt ER DX Bl CE Bv Bz Bi Az Bg BK Bj BO Du Bc DF BZ BM Cj Di fits Dv Dk Ac Am BH
attribute [local irreducible] Dw CJ Be nameB EL Eh Ar ET E8 Ea ES F8 BV GX Eg Fv FU EE Fa Ej Ho I5 En
theorem A0i(hi:Kp a k s)(hk:k<=900)(uia:0<=ia/\ia<=1099511627776):Ah E0 (.call 208 [av s,.i lo,rq 1 [] [] [ia] []] []) fun r=>∃(t:MS) (e:Int) (is':List Int) (bs':List (List UInt8)),Kp a (k+1) t/\r=some (.ret (.tup [av t,rp e is' bs' []]) []):=by
 refine CU fun P hP=>tw ?_
 obtain(⟨t0,⟨h0_1,h0_2⟩,yy0⟩|⟨t0_3,e0_4,h0_5,yy0⟩):=oN s ia hi A7
 ·refine Aq yy0 ?_
  obtain(⟨h1_0,yy1⟩|⟨h1_1,yy1⟩):=Eb s t0 0
  ·refine Aq yy1 ?_;exact hP _ ⟨t0,0,[],[],A7,rfl⟩
  refine Aq yy1 ?_;exact hP _ ⟨s,0,[],[],A7,rfl⟩
 refine Aq yy0 ?_
 obtain(⟨h2_0,yy2⟩|⟨h2_1,yy2⟩):=Eb s t0_3 e0_4
 ·refine Aq yy2 ?_;exact hP _ ⟨t0_3,0,[],[],A7,rfl⟩
 refine Aq yy2 ?_;exact hP _ ⟨s,e0_4,[],[],clo,rfl⟩
theorem A0j(hi:Kp a k s)(hk:k<=900)(uia:0<=ia/\ia<=1099511627776):Ah E0 (.call 208 [av s,.i lo,rq 2 [] [] [ia] []] []) fun r=>∃(t:MS) (e:Int) (is':List Int) (bs':List (List UInt8)),Kp a (k+1) t/\r=some (.ret (.tup [av t,rp e is' bs' []]) []):=by
 refine CU fun P hP=>tw ?_
 obtain(⟨t0,h0_1,yy0⟩|⟨t0_2,e0_3,h0_4,yy0⟩):=uO s ia hi
 ·refine Aq yy0 ?_
  obtain(⟨h1_0,yy1⟩|⟨h1_1,yy1⟩):=Eb s t0 0
  ·refine Aq yy1 ?_;exact hP _ ⟨t0,0,[],[],clo,rfl⟩
  refine Aq yy1 ?_;exact hP _ ⟨s,0,[],[],A7,rfl⟩
 refine Aq yy0 ?_
 obtain(⟨h2_0,yy2⟩|⟨h2_1,yy2⟩):=Eb s t0_2 e0_3
 ·refine Aq yy2 ?_;exact hP _ ⟨t0_2,0,[],[],A7,rfl⟩
 refine Aq yy2 ?_;exact hP _ ⟨s,e0_3,[],[],clo,rfl⟩
theorem A0k(hi:Kp a k s)(hk:k<=900):Ah E0 (.call 208 [av s,.i lo,rq 4 [] [] [] []] []) fun r=>∃(t:MS) (e:Int) (is':List Int) (bs':List (List UInt8)),Kp a (k+1) t/\r=some (.ret (.tup [av t,rp e is' bs' []]) []):=by
 refine CU fun P hP=>tw ?_
 obtain⟨t0,e0_1,is'0_2,bs'0_3,h0_4,yy0⟩:=pI s hi A7;refine Aq yy0 ?_;exact hP _ ⟨t0,e0_1,is'0_2,bs'0_3,A7,rfl⟩
theorem A0l(hi:Kp a k s)(hk:k<=900)(uia:0<=ia/\ia<=1099511627776)(uib:0<=ib/\ib<=1099511627776):Ah E0 (.call 208 [av s,.i lo,rq 5 [] [] [ia,ib] []] []) fun r=>∃(t:MS) (e:Int) (is':List Int) (bs':List (List UInt8)),Kp a (k+1) t/\r=some (.ret (.tup [av t,rp e is' bs' []]) []):=by
 refine CU fun P hP=>tw ?_
 obtain⟨t0,e0_1,is'0_2,bs'0_3,h0_4,yy0⟩:=pJ s lo ia ib [] [] [] hi A7;refine Aq yy0 ?_;exact hP _ ⟨t0,e0_1,is'0_2,bs'0_3,A7,rfl⟩
theorem A0m(bb:List UInt8)(hi:Kp a k s)(hk:k<=900)(uia:0<=ia/\ia<=1099511627776)(uba:ba.length<=1024)(ubb:bb.length<=1024):Ah E0 (.call 208 [av s,.i lo,rq 6 [] [] [ia] [ba,bb]] []) fun r=>∃(t:MS) (e:Int) (is':List Int) (bs':List (List UInt8)),Kp a (k+1) t/\r=some (.ret (.tup [av t,rp e is' bs' []]) []):=by
 refine CU fun P hP=>tw ?_
 obtain⟨t0,e0_1,is'0_2,bs'0_3,h0_4,yy0⟩:=pK s lo ia [] [] ba bb hi A7 A7 A7;refine Aq yy0 ?_;exact hP _ ⟨t0,e0_1,is'0_2,bs'0_3,A7,rfl⟩
theorem A0n(hi:Kp a k s)(hk:k<=900)(uia:0<=ia/\ia<=1099511627776)(uba:ba.length<=1024):Ah E0 (.call 208 [av s,.i lo,rq 7 [] [] [ia] [ba]] []) fun r=>∃(t:MS) (e:Int) (is':List Int) (bs':List (List UInt8)),Kp a (k+1) t/\r=some (.ret (.tup [av t,rp e is' bs' []]) []):=by
 refine CU fun P hP=>tw ?_
 obtain⟨t0,e0_1,is'0_2,bs'0_3,h0_4,yy0⟩:=pM s lo ia [] [] ba hi A7 A7;refine Aq yy0 ?_;exact hP _ ⟨t0,e0_1,is'0_2,bs'0_3,A7,rfl⟩
theorem A0o(hi:Kp a k s)(hk:k<=900)(uia:0<=ia/\ia<=1099511627776):Ah E0 (.call 208 [av s,.i lo,rq 8 [] [] [ia] []] []) fun r=>∃(t:MS) (e:Int) (is':List Int) (bs':List (List UInt8)),Kp a (k+1) t/\r=some (.ret (.tup [av t,rp e is' bs' []]) []):=by
 refine CU fun P hP=>tw ?_
 obtain⟨t0,e0_1,is'0_2,bs'0_3,h0_4,yy0⟩:=pO s lo ia [] [] [] hi A7;refine Aq yy0 ?_;exact hP _ ⟨t0,e0_1,is'0_2,bs'0_3,A7,rfl⟩
theorem A0p(ba bb bc:List UInt8)(hi:Kp a k s)(hk:k<=900)(uhA:0<=hA/\hA<=65535)(uia:0<=ia/\ia<=1099511627776)(uib:0<=ib/\ib<=1099511627776)(uic:0<=ic/\ic<=1099511627776)(uba:ba.length<=1024)(ubb:bb.length<=1024)(ubc:bc.length<=1024)(hz:0<=hA/\hA<=2):Ah E0 (.call 255 [av s,rq 9 [hA] [(ya,yb,yc)] [ia,ib,ic] [ba,bb,bc]] []) fun r=>∃(t:MS) (e:Int) (is':List Int) (bs':List (List UInt8)),Kp a (k+1) t/\r=some (.ret (.tup [av t,rp e is' bs' []]) []):=by
 refine CU fun P hP=>tw ?_
 obtain⟨t0,e0_1,is'0_2,bs'0_3,h0_4,yy0⟩:=bH s 9 hA ia ib ic [] [(ya,yb,yc)] ba bb bc hi A7 A7 A7 A7 A7;refine Aq yy0 ?_;exact hP _ ⟨t0,e0_1,is'0_2,bs'0_3,A7,rfl⟩
theorem A0q(ba bb bc:List UInt8)(hi:Kp a k s)(hk:k<=900)(uhA:0<=hA/\hA<=65535)(uia:0<=ia/\ia<=1099511627776)(uib:0<=ib/\ib<=1099511627776)(uic:0<=ic/\ic<=1099511627776)(uba:ba.length<=1024)(ubb:bb.length<=1024)(ubc:bc.length<=1024)(hz:0<=hA/\hA<=2):Ah E0 (.call 208 [av s,.i lo,rq 9 [hA] [(ya,yb,yc)] [ia,ib,ic] [ba,bb,bc]] []) fun r=>∃(t:MS) (e:Int) (is':List Int) (bs':List (List UInt8)),Kp a (k+1) t/\r=some (.ret (.tup [av t,rp e is' bs' []]) []):=by
 refine CU fun P hP=>tw ?_
 obtain⟨t0,e0_1,is'0_2,bs'0_3,h0_4,yy0⟩:=A0p s hA ia ib ic ya yb yc ba bb bc hi A7 A7 A7 A7 A7 A7 A7 A7 A7;refine Aq yy0 ?_;exact hP _ ⟨t0,e0_1,is'0_2,bs'0_3,A7,rfl⟩
theorem vG(ba bb bc:List UInt8)(hi:Kp a k s)(hk:k<=900)(uhA:0<=hA/\hA<=65535)(uia:0<=ia/\ia<=1099511627776)(uib:0<=ib/\ib<=1099511627776)(uic:0<=ic/\ic<=1099511627776)(uba:ba.length<=1024)(ubb:bb.length<=1024)(ubc:bc.length<=1024)(hz:0<=Jl hA s.ob):Ah E0 (.call 255 [av s,rq 10 [hA] [(ya,yb,yc)] [ia,ib,ic] [ba,bb,bc]] []) fun r=>∃(t:MS) (e:Int) (is':List Int) (bs':List (List UInt8)),Kp a (k+1) t/\r=some (.ret (.tup [av t,rp e is' bs' []]) []):=by
 refine CU fun P hP=>tw ?_
 obtain⟨t0,e0_1,is'0_2,bs'0_3,h0_4,yy0⟩:=jX s 10 hA ia ib ic [] [(ya,yb,yc)] ba bb bc hi A7 A7 A7 A7 A7;refine Aq yy0 ?_;exact hP _ ⟨t0,e0_1,is'0_2,bs'0_3,A7,rfl⟩
theorem vH(ba bb bc:List UInt8)(hi:Kp a k s)(hk:k<=900)(uhA:0<=hA/\hA<=65535)(uia:0<=ia/\ia<=1099511627776)(uib:0<=ib/\ib<=1099511627776)(uic:0<=ic/\ic<=1099511627776)(uba:ba.length<=1024)(ubb:bb.length<=1024)(ubc:bc.length<=1024)(hz:0<=Jl hA s.ob):Ah E0 (.call 208 [av s,.i lo,rq 10 [hA] [(ya,yb,yc)] [ia,ib,ic] [ba,bb,bc]] []) fun r=>∃(t:MS) (e:Int) (is':List Int) (bs':List (List UInt8)),Kp a (k+1) t/\r=some (.ret (.tup [av t,rp e is' bs' []]) []):=by
 refine CU fun P hP=>tw ?_
 obtain⟨t0,e0_1,is'0_2,bs'0_3,h0_4,yy0⟩:=vG s hA ia ib ic ya yb yc ba bb bc hi A7 A7 A7 A7 A7 A7 A7 A7 A7;refine Aq yy0 ?_;exact hP _ ⟨t0,e0_1,is'0_2,bs'0_3,A7,rfl⟩
theorem vI(ba bb:List UInt8)(hi:Kp a k s)(hk:k<=900)(uhA:0<=hA/\hA<=65535)(uba:ba.length<=1024)(ubb:bb.length<=1024)(hz:0<=Jl hA s.ob):Ah E0 (.call 255 [av s,rq 11 [hA] [(ya,yb,yc)] [] [ba,bb]] []) fun r=>∃(t:MS) (e:Int) (is':List Int) (bs':List (List UInt8)),Kp a (k+1) t/\r=some (.ret (.tup [av t,rp e is' bs' []]) []):=by
 refine CU fun P hP=>tw ?_
 obtain⟨t0,e0_1,is'0_2,bs'0_3,h0_4,yy0⟩:=ug s 11 hA [] [(ya,yb,yc)] [] ba bb hi A7 A7 A7 A7 A7;refine Aq yy0 ?_;exact hP _ ⟨t0,e0_1,is'0_2,bs'0_3,A7,rfl⟩
theorem vJ(ba bb:List UInt8)(hi:Kp a k s)(hk:k<=900)(uhA:0<=hA/\hA<=65535)(uba:ba.length<=1024)(ubb:bb.length<=1024)(hz:0<=Jl hA s.ob):Ah E0 (.call 208 [av s,.i lo,rq 11 [hA] [(ya,yb,yc)] [] [ba,bb]] []) fun r=>∃(t:MS) (e:Int) (is':List Int) (bs':List (List UInt8)),Kp a (k+1) t/\r=some (.ret (.tup [av t,rp e is' bs' []]) []):=by
 refine CU fun P hP=>tw ?_
 obtain⟨t0,e0_1,is'0_2,bs'0_3,h0_4,yy0⟩:=vI s hA ya yb yc ba bb hi A7 A7 A7 A7 A7;refine Aq yy0 ?_;exact hP _ ⟨t0,e0_1,is'0_2,bs'0_3,A7,rfl⟩
theorem vK(hi:Kp a k s)(hk:k<=900)(uia:0<=ia/\ia<=1099511627776):Ah E0 (.call 255 [av s,rq 12 [] [] [ia] []] []) fun r=>∃(t:MS) (e:Int) (is':List Int) (bs':List (List UInt8)),Kp a (k+1) t/\r=some (.ret (.tup [av t,rp e is' bs' []]) []):=by
 refine CU fun P hP=>tw ?_
 obtain⟨t0,e0_1,is'0_2,bs'0_3,h0_4,yy0⟩:=pF s 12 ia [] [] [] [] hi A7 A7 A7;refine Aq yy0 ?_;exact hP _ ⟨t0,e0_1,is'0_2,bs'0_3,A7,rfl⟩
theorem vM(hi:Kp a k s)(hk:k<=900)(uia:0<=ia/\ia<=1099511627776):Ah E0 (.call 208 [av s,.i lo,rq 12 [] [] [ia] []] []) fun r=>∃(t:MS) (e:Int) (is':List Int) (bs':List (List UInt8)),Kp a (k+1) t/\r=some (.ret (.tup [av t,rp e is' bs' []]) []):=by
 refine CU fun P hP=>tw ?_
 obtain⟨t0,e0_1,is'0_2,bs'0_3,h0_4,yy0⟩:=vK s ia hi A7 A7;refine Aq yy0 ?_;exact hP _ ⟨t0,e0_1,is'0_2,bs'0_3,A7,rfl⟩
end
section
attribute [local irreducible] Cc Dn D7 DU DD BA Dp F7 FY FD Ez Ci CS DK DV and' DW DL C9 BR Bh CB CG BG BI Aw BC Dq Fh Dt ER DX Bl CE Bv Bz Bi Az Bg BK Bj BO Du Bc DF BZ BM Cj Di fits Dv Dk Ac Am BH
attribute [local irreducible] Dw CJ Be nameB EL Eh Ar ET E8 Ea ES F8 BV GX Eg Fv FU EE Fa Ej Ho I5 En
theorem eX(s:MS)(n kind:Int){a k:Int}(hi:Kp a k s)(hn:0<=n/\n<=4294967296):∀(q:Nat) (j:Int),0<=j->j+q=3->Ah E0 (.loop 75 0 0 1 [(1,.i n),(2,.i kind),(3,.pa 0 0),(7,.i j)] [(0,some (.var (cv s)))]) fun r=>(∃ h:Int,(512<=h/\h<=514)/\r=some (.fin .ret 0 [(1,.i n),(6,.i h)] []))\/r=some (.fin (.exit 0) 0 [(1,.i n)] [])
 | 0,j,h0,hj=>by
  have hl:=hi.obl
  refine CU fun P hP=>?_
  refine tw ?_;exact hP _ (Or.inr rfl)
 | q+1,j,h0,hj=>by
  have hl:=hi.obl
  have ih:=eX s n kind hi hn q (j+1) zaa zaa
  refine CU fun P hP=>?_
  refine tw ?_;obtain⟨⟨⟨x0a,x0b,x0c,x0d,x0e⟩,⟨x0f,x0g,x0h⟩,x0i⟩,f0,g0⟩:=Dc hi.obm (i:=(n+j)%3) A7;simp only[Gh,GY,Gz,FZ,CZ,Df,Dh,DC] at f0;rw[g0];refine tw ?_
  rcases AX x0a 0 with hc1|hc1
  ·refine tw ?_
   rcases AL kind 0 with hc2|hc2
   ·subst hc2;refine tw ?_;exact hP _ (Or.inl ⟨512+(n+j)%3,A7,rfl⟩)
   refine tw ?_
   rcases AL x0a kind with hc3|hc3
   ·subst hc3;refine tw ?_;exact hP _ (Or.inl ⟨512+(n+j)%3,A7,rfl⟩)
   refine tw ?_;exact hP _ ih
  subst hc1;refine tw ?_;exact hP _ ih
theorem Ja(kind:Int)(hi:Kp a k s)(hn:0<=n/\n<=4294967296):Ah E0 (.call 75 [av s,.i n,.i kind] []) fun r=>∃ h:Int,(512<=h/\h<=514)/\r=some (.ret (.i h) []):=by
 have hl:=hi.obl
 refine CU fun P hP=>tw ?_
 obtain(⟨h0,⟨h0_1,h0_2⟩,yy0⟩|yy0):=eX s n kind hi A7 (Int.toNat (3-(0))) 0 A7 zaa
 ·refine Aq yy0 ?_;exact hP _ ⟨h0,A7,rfl⟩
 refine Aq yy0 ?_;exact hP _ ⟨512+n%3,A7,rfl⟩
theorem eY(s:MS)(n kind:Int){a k:Int}(hi:Kp a k s)(hn:0<=n/\n<=4294967296):∀(q:Nat) (j:Int),0<=j->j+q=3->Ah E0 (.loop 77 0 0 1 [(1,.i n),(2,.i kind),(3,.pa 0 0),(7,.i j)] [(0,some (.var (cv s)))]) fun r=>(∃ h:Int,(768<=h/\h<=770)/\r=some (.fin .ret 0 [(1,.i n),(6,.i h)] []))\/r=some (.fin (.exit 0) 0 [(1,.i n)] [])
 | 0,j,h0,hj=>by
  have hl:=hi.ssl
  refine CU fun P hP=>?_
  refine tw ?_;exact hP _ (Or.inr rfl)
 | q+1,j,h0,hj=>by
  have hl:=hi.ssl
  have ih:=eY s n kind hi hn q (j+1) zaa zaa
  refine CU fun P hP=>?_
  refine tw ?_;obtain⟨⟨x0a,x0b,x0c,x0d,x0e,x0f,x0g,x0h⟩,f0,g0⟩:=Dc hi.ssm (i:=(n+j)%3) A7;simp only[Gh,GY,Gz,FZ,CZ,Df,Dh,DC] at f0;rw[g0];refine tw ?_
  rcases AX x0a 0 with hc1|hc1
  ·refine tw ?_
   rcases AL kind 0 with hc2|hc2
   ·subst hc2;refine tw ?_;exact hP _ (Or.inl ⟨768+(n+j)%3,A7,rfl⟩)
   refine tw ?_
   rcases AL x0a kind with hc3|hc3
   ·subst hc3;refine tw ?_;exact hP _ (Or.inl ⟨768+(n+j)%3,A7,rfl⟩)
   refine tw ?_;exact hP _ ih
  subst hc1;refine tw ?_;exact hP _ ih
theorem LG(kind:Int)(hi:Kp a k s)(hn:0<=n/\n<=4294967296):Ah E0 (.call 77 [av s,.i n,.i kind] []) fun r=>∃ h:Int,(768<=h/\h<=770)/\r=some (.ret (.i h) []):=by
 have hl:=hi.ssl
 refine CU fun P hP=>tw ?_
 obtain(⟨h0,⟨h0_1,h0_2⟩,yy0⟩|yy0):=eY s n kind hi A7 (Int.toNat (3-(0))) 0 A7 zaa
 ·refine Aq yy0 ?_;exact hP _ ⟨h0,A7,rfl⟩
 refine Aq yy0 ?_;exact hP _ ⟨768+n%3,A7,rfl⟩
theorem YQ(hi:Kp a k s)(hn:0<=n/\n<=4294967296):Ah E0 (.call 82 [av s,.i n] []) fun r=>∃ h:Int,(256<=h/\h<=511)/\r=some (.ret (.i h) []):=by
 have hl:=hi.ixl
 have hmod:(0:Int)<s.ix.length->0<=n%Bj s.ix/\n%Bj s.ix<s.ix.length:=fun h=>by rw[BB];exact⟨Int.emod_nonneg _ zaa,Int.emod_lt_of_pos _ h⟩
 refine CU fun P hP=>tw ?_
 rcases AZ 0 (↑s.ix.length) with hc0|hc0
 ·replace hmod:=hmod hc0
  refine tw ?_
  rcases AZ (n%9) 8 with hc1|hc1
  ·refine tw ?_;obtain⟨⟨x2a,x2b,x2c,x2d,x2e,x2f,x2g,x2h⟩,f2,g2⟩:=Dc hi.ixm (i:=n%Bj s.ix) A7;simp only[Gh,GY,Gz,FZ,CZ,Df,Dh,DC] at f2;rw[g2];refine tw ?_;exact hP _ ⟨256+x2a,A7,rfl⟩
  refine tw ?_;exact hP _ ⟨256+n%5,A7,rfl⟩
 refine tw ?_;exact hP _ ⟨256+n%5,A7,rfl⟩
theorem A5f(hi:Kp a k s)(hn:0<=n/\n<=4294967296):Ah E0 (.call 79 [av s,.i n] []) fun r=>∃ h:Int,(0<=h/\h<=770)/\r=some (.ret (.i h) []):=by
 refine CU fun P hP=>tw ?_
 rcases AL (n%3) 0 with hc0|hc0
 ·refine tw ?_;exact hP _ ⟨n/3%4,A7,rfl⟩
 refine tw ?_
 rcases AL (n%3) 1 with hc1|hc1
 ·refine tw ?_;obtain⟨h2,⟨h2_1,h2_2⟩,yy2⟩:=YQ s (n/3) hi A7;refine Aq yy2 ?_;exact hP _ ⟨h2,A7,rfl⟩
 refine tw ?_;obtain⟨h3,⟨h3_1,h3_2⟩,yy3⟩:=Ja s (n/3) 0 hi A7;refine Aq yy3 ?_;exact hP _ ⟨h3,A7,rfl⟩
abbrev asT:Ty:=.pair .i64 (.pair (.pair .i64 .i64) (.pair (.sl .u8) (.pair .i64 (.pair .i64 (.pair (.sl .u8) (.pair (.sl .u8) (.pair (.sl .u8) (.sl (.sl .u8)))))))))
theorem wL(k s0 s1:Int)(d:List UInt8)(n o:Int)(x y z:List UInt8)(bs:List (List UInt8))(w:List UInt8)(h:SN d x y z bs)(hw:w.length<=2000):Ah E0 (.loop 200 0 0 0 [(0,.sl asT [(k,(s0,s1),d,n,o,x,y,z,bs)]),(3,.sl .u8 w),(4,.i 0)] []) fun r=>(∃ l:List UInt8,r=some (.fin .ret 0 [(2,.nil),(3,.sl .u8 l)] []))\/∃ l:List UInt8,(l.length<=32)/\r=some (.fin (.exit 0) 0 [(3,.sl .u8 l)] []):=by
 refine CU fun P hP=>?_
 refine tw ?_;obtain⟨l0,h0_1,yy0⟩:=EF w k s0 s1 d n o x y z bs A7 A7;refine Aq yy0 ?_
 rcases AL (↑l0.length) 0 with hc1|hc1
 ·refine tw ?_;exact hP _ (Or.inl ⟨l0,rfl⟩)
 refine tw ?_;refine tw ?_;exact hP _ (Or.inr ⟨l0,A7,rfl⟩)
theorem aX(k s0 s1:Int)(d:List UInt8)(n o:Int)(x y z:List UInt8)(bs:List (List UInt8))(h:SN d x y z bs):Ah E0 (.call 200 [.sl asT [(k,(s0,s1),d,n,o,x,y,z,bs)]] []) fun r=>∃ l:List UInt8,(l.length<=32)/\r=some (.ret (.sl .u8 l) []):=by
 refine CU fun P hP=>tw ?_
 obtain⟨l0,h0_1,yy0⟩:=UA;refine Aq yy0 ?_
 obtain(⟨l1,yy1⟩|⟨l1_1,h1_2,yy1⟩):=wL k s0 s1 d n o x y z bs l0 A7 A7
 ·refine Aq yy1 ?_;exact hP _ ⟨[],A7,rfl⟩
 refine Aq yy1 ?_;exact hP _ ⟨l1_1,A7,rfl⟩
theorem YR(hi:Kp a k s)(hn:0<=n/\n<=4294967296):Ah E0 (.call 144 [av s,.i n,.sl .u8 b] []) fun r=>∃ l:List UInt8,(l.length<=32)/\r=some (.ret (.sl .u8 l) []):=by
 refine CU fun P hP=>tw ?_
 rcases AL (n%4) 0 with hc0|hc0
 ·refine tw ?_;exact hP _ ⟨[],A7,rfl⟩
 refine tw ?_
 rcases AL (n%4) 1 with hc1|hc1
 ·refine tw ?_;obtain⟨l2,h2_1,yy2⟩:=aX 7 0 0 [] 0 0 [] [] [] [] (by(exact as0 zam zam));refine Aq yy2 ?_;exact hP _ ⟨l2,A7,rfl⟩
 refine tw ?_
 rcases AL (n%4) 2 with hc3|hc3
 ·refine tw ?_;obtain⟨h4,⟨h4_1,h4_2⟩,yy4⟩:=LG s n 2 hi A7;refine Aq yy4 ?_;obtain⟨e5,c5_1,n5_2,d5_3,u5_4,l5_5,m5_6,t5_7,b5_8,⟨h5_9,h5_10,h5_11⟩,yy5⟩:=Iy s h4 hi A7;refine Aq yy5 ?_
  rcases AL e5 0 with hc6|hc6
  ·subst hc6
   replace h5_9:=h5_9 rfl
   refine tw ?_;exact hP _ ⟨d5_3,A7,rfl⟩
  refine tw ?_;obtain⟨l7,h7_1,yy7⟩:=aX 2 0 0 [] 31 0 [] [] [] [] (by(exact as0 zam zam));refine Aq yy7 ?_;exact hP _ ⟨l7,A7,rfl⟩
 refine tw ?_;obtain⟨l8,h8_1,yy8⟩:=aX 2 0 0 [] 31 0 [] [] [] [] (by(exact as0 zam zam));refine Aq yy8 ?_;exact hP _ ⟨l8,A7,rfl⟩
theorem SG(hi:Kp a k s)(hn:0<=n/\n<=4294967296)(hb:b.length<=1000):Ah E0 (.call 74 [av s,.i n,.sl .u8 b] []) fun r=>∃(i1 i2 i3:Int) (o u d:List UInt8),(1<=i1/\i1<=3/\o.length<=32/\u.length<=1000/\d.length<=1000)/\r=some (.ret (.tup [.sl .i64 [i1,i2,i3],.sl (.sl .u8) [o,u,d]]) []):=by
 refine CU fun P hP=>?_
 rw[Ad]
 conv=>arg 1;whnf
 rw[AA zaa]
 conv=>arg 1;whnf
 rw[AA zaa]
 conv=>arg 1;whnf
 rw[AA zaa]
 conv=>arg 1;whnf
 rw[FO zaa];rw[Au zaa]
 rcases AL (1+n%3) 2 with hc0|hc0
 ·refine tw ?_;obtain⟨l1,h1_1,yy1⟩:=YR s (n/5) b hi A7;refine Aq yy1 ?_
  rcases AL (↑l1.length) 0 with hc2|hc2
  ·refine tw ?_
   rcases AZ (n%11) 10 with hc3|hc3
   ·refine tw ?_;rw[Fz _ _ A7];refine tw ?_;exact hP _ ⟨1+n%3,BA BinOp.or (BA BinOp.or (n/3%4) (n/12%2*4)) 1,n/24%2,l1,List.take (n%3).toNat b,[],A7,rfl⟩
   refine tw ?_;rw[Fz _ _ A7];refine tw ?_;exact hP _ ⟨1+n%3,BA BinOp.or (n/3%4) (n/12%2*4),n/24%2,l1,List.take (n%3).toNat b,[],A7,rfl⟩
  refine tw ?_;rw[Fz _ _ A7];refine tw ?_;exact hP _ ⟨1+n%3,BA BinOp.or (n/3%4) (n/12%2*4),n/24%2,l1,List.take (n%3).toNat b,[],A7,rfl⟩
 refine tv ?_
 rcases AL (1+n%3) 3 with hc4|hc4
 ·refine tv ?_;rw[Fz _ _ A7];refine tw ?_;obtain⟨l5,h5_1,yy5⟩:=YR s (n/5) b hi A7;refine Aq yy5 ?_
  rcases AL (↑l5.length) 0 with hc6|hc6
  ·refine tw ?_
   rcases AZ (n%11) 10 with hc7|hc7
   ·refine tw ?_;rw[Fz _ _ A7];refine tw ?_;exact hP _ ⟨1+n%3,BA BinOp.or (n/3%4) 1,0,l5,List.take (n%3).toNat b,List.take (Int.toNat 20) b,A7,rfl⟩
   refine tw ?_;rw[Fz _ _ A7];refine tw ?_;exact hP _ ⟨1+n%3,n/3%4,0,l5,List.take (n%3).toNat b,List.take (Int.toNat 20) b,A7,rfl⟩
  refine tw ?_;rw[Fz _ _ A7];refine tw ?_;exact hP _ ⟨1+n%3,n/3%4,0,l5,List.take (n%3).toNat b,List.take (Int.toNat 20) b,A7,rfl⟩
 refine tw ?_;obtain⟨l8,h8_1,yy8⟩:=YR s (n/5) b hi A7;refine Aq yy8 ?_
 rcases AL (↑l8.length) 0 with hc9|hc9
 ·refine tw ?_
  rcases AZ (n%11) 10 with hc10|hc10
  ·refine tw ?_;rw[Fz _ _ A7];refine tw ?_;exact hP _ ⟨1+n%3,BA BinOp.or (n/3%4) 1,0,l8,List.take (n%3).toNat b,[],A7,rfl⟩
  refine tw ?_;rw[Fz _ _ A7];refine tw ?_;exact hP _ ⟨1+n%3,n/3%4,0,l8,List.take (n%3).toNat b,[],A7,rfl⟩
 refine tw ?_;rw[Fz _ _ A7];refine tw ?_;exact hP _ ⟨1+n%3,n/3%4,0,l8,List.take (n%3).toNat b,[],A7,rfl⟩
theorem zF(hi:Kp a k s)(hn:0<=n/\n<=4294967296)(hb:b.length<=1000):Ah E0 (.call 81 [av s,.i n,.sl .u8 b] []) fun r=>∃(i1 i2 i3 i4:Int) (o u:List UInt8),(o.length<=1000/\u.length<=32)/\r=some (.ret (.tup [.sl .i64 [i1,i2,i3,i4],.sl (.sl .u8) [o,u]]) []):=by
 refine CU fun P hP=>?_
 rw[Ad]
 conv=>arg 1;whnf
 rw[AA zaa]
 conv=>arg 1;whnf
 rw[AA zaa]
 conv=>arg 1;whnf
 rw[AA zaa]
 conv=>arg 1;whnf
 try dsimp -iota -beta -eta -zeta only
 rw[FC zaa];rw[AQ];obtain⟨l0,h0_1,yy0⟩:=YR s (n/7) b hi A7;refine tvn yy0 ?_
 rcases AL (↑l0.length) 0 with hc1|hc1
 ·rw[EH zaB]
  conv=>arg 1;whnf
  rw[FC zaa];rw[FO zaa];rw[Au zaa];rw[FC zaa];rw[FO zaa];rw[Ad]
  conv=>arg 1;whnf
  rw[AA zaa]
  conv=>arg 1;whnf
  rw[CY zaa];rw[Gw zaB]
  conv=>arg 1;whnf
  try dsimp -iota -beta -eta -zeta only
  (obtain⟨z,mz,gz⟩:=EY (l:=([12,8,8,32]:List Int)) (i:=1+n/5%4-1) zaC;rw[gz])
  conv=>arg 1;whnf
  rw[AA zaa]
  conv=>arg 1;whnf
  try dsimp -iota -beta -eta -zeta only
  rw[FO zaa];rw[AQ];rw[Fz _ _ A7];refine tw ?_;exact hP _ ⟨n%5,1+n/5%4,BA BinOp.andNot (BA BinOp.or (BA BinOp.or (n/3%128) 1) 2) 12,z,List.take (n%3).toNat b,l0,A7,rfl⟩
 rw[AA zaB]
 conv=>arg 1;whnf
 rw[FC zaa];rw[FO zaa];rw[Au zaa];rw[FC zaa];rw[FO zaa];rw[Ad]
 conv=>arg 1;whnf
 rw[AA zaa]
 conv=>arg 1;whnf
 rw[CY zaa];rw[Gw zaB]
 conv=>arg 1;whnf
 try dsimp -iota -beta -eta -zeta only
 (obtain⟨z,mz,gz⟩:=EY (l:=([12,8,8,32]:List Int)) (i:=1+n/5%4-1) zaC;rw[gz])
 conv=>arg 1;whnf
 rw[AA zaa]
 conv=>arg 1;whnf
 try dsimp -iota -beta -eta -zeta only
 rw[FO zaa];rw[AQ];rw[Fz _ _ A7];refine tw ?_;exact hP _ ⟨n%5,1+n/5%4,BA BinOp.or (BA BinOp.or (n/3%128) 1) 2,z,List.take (n%3).toNat b,l0,A7,rfl⟩
end
section
attribute [local irreducible] Cc Dn D7 DU DD BA Dp F7 FY FD Ez Ci CS DK DV and' DW DL C9 BR Bh CB CG BG BI Aw BC Dq Fh Dt ER DX Bl CE Bv Bz Bi Az Bg BK Bj BO Du Bc DF BZ BM Cj Di fits Dv Dk Ac Am BH
attribute [local irreducible] Dw CJ Be nameB EL Eh Ar ET E8 Ea ES F8 BV GX Eg Fv FU EE Fa Ej Ho I5 En
theorem pz(s:MS)(n:Int)(b:List UInt8){a k:Int}(hi:Kp a k s):∀(q:Nat) (j h:Int),0<=j->j+q=3->768<=h/\h<=770->Ah E0 (.loop 78 0 0 1 [(1,.i n),(3,.sl .u8 b),(4,.pa 0 0),(10,.i h),(11,.i j)] [(0,some (.var (cv s)))]) fun r=>∃ h:Int,(768<=h/\h<=770)/\r=some (.fin (.exit 0) 1 [(1,.i n),(3,.sl .u8 b),(4,.pa 0 0),(10,.i h)] [(0,some (.var (cv s)))])
 | 0,j,h,h0,hj,hh=>by
  have hl:=hi.ssl
  refine CU fun P hP=>?_
  refine tw ?_;exact hP _ ⟨h,A7,rfl⟩
 | q+1,j,h,h0,hj,hh=>by
  have hl:=hi.ssl
  have ih:=fun h=>pz s n b hi q (j+1) h zaa zaa
  refine CU fun P hP=>?_
  refine tw ?_;rw[iy _ _ A7];refine tw ?_;obtain⟨⟨x0a,x0b,x0c,x0d,x0e,x0f,x0g,x0h⟩,f0,g0⟩:=Dc hi.ssm (i:=(h-768)%3) A7;simp only[Gh,GY,Gz,FZ,CZ,Df,Dh,DC] at f0;rw[g0];refine tw ?_
  rcases AL x0a 1 with hc1|hc1
  ·subst hc1;rw[EH zaa]
   conv=>arg 1;whnf
   rw[AA zaa]
   conv=>arg 1;whnf
   try dsimp -iota -beta -eta -zeta only
   rw[CY zaa];rw[Au (a:=h-768) (b:=1) zaa];rw[FO zaa];rw[Au zaa];rw[Au zaa];exact hP _ (ih _ zaa)
  refine tw ?_;exact hP _ ⟨h,A7,rfl⟩
theorem YS(hi:Kp a k s)(hn:0<=n/\n<=4294967296)(hm:0<=m/\m<=4294967296)(hb:b.length<=1000):Ah E0 (.call 78 [av s,.i n,.i m,.sl .u8 b] []) fun r=>∃(is:List Int) (bs:List (List UInt8)),(is.length=6/\bs.length<=2/\∀ x∈bs,x.length<=2000)/\r=some (.ret (.tup [.sl .i64 is,.sl (.sl .u8) bs]) []):=by
 refine CU fun P hP=>tw ?_
 obtain⟨h0,⟨h0_1,h0_2⟩,yy0⟩:=LG s m 0 hi A7;refine Aq yy0 ?_;obtain⟨h1,⟨h1_1,h1_2⟩,yy1⟩:=pz s n b hi (Int.toNat (3-(0))) 0 h0 A7 zaa A7;refine Aq yy1 ?_
 rcases AL (n%8) 0 with hc2|hc2
 ·refine tw ?_
  rcases AL (n/8%4) 3 with hc3|hc3
  ·refine tw ?_;rw[IK _];refine tw ?_
   refine hP _ ⟨[h1,1,D7 (BA BinOp.and s.ac 1) (n/8%256),D7 (DU s.ac 2) (DD (DU n 3) 65536),0,0],[CJ b],?_,rfl⟩;(refine⟨rfl,by simp,?_⟩;simp only[List.forall_mem_cons,List.not_mem_nil,false_implies,implies_true,and_true];(repeat' apply And.intro)<;>first|omega|(rw[AP];decide)|(rw[List.length_take];omega)|(simp;omega))
  refine tw ?_;exact hP _ ⟨[h1,1,D7 (BA BinOp.and s.ac 1) (n/8%256),D7 (DU s.ac 2) (DD (DU n 3) 65536),0,0],[[]],clo,rfl⟩
 refine tw ?_
 rcases AL (n%8) 1 with hc4|hc4
 ·refine tw ?_
  rcases AL (n/8%4) 3 with hc5|hc5
  ·refine tw ?_;rw[IK _];refine tw ?_
   refine hP _ ⟨[h1,1,D7 (BA BinOp.and s.ac 1) (n/8%256),D7 (DU s.ac 2) (DD (DU n 3) 65536),0,0],[CJ b],?_,rfl⟩;(refine⟨rfl,by simp,?_⟩;simp only[List.forall_mem_cons,List.not_mem_nil,false_implies,implies_true,and_true];(repeat' apply And.intro)<;>first|omega|(rw[AP];decide)|(rw[List.length_take];omega)|(simp;omega))
  refine tw ?_;exact hP _ ⟨[h1,1,D7 (BA BinOp.and s.ac 1) (n/8%256),D7 (DU s.ac 2) (DD (DU n 3) 65536),0,0],[[]],clo,rfl⟩
 refine tw ?_
 rcases AL (n%8) 2 with hc6|hc6
 ·refine tw ?_;exact hP _ ⟨[h1,2,0,0,1+n/8%31,0],[],clo,rfl⟩
 refine tw ?_
 rcases AL (n%8) 3 with hc7|hc7
 ·refine tw ?_
  (obtain⟨z,mz,gz⟩:=EY (l:=([13,14,15,23,24]:List Int)) (i:=n/8%5) zaC;rw[gz]);refine tw ?_;exact hP _ ⟨[h1,3,0,0,z,0],[],clo,rfl⟩
 refine tw ?_
 rcases AL (n%8) 4 with hc8|hc8
 ·refine tw ?_;obtain⟨h9,⟨h9_1,h9_2⟩,yy9⟩:=YQ s (n/8) hi A7;refine tvn yy9 ?_;rw[Fz _ _ A7];refine tw ?_;exact hP _ ⟨[h1,4,0,0,h9,n/32%4],[List.take (Int.toNat 3) b],A7,rfl⟩
 refine tw ?_
 rcases AL (n%8) 5 with hc10|hc10
 ·refine tw ?_;exact hP _ ⟨[h1,5,0,0,n%300,n/8%4],[],clo,rfl⟩
 refine tw ?_
 rcases AL (n%8) 6 with hc11|hc11
 ·refine tw ?_;exact hP _ ⟨[h1,7,0,0,0,0],[],clo,rfl⟩
 refine tw ?_;obtain⟨e12,c12_1,n12_2,d12_3,u12_4,l12_5,m12_6,t12_7,b12_8,⟨h12_9,h12_10,h12_11⟩,yy12⟩:=Iy s h1 hi A7;refine Aq yy12 ?_;rw[IK _];refine tw ?_
 rcases AL (n/8%4) 0 with hc13|hc13
 ·refine tw ?_;rw[IK _];refine tw ?_;rw[IK _];refine tw ?_
  refine hP _ ⟨[h1,8,0,0,0,0],[CJ b,CJ []],?_,rfl⟩;(refine⟨rfl,by simp,?_⟩;simp only[List.forall_mem_cons,List.not_mem_nil,false_implies,implies_true,and_true];(repeat' apply And.intro)<;>first|omega|(rw[AP];decide)|(rw[List.length_take];omega)|(simp;omega))
 refine tw ?_
 rcases AL (↑d12_3.length) 0 with hc14|hc14
 ·refine tw ?_;rw[IK _];refine tw ?_;rw[IK _];refine tw ?_
  refine hP _ ⟨[h1,8,0,0,0,0],[CJ b,CJ []],?_,rfl⟩;(refine⟨rfl,by simp,?_⟩;simp only[List.forall_mem_cons,List.not_mem_nil,false_implies,implies_true,and_true];(repeat' apply And.intro)<;>first|omega|(rw[AP];decide)|(rw[List.length_take];omega)|(simp;omega))
 refine tw ?_
 refine hP _ ⟨[h1,8,0,0,0,0],[CJ b,d12_3],?_,rfl⟩;(refine⟨rfl,by simp,?_⟩;simp only[List.forall_mem_cons,List.not_mem_nil,false_implies,implies_true,and_true];(repeat' apply And.intro)<;>first|omega|(rw[AP];decide)|(rw[List.length_take];omega)|(simp;omega))
theorem aY(h n:Int)(b:List UInt8)(hi:Kp a k s)(hn:0<=n/\n<=4294967296)(hb:b.length<=1000):Ah E0 (.call 76 [av s,.i h,.i n,.sl .u8 b] []) fun r=>∃ o u:List UInt8,(o.length<=2000/\u.length<=2000)/\r=some (.ret (.sl (.sl .u8) [o,u]) []):=by
 have hol:=hi.obl
 refine CU fun P hP=>tw ?_
 rw[Eu (hl:=A7) ..];refine tw ?_
 rcases AZ (Jl h s.ob) 0 with hc0|hc0
 ·refine tw ?_;exact hP _ ⟨b,b,A7,rfl⟩
 refine tw ?_;obtain⟨i11,i21_1,i31_2,o1_3,u1_4,d1_5,⟨h1_6,h1_7,h1_8,h1_9,h1_10⟩,yy1⟩:=SG s n b hi A7 A7;refine Aq yy1 ?_;rw[Fz _ _ A7];refine tw ?_
 (rw[U7 _ _ _ _ _ _ _ _ za5];have hml:=KJ (secret:=List.take (Int.toNat 8) b) (auth:=u1_4) (data:=d1_5) (p:=⟨i11,i21_1,i31_2,o1_3,[]⟩);generalize Be (List.take (Int.toNat 8) b) ⟨i11,i21_1,i31_2,o1_3,[]⟩ u1_4 d1_5=M at *;obtain⟨⟨qk,qa,qt,qo,qu⟩,⟨qx,qy,qz⟩,er⟩:=M;dsimp only[PI,Xu] at *)
 refine tw ?_
 rcases AX er 0 with hc2|hc2
 ·refine tw ?_;exact hP _ ⟨b,b,A7,rfl⟩
 subst hc2;refine tw ?_
 have q3:=PP (h) (s.ob)
 obtain⟨⟨⟨x3a,x3b,x3c,x3d,x3e⟩,⟨x3f,x3g,x3h⟩,x3i⟩,f3,g3⟩:=Dc hi.obm (i:=Jl h s.ob) A7;simp only[Gh,GY,Gz,FZ,CZ,Df,Dh,DC] at f3;rw[g3];refine tw ?_
 (rw[Zt _ _ _ _ _ _ _ _ _ _ _ zaa zaa zaa];have hpl:=A3t ⟨x3f,x3g,x3h⟩ ⟨qx,qy,qz⟩ ⟨qk,qa,qt,qo,qu⟩;have hpg:=A3y (par:=⟨x3f,x3g,x3h⟩) (p:=⟨qk,qa,qt,qo,qu⟩) (s:=⟨qx,qy,qz⟩) zay zay zay;generalize Ea ⟨x3f,x3g,x3h⟩ ⟨qk,qa,qt,qo,qu⟩ ⟨qx,qy,qz⟩=V at *)
 refine tw ?_
 rcases AL (n%13) 12 with hc4|hc4
 ·refine tw ?_;obtain⟨x5,m5,g5⟩:=EY (l:=V) (i:=Bj V-1) zah;rw[g5];refine tw ?_;rw[g5];refine tw ?_;rw[IY _ _ _ _ _ A7 A7];refine tw ?_
  refine hP _ ⟨EL {kind:=qk,attr:=qa,height:=qt,policy:=qo,unique:=qu},Bc V (Bj V-1) (DL BinOp.xor x5 (UInt8.ofNat 1)),?_,rfl⟩;(refine⟨?_,?_⟩<;>first|omega|(rw[Hf zay zay];simp only;omega)|(rw[GG,List.length_set];omega))
 refine tw ?_;rw[IY _ _ _ _ _ A7 A7];refine tw ?_
 refine hP _ ⟨EL {kind:=qk,attr:=qa,height:=qt,policy:=qo,unique:=qu},V,?_,rfl⟩;(refine⟨?_,?_⟩<;>first|omega|(rw[Hf zay zay];simp only;omega)|(rw[GG,List.length_set];omega))
theorem A3z(hi:Kp a k s)(hn:0<=n/\n<=4294967296)(hb:b.length<=1000):Ah E0 (.call 80 [av s,.i n,.sl .u8 b] []) fun r=>∃(h:Int) (o u v:List UInt8),(o.length<=2000/\u.length<=2000/\v.length<=2000)/\r=some (.ret (.tup [.sl .i64 [h],.sl (.sl .u8) [o,u,v]]) []):=by
 have hpk:=yZ (CJ (List.take (Int.toNat 2) b)) 0
 have hsg:∀ m,(Eg (CJ (List.take (Int.toNat 2) b)) 0 0 m).length=561:=fun m=>by rw[QR zal zal];rfl
 refine CU fun P hP=>tw ?_
 obtain⟨h0,⟨h0_1,h0_2⟩,yy0⟩:=LG s n 2 hi A7;refine Aq yy0 ?_;obtain⟨e1,c1_1,n1_2,d1_3,u1_4,l1_5,m1_6,t1_7,b1_8,⟨h1_9,h1_10,h1_11⟩,yy1⟩:=Iy s h0 hi A7;refine Aq yy1 ?_;rw[Fz _ _ A7];refine tw ?_;rw[IK _];refine tw ?_;rw[nH _ _ A7];refine tw ?_;rw[Fz _ _ A7];refine tw ?_;obtain⟨l2,h2_1,yy2⟩:=aF d1_3 (List.take (n%4).toNat b) A7 A7;refine Aq yy2 ?_;rw[X0 _ _ _ _ A7 A7];refine tw ?_
 rcases AL (n%5) 4 with hc3|hc3
 ·refine tw ?_;rw[X0 _ _ _ _ A7 A7];refine tw ?_;rw[IY _ _ _ _ _ zam zaa];refine tw ?_
  refine hP _ ⟨h0,EL {kind:=2,attr:=1,height:=0,policy:=[],unique:=En (CJ (List.take (Int.toNat 2) b)) 0},List.take (n%4).toNat b,Eg (CJ (List.take (Int.toNat 2) b)) 0 0 b,?_,rfl⟩;(refine⟨?_,?_,?_⟩<;>first|omega|(rw[Hf zam zay];simp only[List.length_nil];omega)|(rw[hsg];decide)|(rw[List.length_take];omega))
 refine tw ?_;rw[IY _ _ _ _ _ zam zaa];refine tw ?_
 refine hP _ ⟨h0,EL {kind:=2,attr:=1,height:=0,policy:=[],unique:=En (CJ (List.take (Int.toNat 2) b)) 0},List.take (n%4).toNat b,Eg (CJ (List.take (Int.toNat 2) b)) 0 0 l2,?_,rfl⟩;(refine⟨?_,?_,?_⟩<;>first|omega|(rw[Hf zam zay];simp only[List.length_nil];omega)|(rw[hsg];decide)|(rw[List.length_take];omega))
theorem Lj(hi:Kp a k s)(hn:0<=n/\n<=4294967296)(hk:0<=k'/\k'<=7)(hb:b.length<=1000):Ah E0 (.call 83 [av s,.i k',.i n,.sl .u8 b] []) fun r=>∃(c h1 h2:Int) (is:List Int) (bs:List (List UInt8)),(is.length<=2/\bs.length<=1/\∀ x∈bs,x.length<=1000)/\r=some (.ret (rq c [h1,h2] [] is bs) []):=by
 have hxl:=hi.ixl
 have hxm:=hi.ixm
 refine CU fun P hP=>tw ?_
 obtain⟨h0,⟨h0_1,h0_2⟩,yy0⟩:=YQ s n hi A7;refine Aq yy0 ?_
 rcases AL (n/9%4) 0 with hc1|hc1
 ·refine tv ?_;rw[Fz _ _ A7];refine tv ?_;rw[Et (hl:=A7) (hx:=A7) ..];refine tv ?_
  rcases DJ 0 (Lu h0 s.ix) with hc2|hc2
  ·refine tv ?_
   have q3:=JL (h0) (s.ix)
   obtain⟨⟨x3a,x3b,x3c,x3d,x3e,x3f,x3g,x3h⟩,f3,g3⟩:=Dc hxm (i:=Lu h0 s.ix) A7;simp only[Gh,GY,Gz,FZ,CZ,Df,Dh,DC] at f3;rw[g3];refine tw ?_
   rcases AZ k' 2 with hc4|hc4
   ·refine tw ?_;exact hP _ ⟨24,1,h0,[n%3,n/3%10],[],clo,rfl⟩
   refine tw ?_
   rcases AL k' 2 with hc5|hc5
   ·subst hc5;refine tw ?_;exact hP _ ⟨28+n%2,1,h0,[],[],A7,rfl⟩
   refine tw ?_
   rcases AL x3b 2 with hc6|hc6
   ·subst hc6;refine tw ?_;exact hP _ ⟨25,1,h0,[],[],A7,rfl⟩
   refine tw ?_
   rcases AL k' 7 with hc7|hc7
   ·subst hc7;refine tw ?_;exact hP _ ⟨25,1,h0,[],[],A7,rfl⟩
   refine tw ?_
   rcases AL x3b 3 with hc8|hc8
   ·subst hc8;refine tw ?_;rw[IK _];refine tw ?_;exact hP _ ⟨26,1,h0,[],[List.take (Int.toNat 8) (CJ b)],A7,rfl⟩
   refine tw ?_
   rcases AL x3b 4 with hc9|hc9
   ·subst hc9;refine tw ?_;exact hP _ ⟨27,1,h0,[],[b],A7,rfl⟩
   refine tw ?_;exact hP _ ⟨23,1,h0,[n%6],[List.take (Int.toNat 6) b],A7,rfl⟩
  refine tw ?_
  rcases AZ k' 2 with hc10|hc10
  ·refine tw ?_;exact hP _ ⟨24,1,h0,[n%3,n/3%10],[],clo,rfl⟩
  refine tw ?_
  rcases AL k' 2 with hc11|hc11
  ·subst hc11;refine tw ?_;exact hP _ ⟨28+n%2,1,h0,[],[],A7,rfl⟩
  refine tw ?_
  rcases AL k' 7 with hc12|hc12
  ·subst hc12;refine tw ?_;exact hP _ ⟨25,1,h0,[],[],A7,rfl⟩
  refine tw ?_;exact hP _ ⟨23,1,h0,[n%6],[List.take (Int.toNat 6) b],A7,rfl⟩
 refine tv ?_;rw[Fz _ _ A7];refine tv ?_;rw[Et (hl:=A7) (hx:=A7) ..];refine tv ?_
 rcases DJ 0 (Lu h0 s.ix) with hc13|hc13
 ·refine tv ?_
  have q14:=JL (h0) (s.ix)
  obtain⟨⟨x14a,x14b,x14c,x14d,x14e,x14f,x14g,x14h⟩,f14,g14⟩:=Dc hxm (i:=Lu h0 s.ix) A7;simp only[Gh,GY,Gz,FZ,CZ,Df,Dh,DC] at f14;rw[g14];refine tw ?_
  rcases AZ k' 2 with hc15|hc15
  ·refine tw ?_;exact hP _ ⟨24,h0,h0,[n%3,n/3%10],[],clo,rfl⟩
  refine tw ?_
  rcases AL k' 2 with hc16|hc16
  ·subst hc16;refine tw ?_;exact hP _ ⟨28+n%2,h0,h0,[],[],A7,rfl⟩
  refine tw ?_
  rcases AL x14b 2 with hc17|hc17
  ·subst hc17;refine tw ?_;exact hP _ ⟨25,h0,h0,[],[],A7,rfl⟩
  refine tw ?_
  rcases AL k' 7 with hc18|hc18
  ·subst hc18;refine tw ?_;exact hP _ ⟨25,h0,h0,[],[],A7,rfl⟩
  refine tw ?_
  rcases AL x14b 3 with hc19|hc19
  ·subst hc19;refine tw ?_;rw[IK _];refine tw ?_;exact hP _ ⟨26,h0,h0,[],[List.take (Int.toNat 8) (CJ b)],A7,rfl⟩
  refine tw ?_
  rcases AL x14b 4 with hc20|hc20
  ·subst hc20;refine tw ?_;exact hP _ ⟨27,h0,h0,[],[b],A7,rfl⟩
  refine tw ?_;exact hP _ ⟨23,h0,h0,[n%6],[List.take (Int.toNat 6) b],A7,rfl⟩
 refine tw ?_
 rcases AZ k' 2 with hc21|hc21
 ·refine tw ?_;exact hP _ ⟨24,h0,h0,[n%3,n/3%10],[],clo,rfl⟩
 refine tw ?_
 rcases AL k' 2 with hc22|hc22
 ·subst hc22;refine tw ?_;exact hP _ ⟨28+n%2,h0,h0,[],[],A7,rfl⟩
 refine tw ?_
 rcases AL k' 7 with hc23|hc23
 ·subst hc23;refine tw ?_;exact hP _ ⟨25,h0,h0,[],[],A7,rfl⟩
 refine tw ?_;exact hP _ ⟨23,h0,h0,[n%6],[List.take (Int.toNat 6) b],A7,rfl⟩
theorem Xl(c:Int)(hs:List Int)(az:List (El AY))(is:List Int)(bs:List (List UInt8))(hi:Kp a k s)(hf:Few hs az is bs):Ah E0 (.call 152 [av s,rq c hs az is bs] []) fun r=>∃ ns:List (List UInt8),(ns.length<=10/\∀ x∈ns,x.length<=32)/\r=some (.ret (.sl (.sl .u8) ns) []):=by
 refine CU fun P hP=>tw ?_
 obtain⟨ns0,⟨h0_1,h0_2⟩,yy0⟩:=Xi s c hs az is bs hi A7;refine Aq yy0 ?_;exact hP _ ⟨ns0,clo,rfl⟩
theorem EG(c h:Int)(hs:List Int)(is:List Int)(bs:List (List UInt8))(m:Int)(b:List UInt8)(hi:Kp a k s)(hf:Few (h::hs) [] is bs)(hm:0<=m/\m<=4294967296)(hb:b.length<=1000):Ah E0 (.call 84 [av s,rq c (h::hs) [] is bs,.i m,.sl .u8 b] []) fun r=>∃(y1:Int) (y2 y3:List UInt8),(y2.length<=1000/\y3.length<=1000)/\r=some (.ret (rq c (h::hs) [(y1,y2,y3)] is bs) []):=by
 refine CU fun P hP=>tw ?_
 obtain⟨l0,h0_1,yy0⟩:=Qj s h hi;refine Aq yy0 ?_
 rcases AL (m%8) 0 with hc1|hc1
 ·refine tw ?_;exact hP _ ⟨0,[],BM (BM [] l0) [UInt8.ofNat 1],A7,rfl⟩
 refine tw ?_
 rcases AL (m%8) 1 with hc2|hc2
 ·refine tw ?_;obtain⟨h3,⟨h3_1,h3_2⟩,yy3⟩:=LG s (m/8) 1 hi A7;refine Aq yy3 ?_;obtain⟨e4,c4_1,n4_2,d4_3,u4_4,l4_5,m4_6,t4_7,b4_8,⟨h4_9,h4_10,h4_11⟩,yy4⟩:=Iy s h3 hi A7;refine Aq yy4 ?_
  rcases AL e4 0 with hc5|hc5
  ·subst hc5
   replace h4_9:=h4_9 rfl
   refine tw ?_
   rcases AL c4_1 1 with hc6|hc6
   ·subst hc6;refine tw ?_;rw[Fz _ _ A7];refine tw ?_;obtain⟨ns7,⟨h7_1,h7_2⟩,yy7⟩:=Xl s c (h::hs) [] is bs hi A7;refine Aq yy7 ?_;obtain⟨l8,h8_1,yy8⟩:=X8 c (h::hs) [] is bs ns7 A7 A7 A7;refine Aq yy8 ?_;obtain⟨l9,h9_1,yy9⟩:=X9 l0 l8 n4_2 (List.take (Int.toNat 16) b) A7 A7 A7 A7;rw[yy9]
    conv=>arg 1;whnf
    try dsimp -iota -beta -eta -zeta only
    rw[drw zas];conv=>arg 1;whnf
    rw[AA zaa]
    conv=>arg 1;whnf
    rw[FO zaa];rw[AA zaa]
    conv=>arg 1;whnf
    rw[Ad]
    conv=>arg 1;whnf
    rw[Ad]
    conv=>arg 1;whnf
    try dsimp -iota -beta -eta -zeta only
    exact hP _ ⟨h3,List.take (Int.toNat 16) b,l9,A7,rfl⟩
   refine tw ?_;exact hP _ ⟨h3,[],l0,A7,rfl⟩
  refine tw ?_;exact hP _ ⟨h3,[],l0,A7,rfl⟩
 refine tw ?_
 rcases AL (m%8) 2 with hc10|hc10
 ·refine tw ?_;obtain⟨h11,⟨h11_1,h11_2⟩,yy11⟩:=LG s (m/8) 1 hi A7;refine Aq yy11 ?_;obtain⟨e12,c12_1,n12_2,d12_3,u12_4,l12_5,m12_6,t12_7,b12_8,⟨h12_9,h12_10,h12_11⟩,yy12⟩:=Iy s h11 hi A7;refine Aq yy12 ?_
  rcases AL e12 0 with hc13|hc13
  ·subst hc13
   replace h12_9:=h12_9 rfl
   refine tw ?_
   rcases AL c12_1 1 with hc14|hc14
   ·subst hc14;refine tw ?_;rw[Fz _ _ A7];refine tw ?_;obtain⟨ns15,⟨h15_1,h15_2⟩,yy15⟩:=Xl s c (h::hs) [] is bs hi A7;refine Aq yy15 ?_;obtain⟨l16,h16_1,yy16⟩:=X8 c (h::hs) [] is bs ns15 A7 A7 A7;refine Aq yy16 ?_;obtain⟨l17,h17_1,yy17⟩:=X9 l0 l16 n12_2 (List.take (Int.toNat 16) b) A7 A7 A7 A7;refine Aq yy17 ?_
    rcases AL (m%16) 2 with hc18|hc18
    ·refine tw ?_;exact hP _ ⟨h11,BM (BM [] (List.take (Int.toNat 16) b)) [UInt8.ofNat 1],l17,A7,rfl⟩
    rw[AA zaa]
    conv=>arg 1;whnf
    rw[Ad]
    conv=>arg 1;whnf
    rw[Ad]
    conv=>arg 1;whnf
    try dsimp -iota -beta -eta -zeta only
    exact hP _ ⟨h11,List.take (Int.toNat 16) b,l17,A7,rfl⟩
   refine tw ?_;exact hP _ ⟨h11,[],l0,A7,rfl⟩
  refine tw ?_;exact hP _ ⟨h11,[],l0,A7,rfl⟩
 refine tw ?_
 rcases AL (m%8) 3 with hc19|hc19
 ·refine tw ?_;obtain⟨h20,⟨h20_1,h20_2⟩,yy20⟩:=LG s (m/8) 2 hi A7;refine Aq yy20 ?_;exact hP _ ⟨h20,[],l0,A7,rfl⟩
 refine tw ?_
 rcases AL (m%8) 4 with hc21|hc21
 ·refine tw ?_;obtain⟨h22,⟨h22_1,h22_2⟩,yy22⟩:=LG s (m/8) 2 hi A7;refine Aq yy22 ?_;exact hP _ ⟨h22,[],l0,A7,rfl⟩
 refine tw ?_;exact hP _ ⟨0,[],l0,A7,rfl⟩
end
section
attribute [local irreducible] Cc Dn D7 DU DD BA Dp F7 FY FD Ez Ci CS DK DV and' DW DL C9 BR Bh CB CG BG BI Aw BC Dq Fh Dt ER DX Bl CE Bv Bz Bi Az Bg BK Bj BO Du Bc DF BZ BM Cj Di fits Dv Dk Ac Am BH
attribute [local irreducible] Dw CJ Be nameB EL Eh Ar ET E8 Ea ES F8 BV GX Eg Fv FU EE Fa Ej Ho I5 En
theorem A0r(hi:Kp a k s)(hq:0<=k'%48/\k'%48<=11)(hb:b.length<=140737488355328):Ah E0 (.call 23 [av s,.i k',.i n,.i m,.sl .u8 b] []) fun r=>∃(c:Int) (hs:List Int) (az:List (El AY)) (is:List Int) (bs:List (List UInt8)),(Few hs az is bs)/\r=some (.ret (rq c hs az is bs) []):=by
 have hol:=hi.obl
 have hsl:=hi.ssl
 have hac:=hi.ac
 refine CU fun P hP=>tw ?_
 rw[FX _ _ zaa];refine tw ?_;rw[FX _ _ zaa];refine tw ?_;rw[FX _ _ zaa];refine tw ?_;rw[Fz _ _ A7];refine tw ?_
 rcases AL (k'%48) 0 with hc0|hc0
 ·refine tw ?_;refine hP _ ⟨4,[],[],[],[],?_,rfl⟩;exact Bf
 refine tw ?_
 rcases AL (k'%48) 1 with hc1|hc1
 ·refine tw ?_;refine hP _ ⟨5,[],[],[n%1073741824%3,n%1073741824/3%17],[],?_,rfl⟩;exact Bf
 refine tw ?_
 rcases AL (k'%48) 2 with hc2|hc2
 ·refine tv ?_;obtain⟨l3,⟨h3_1,h3_2⟩,yy3⟩:=qA s.ac (List.take (Int.toNat 60) b) A7 A7;refine Aq yy3 ?_;refine hP _ ⟨6,[],[],[n%1073741824%16],l3,?_,rfl⟩;exact Bf
 refine tw ?_
 rcases AL (k'%48) 3 with hc4|hc4
 ·refine tv ?_;obtain⟨l5,⟨h5_1,h5_2⟩,yy5⟩:=qA s.ac (List.take (Int.toNat 60) b) A7 A7;refine Aq yy5 ?_;refine hP _ ⟨6,[],[],[n%1073741824%16],l5,?_,rfl⟩;exact Bf
 refine tw ?_
 rcases AL (k'%48) 4 with hc6|hc6
 ·refine tw ?_;refine hP _ ⟨7,[],[],[n%1073741824%16],[List.take (Int.toNat 60) b],?_,rfl⟩;exact Bf
 refine tw ?_
 rcases AL (k'%48) 5 with hc7|hc7
 ·refine tw ?_;refine hP _ ⟨7,[],[],[n%1073741824%16],[List.take (Int.toNat 60) b],?_,rfl⟩;exact Bf
 refine tw ?_
 rcases AL (k'%48) 6 with hc8|hc8
 ·refine tw ?_;refine hP _ ⟨7,[],[],[n%1073741824%16],[List.take (Int.toNat 60) b],?_,rfl⟩;exact Bf
 rw[AA zaa]
 conv=>arg 1;whnf
 rw[Ad]
 conv=>arg 1;whnf
 rcases AL (k'%48) 7 with hc9|hc9
 ·refine tw ?_;refine hP _ ⟨8,[],[],[10+n%1073741824%6],[],?_,rfl⟩;exact Bf
 refine tw ?_
 rcases AL (k'%48) 8 with hc10|hc10
 ·rw[EH zaa]
  conv=>arg 1;whnf
  rw[AA zaa]
  conv=>arg 1;whnf
  rw[AA zaa]
  conv=>arg 1;whnf
  try dsimp -iota -beta -eta -zeta only
  rw[FC zaa];rw[AQ];obtain⟨i111,i211_1,i311_2,o11_3,u11_4,d11_5,⟨h11_6,h11_7,h11_8,h11_9,h11_10⟩,yy11⟩:=SG s (n%1073741824/3) (List.take (Int.toNat 60) b) hi A7 A7;refine Aq yy11 ?_;obtain⟨y112,y212_1,y312_2,⟨h12_3,h12_4⟩,yy12⟩:=EG s 9 (n%1073741824%3) [] [i111,i211_1,i311_2] [o11_3,u11_4,d11_5] (m%1073741824) (List.take (Int.toNat 60) b) hi zaH A7 A7;refine Aq yy12 ?_;refine hP _ ⟨9,[n%1073741824%3],[(y112,y212_1,y312_2)],[i111,i211_1,i311_2],[o11_3,u11_4,d11_5],?_,rfl⟩;exact Bf
 refine tw ?_
 rcases AL (k'%48) 9 with hc13|hc13
 ·rw[EH zaa]
  conv=>arg 1;whnf
  rw[AA zaa]
  conv=>arg 1;whnf
  rw[AA zaa]
  conv=>arg 1;whnf
  try dsimp -iota -beta -eta -zeta only
  rw[FC zaa];rw[AQ];obtain⟨i114,i214_1,i314_2,o14_3,u14_4,d14_5,⟨h14_6,h14_7,h14_8,h14_9,h14_10⟩,yy14⟩:=SG s (n%1073741824/3) (List.take (Int.toNat 60) b) hi A7 A7;refine Aq yy14 ?_;obtain⟨y115,y215_1,y315_2,⟨h15_3,h15_4⟩,yy15⟩:=EG s 9 (n%1073741824%3) [] [i114,i214_1,i314_2] [o14_3,u14_4,d14_5] (m%1073741824) (List.take (Int.toNat 60) b) hi zaH A7 A7;refine Aq yy15 ?_;refine hP _ ⟨9,[n%1073741824%3],[(y115,y215_1,y315_2)],[i114,i214_1,i314_2],[o14_3,u14_4,d14_5],?_,rfl⟩;exact Bf
 refine tw ?_
 rcases AL (k'%48) 10 with hc16|hc16
 ·rw[EH zaa]
  conv=>arg 1;whnf
  rw[AA zaa]
  conv=>arg 1;whnf
  rw[AA zaa]
  conv=>arg 1;whnf
  try dsimp -iota -beta -eta -zeta only
  rw[FC zaa];rw[AQ];obtain⟨i117,i217_1,i317_2,o17_3,u17_4,d17_5,⟨h17_6,h17_7,h17_8,h17_9,h17_10⟩,yy17⟩:=SG s (n%1073741824/3) (List.take (Int.toNat 60) b) hi A7 A7;refine Aq yy17 ?_;obtain⟨y118,y218_1,y318_2,⟨h18_3,h18_4⟩,yy18⟩:=EG s 9 (n%1073741824%3) [] [i117,i217_1,i317_2] [o17_3,u17_4,d17_5] (m%1073741824) (List.take (Int.toNat 60) b) hi zaH A7 A7;refine Aq yy18 ?_;refine hP _ ⟨9,[n%1073741824%3],[(y118,y218_1,y318_2)],[i117,i217_1,i317_2],[o17_3,u17_4,d17_5],?_,rfl⟩;exact Bf
 rw[AA zaa]
 conv=>arg 1;whnf
 rw[EH zaa]
 conv=>arg 1;whnf
 rw[AA zaa]
 conv=>arg 1;whnf
 rw[AA zaa]
 conv=>arg 1;whnf
 try dsimp -iota -beta -eta -zeta only
 rw[FC zaa];rw[AQ];obtain⟨i119,i219_1,i319_2,o19_3,u19_4,d19_5,⟨h19_6,h19_7,h19_8,h19_9,h19_10⟩,yy19⟩:=SG s (n%1073741824/3) (List.take (Int.toNat 60) b) hi A7 A7;refine Aq yy19 ?_;obtain⟨y120,y220_1,y320_2,⟨h20_3,h20_4⟩,yy20⟩:=EG s 9 (n%1073741824%3) [] [i119,i219_1,i319_2] [o19_3,u19_4,d19_5] (m%1073741824) (List.take (Int.toNat 60) b) hi zaH A7 A7;refine Aq yy20 ?_;refine hP _ ⟨9,[n%1073741824%3],[(y120,y220_1,y320_2)],[i119,i219_1,i319_2],[o19_3,u19_4,d19_5],?_,rfl⟩;exact Bf
end
section
attribute [local irreducible] Cc Dn D7 DU DD BA Dp F7 FY FD Ez Ci CS DK DV and' DW DL C9 BR Bh CB CG BG BI Aw BC Dq Fh Dt ER DX Bl CE Bv Bz Bi Az Bg BK Bj BO Du Bc DF BZ BM Cj Di fits Dv Dk Ac Am BH
attribute [local irreducible] Dw CJ Be nameB EL Eh Ar ET E8 Ea ES F8 BV GX Eg Fv FU EE Fa Ej Ho I5 En
theorem A0s(hi:Kp a k s)(hq:12<=k'%48/\k'%48<=22)(hb:b.length<=140737488355328):Ah E0 (.call 23 [av s,.i k',.i n,.i m,.sl .u8 b] []) fun r=>∃(c:Int) (hs:List Int) (az:List (El AY)) (is:List Int) (bs:List (List UInt8)),(Few hs az is bs)/\r=some (.ret (rq c hs az is bs) []):=by
 have hol:=hi.obl
 have hsl:=hi.ssl
 have hac:=hi.ac
 refine CU fun P hP=>tw ?_
 rw[FX _ _ zaa];refine tw ?_;rw[FX _ _ zaa];refine tw ?_;rw[FX _ _ zaa];refine tw ?_;rw[Fz _ _ A7]
 conv=>arg 1;whnf
 rw[Cf zah]
 conv=>arg 1;whnf
 rw[Cf zah]
 conv=>arg 1;whnf
 rw[AA zaa]
 conv=>arg 1;whnf
 rw[AA zaa]
 conv=>arg 1;whnf
 rw[AA zaa]
 conv=>arg 1;whnf
 rw[AA zaa]
 conv=>arg 1;whnf
 rw[AA zaa]
 conv=>arg 1;whnf
 rw[AA zaa]
 conv=>arg 1;whnf
 rw[AA zaa]
 conv=>arg 1;whnf
 rw[Ad]
 conv=>arg 1;whnf
 rw[AA zaa]
 conv=>arg 1;whnf
 rw[AA zaa]
 conv=>arg 1;whnf
 rw[AA zaa]
 conv=>arg 1;whnf
 rw[AA zaa]
 conv=>arg 1;whnf
 rw[AA zaa]
 conv=>arg 1;whnf
 rcases AL (k'%48) 12 with hc0|hc0
 ·refine tw ?_;obtain⟨h1,⟨h1_1,h1_2⟩,yy1⟩:=Ja s (n%1073741824) 1 hi A7;refine Aq yy1 ?_;obtain⟨i12,i22_1,i32_2,o2_3,u2_4,d2_5,⟨h2_6,h2_7,h2_8,h2_9,h2_10⟩,yy2⟩:=SG s (n%1073741824/3) (List.take (Int.toNat 60) b) hi A7 A7;refine Aq yy2 ?_;obtain⟨y13,y23_1,y33_2,⟨h3_3,h3_4⟩,yy3⟩:=EG s 10 h1 [] [i12,i22_1,i32_2] [o2_3,u2_4,d2_5] (m%1073741824) (List.take (Int.toNat 60) b) hi zaH A7 A7;refine Aq yy3 ?_;refine hP _ ⟨10,[h1],[(y13,y23_1,y33_2)],[i12,i22_1,i32_2],[o2_3,u2_4,d2_5],?_,rfl⟩;exact Bf
 refine tw ?_
 rcases AL (k'%48) 13 with hc4|hc4
 ·refine tw ?_;obtain⟨h5,⟨h5_1,h5_2⟩,yy5⟩:=Ja s (n%1073741824) 1 hi A7;refine Aq yy5 ?_;obtain⟨o6,u6_1,⟨h6_2,h6_3⟩,yy6⟩:=aY s h5 (n%1073741824/3) (List.take (Int.toNat 60) b) hi A7 A7;refine Aq yy6 ?_;obtain⟨y17,y27_1,y37_2,⟨h7_3,h7_4⟩,yy7⟩:=EG s 11 h5 [] [] [o6,u6_1] (m%1073741824) (List.take (Int.toNat 60) b) hi zaH A7 A7;refine Aq yy7 ?_;refine hP _ ⟨11,[h5],[(y17,y27_1,y37_2)],[],[o6,u6_1],?_,rfl⟩;exact Bf
 refine tw ?_
 rcases AL (k'%48) 14 with hc8|hc8
 ·refine tw ?_;obtain⟨h9,⟨h9_1,h9_2⟩,yy9⟩:=Ja s (n%1073741824) 1 hi A7;refine Aq yy9 ?_;obtain⟨o10,u10_1,⟨h10_2,h10_3⟩,yy10⟩:=aY s h9 (n%1073741824/3) (List.take (Int.toNat 60) b) hi A7 A7;refine Aq yy10 ?_;obtain⟨y111,y211_1,y311_2,⟨h11_3,h11_4⟩,yy11⟩:=EG s 11 h9 [] [] [o10,u10_1] (m%1073741824) (List.take (Int.toNat 60) b) hi zaH A7 A7;refine Aq yy11 ?_;refine hP _ ⟨11,[h9],[(y111,y211_1,y311_2)],[],[o10,u10_1],?_,rfl⟩;exact Bf
 refine tw ?_
 rcases AL (k'%48) 15 with hc12|hc12
 ·refine tw ?_;obtain⟨h13,⟨h13_1,h13_2⟩,yy13⟩:=Ja s (n%1073741824) 1 hi A7;refine Aq yy13 ?_;obtain⟨o14,u14_1,⟨h14_2,h14_3⟩,yy14⟩:=aY s h13 (n%1073741824/3) (List.take (Int.toNat 60) b) hi A7 A7;refine Aq yy14 ?_;obtain⟨y115,y215_1,y315_2,⟨h15_3,h15_4⟩,yy15⟩:=EG s 11 h13 [] [] [o14,u14_1] (m%1073741824) (List.take (Int.toNat 60) b) hi zaH A7 A7;refine Aq yy15 ?_;refine hP _ ⟨11,[h13],[(y115,y215_1,y315_2)],[],[o14,u14_1],?_,rfl⟩;exact Bf
 refine tw ?_
 rcases AL (k'%48) 16 with hc16|hc16
 ·refine tw ?_;obtain⟨h17,⟨h17_1,h17_2⟩,yy17⟩:=Ja s (n%1073741824) 0 hi A7;refine Aq yy17 ?_;obtain⟨h18,⟨h18_1,h18_2⟩,yy18⟩:=LG s (n%1073741824) 0 hi A7;refine Aq yy18 ?_;obtain⟨x19,m19,g19⟩:=EY (l:=[h17,h18]) (i:=n%1073741824/3%2) zah;rw[g19];refine tw ?_;refine hP _ ⟨12,[],[],[x19],[],?_,rfl⟩;exact Bf
 refine tw ?_
 rcases AL (k'%48) 17 with hc20|hc20
 ·refine tw ?_;obtain⟨h21,⟨h21_1,h21_2⟩,yy21⟩:=Ja s (n%1073741824) 3 hi A7;refine Aq yy21 ?_;obtain⟨y122,y222_1,y322_2,⟨h22_3,h22_4⟩,yy22⟩:=EG s 13 h21 [] [] [] (m%1073741824) (List.take (Int.toNat 60) b) hi zaH A7 A7;refine Aq yy22 ?_;refine hP _ ⟨13,[h21],[(y122,y222_1,y322_2)],[],[],?_,rfl⟩;exact Bf
 refine tw ?_
 rcases AL (k'%48) 18 with hc23|hc23
 ·refine tw ?_;obtain⟨h24,⟨h24_1,h24_2⟩,yy24⟩:=Ja s (n%1073741824) 3 hi A7;refine Aq yy24 ?_;obtain⟨y125,y225_1,y325_2,⟨h25_3,h25_4⟩,yy25⟩:=EG s 13 h24 [] [] [] (m%1073741824) (List.take (Int.toNat 60) b) hi zaH A7 A7;refine Aq yy25 ?_;refine hP _ ⟨13,[h24],[(y125,y225_1,y325_2)],[],[],?_,rfl⟩;exact Bf
 refine tw ?_
 rcases AL (k'%48) 19 with hc26|hc26
 ·refine tw ?_;obtain⟨h27,⟨h27_1,h27_2⟩,yy27⟩:=Ja s (n%1073741824) 2 hi A7;refine Aq yy27 ?_;obtain⟨y128,y228_1,y328_2,⟨h28_3,h28_4⟩,yy28⟩:=EG s 14 h27 [] [] [List.take (Int.toNat 60) b] (m%1073741824) (List.take (Int.toNat 60) b) hi zaH A7 A7;refine Aq yy28 ?_;refine hP _ ⟨14,[h27],[(y128,y228_1,y328_2)],[],[List.take (Int.toNat 60) b],?_,rfl⟩;exact Bf
 refine tw ?_
 rcases AL (k'%48) 20 with hc29|hc29
 ·refine tw ?_;obtain⟨h30,⟨h30_1,h30_2⟩,yy30⟩:=Ja s (n%1073741824) 2 hi A7;refine Aq yy30 ?_;obtain⟨y131,y231_1,y331_2,⟨h31_3,h31_4⟩,yy31⟩:=EG s 14 h30 [] [] [List.take (Int.toNat 60) b] (m%1073741824) (List.take (Int.toNat 60) b) hi zaH A7 A7;refine Aq yy31 ?_;refine hP _ ⟨14,[h30],[(y131,y231_1,y331_2)],[],[List.take (Int.toNat 60) b],?_,rfl⟩;exact Bf
 refine tw ?_
 rcases AL (k'%48) 21 with hc32|hc32
 ·refine tw ?_;obtain⟨h33,⟨h33_1,h33_2⟩,yy33⟩:=Ja s (n%1073741824) 2 hi A7;rw[yy33]
  conv=>arg 1;whnf
  rw[AA zaa]
  conv=>arg 1;whnf
  rw[AA zaa]
  conv=>arg 1;whnf
  rw[AA zaa]
  conv=>arg 1;whnf
  rw[AA zaa]
  conv=>arg 1;whnf
  try dsimp -iota -beta -eta -zeta only
  rw[FO zaa];rw[drw zas];conv=>arg 1;whnf
  rw[FC zaa];rw[FC zaa];rw[FO zaa];rw[Ad]
  conv=>arg 1;whnf
  rw[Ad]
  conv=>arg 1;whnf
  try dsimp -iota -beta -eta -zeta only
  rw[AQ];obtain⟨y134,y234_1,y334_2,⟨h34_3,h34_4⟩,yy34⟩:=EG s 15 h33 [] [D7 (BA BinOp.and s.ac 1) (n%1073741824%65536),D7 (s.ac/2) (n%1073741824/7%65536)] [List.take (Int.toNat 60) b] (m%1073741824) (List.take (Int.toNat 60) b) hi zaH A7 A7;refine Aq yy34 ?_;refine hP _ ⟨15,[h33],[(y134,y234_1,y334_2)],[D7 (BA BinOp.and s.ac 1) (n%1073741824%65536),D7 (s.ac/2) (n%1073741824/7%65536)],[List.take (Int.toNat 60) b],?_,rfl⟩;exact Bf
 refine tw ?_;obtain⟨h35,⟨h35_1,h35_2⟩,yy35⟩:=Ja s (n%1073741824) 2 hi A7;rw[yy35]
 conv=>arg 1;whnf
 rw[AA zaa]
 conv=>arg 1;whnf
 rw[AA zaa]
 conv=>arg 1;whnf
 rw[AA zaa]
 conv=>arg 1;whnf
 rw[AA zaa]
 conv=>arg 1;whnf
 try dsimp -iota -beta -eta -zeta only
 rw[FO zaa];rw[drw zas];conv=>arg 1;whnf
 rw[FC zaa];rw[FC zaa];rw[FO zaa];rw[Ad]
 conv=>arg 1;whnf
 rw[Ad]
 conv=>arg 1;whnf
 try dsimp -iota -beta -eta -zeta only
 rw[AQ];obtain⟨y136,y236_1,y336_2,⟨h36_3,h36_4⟩,yy36⟩:=EG s 15 h35 [] [D7 (BA BinOp.and s.ac 1) (n%1073741824%65536),D7 (s.ac/2) (n%1073741824/7%65536)] [List.take (Int.toNat 60) b] (m%1073741824) (List.take (Int.toNat 60) b) hi zaH A7 A7;refine Aq yy36 ?_;refine hP _ ⟨15,[h35],[(y136,y236_1,y336_2)],[D7 (BA BinOp.and s.ac 1) (n%1073741824%65536),D7 (s.ac/2) (n%1073741824/7%65536)],[List.take (Int.toNat 60) b],?_,rfl⟩;exact Bf
end
section
attribute [local irreducible] Cc Dn D7 DU DD BA Dp F7 FY FD Ez Ci CS DK DV and' DW DL C9 BR Bh CB CG BG BI Aw BC Dq Fh Dt ER DX Bl CE Bv Bz Bi Az Bg BK Bj BO Du Bc DF BZ BM Cj Di fits Dv Dk Ac Am BH
attribute [local irreducible] Dw CJ Be nameB EL Eh Ar ET E8 Ea ES F8 BV GX Eg Fv FU EE Fa Ej Ho I5 En
theorem A0t(hi:Kp a k s)(hq:23<=k'%48/\k'%48<=31)(hb:b.length<=140737488355328):Ah E0 (.call 23 [av s,.i k',.i n,.i m,.sl .u8 b] []) fun r=>∃(c:Int) (hs:List Int) (az:List (El AY)) (is:List Int) (bs:List (List UInt8)),(Few hs az is bs)/\r=some (.ret (rq c hs az is bs) []):=by
 have hol:=hi.obl
 have hsl:=hi.ssl
 have hac:=hi.ac
 refine CU fun P hP=>tw ?_
 rw[FX _ _ zaa];refine tw ?_;rw[FX _ _ zaa];refine tw ?_;rw[FX _ _ zaa];refine tw ?_;rw[Fz _ _ A7]
 conv=>arg 1;whnf
 rw[Cf zah]
 conv=>arg 1;whnf
 rw[Cf zah]
 conv=>arg 1;whnf
 rw[AA zaa]
 conv=>arg 1;whnf
 rw[AA zaa]
 conv=>arg 1;whnf
 rw[AA zaa]
 conv=>arg 1;whnf
 rw[AA zaa]
 conv=>arg 1;whnf
 rw[AA zaa]
 conv=>arg 1;whnf
 rw[AA zaa]
 conv=>arg 1;whnf
 rw[AA zaa]
 conv=>arg 1;whnf
 rw[Ad]
 conv=>arg 1;whnf
 rw[AA zaa]
 conv=>arg 1;whnf
 rw[AA zaa]
 conv=>arg 1;whnf
 rw[AA zaa]
 conv=>arg 1;whnf
 rw[AA zaa]
 conv=>arg 1;whnf
 rw[AA zaa]
 conv=>arg 1;whnf
 rw[AA zaa]
 conv=>arg 1;whnf
 rw[AA zaa]
 conv=>arg 1;whnf
 rw[AA zaa]
 conv=>arg 1;whnf
 rw[AA zaa]
 conv=>arg 1;whnf
 rw[AA zaa]
 conv=>arg 1;whnf
 rw[AA zaa]
 conv=>arg 1;whnf
 rw[AA zaa]
 conv=>arg 1;whnf
 rw[AA zaa]
 conv=>arg 1;whnf
 rw[AA zaa]
 conv=>arg 1;whnf
 rw[AA zaa]
 conv=>arg 1;whnf
 rw[AA zaa]
 conv=>arg 1;whnf
 rcases AL (k'%48) 23 with hc0|hc0
 ·refine tw ?_;refine hP _ ⟨16,[],[],[1+n%1073741824%3],[],?_,rfl⟩;exact Bf
 refine tw ?_
 rcases AL (k'%48) 24 with hc1|hc1
 ·rw[EH zaa]
  conv=>arg 1;whnf
  rw[AA zaa]
  conv=>arg 1;whnf
  rw[FO zaa];rw[Au zaa];rw[Ad]
  conv=>arg 1;whnf
  rw[Ad]
  conv=>arg 1;whnf
  rw[Ad]
  conv=>arg 1;whnf
  try dsimp -iota -beta -eta -zeta only
  refine hP _ ⟨16,[],[],[1+n%1073741824%3],[],?_,rfl⟩;exact Bf
 refine tw ?_
 rcases AL (k'%48) 25 with hc2|hc2
 ·rw[EH zaa]
  conv=>arg 1;whnf
  rw[AA zaa]
  conv=>arg 1;whnf
  rw[FO zaa];rw[Au zaa];rw[Ad]
  conv=>arg 1;whnf
  rw[Ad]
  conv=>arg 1;whnf
  rw[Ad]
  conv=>arg 1;whnf
  try dsimp -iota -beta -eta -zeta only
  refine hP _ ⟨16,[],[],[1+n%1073741824%3],[],?_,rfl⟩;exact Bf
 refine tw ?_
 rcases AL (k'%48) 26 with hc3|hc3
 ·rw[EH zaa]
  conv=>arg 1;whnf
  rw[Ad]
  conv=>arg 1;whnf
  try dsimp -iota -beta -eta -zeta only
  rw[AQ];obtain⟨is4,bs4_1,⟨h4_2,h4_3,h4_4⟩,yy4⟩:=YS s (n%1073741824) (m%1073741824) (List.take (Int.toNat 60) b) hi A7 A7 A7;refine Aq yy4 ?_;refine hP _ ⟨17,[],[],is4,bs4_1,?_,rfl⟩;exact Bf
 rw[AA zaa]
 conv=>arg 1;whnf
 rw[Ad]
 conv=>arg 1;whnf
 rcases AL (k'%48) 27 with hc5|hc5
 ·refine tw ?_;obtain⟨is6,bs6_1,⟨h6_2,h6_3,h6_4⟩,yy6⟩:=YS s (n%1073741824) (m%1073741824) (List.take (Int.toNat 60) b) hi A7 A7 A7;refine Aq yy6 ?_;refine hP _ ⟨17,[],[],is6,bs6_1,?_,rfl⟩;exact Bf
 refine tw ?_
 rcases AL (k'%48) 28 with hc7|hc7
 ·refine tw ?_;obtain⟨is8,bs8_1,⟨h8_2,h8_3,h8_4⟩,yy8⟩:=YS s (n%1073741824) (m%1073741824) (List.take (Int.toNat 60) b) hi A7 A7 A7;refine Aq yy8 ?_;refine hP _ ⟨17,[],[],is8,bs8_1,?_,rfl⟩;exact Bf
 refine tw ?_
 rcases AL (k'%48) 29 with hc9|hc9
 ·refine tw ?_;obtain⟨is10,bs10_1,⟨h10_2,h10_3,h10_4⟩,yy10⟩:=YS s (n%1073741824) (m%1073741824) (List.take (Int.toNat 60) b) hi A7 A7 A7;refine Aq yy10 ?_;refine hP _ ⟨17,[],[],is10,bs10_1,?_,rfl⟩;exact Bf
 refine tw ?_
 rcases AL (k'%48) 30 with hc11|hc11
 ·refine tw ?_;obtain⟨h12,⟨h12_1,h12_2⟩,yy12⟩:=A5f s (n%1073741824) hi A7;refine Aq yy12 ?_;obtain⟨h13,⟨h13_1,h13_2⟩,yy13⟩:=LG s (n%1073741824/3) 0 hi A7;refine tvn yy13 ?_;rw[Fz _ _ A7];refine tw ?_;obtain⟨y114,y214_1,y314_2,⟨h14_3,h14_4⟩,yy14⟩:=EG s 18 h12 [] [h13,n%1073741824%50] [List.take (Int.toNat 4) (List.take (Int.toNat 60) b)] (m%1073741824) (List.take (Int.toNat 60) b) hi zaH A7 A7;refine Aq yy14 ?_;refine hP _ ⟨18,[h12],[(y114,y214_1,y314_2)],[h13,n%1073741824%50],[List.take (Int.toNat 4) (List.take (Int.toNat 60) b)],?_,rfl⟩;exact Bf
 refine tw ?_;obtain⟨h15,o15_1,u15_2,v15_3,⟨h15_4,h15_5,h15_6⟩,yy15⟩:=A3z s (n%1073741824) (List.take (Int.toNat 60) b) hi A7 A7;refine Aq yy15 ?_;refine hP _ ⟨19,[],[],[h15],[o15_1,u15_2,v15_3],?_,rfl⟩;exact Bf
end
section
attribute [local irreducible] Cc Dn D7 DU DD BA Dp F7 FY FD Ez Ci CS DK DV and' DW DL C9 BR Bh CB CG BG BI Aw BC Dq Fh Dt ER DX Bl CE Bv Bz Bi Az Bg BK Bj BO Du Bc DF BZ BM Cj Di fits Dv Dk Ac Am BH
attribute [local irreducible] Dw CJ Be nameB EL Eh Ar ET E8 Ea ES F8 BV GX Eg Fv FU EE Fa Ej Ho I5 En
theorem A0u(hi:Kp a k s)(hq:32<=k'%48/\k'%48<=43)(hb:b.length<=140737488355328):Ah E0 (.call 23 [av s,.i k',.i n,.i m,.sl .u8 b] []) fun r=>∃(c:Int) (hs:List Int) (az:List (El AY)) (is:List Int) (bs:List (List UInt8)),(Few hs az is bs)/\r=some (.ret (rq c hs az is bs) []):=by
 have hol:=hi.obl
 have hsl:=hi.ssl
 have hac:=hi.ac
 refine CU fun P hP=>tw ?_
 rw[FX _ _ zaa];refine tw ?_;rw[FX _ _ zaa];refine tw ?_;rw[FX _ _ zaa];refine tw ?_;rw[Fz _ _ A7]
 conv=>arg 1;whnf
 rw[Cf zah]
 conv=>arg 1;whnf
 rw[Cf zah]
 conv=>arg 1;whnf
 rw[AA zaa]
 conv=>arg 1;whnf
 rw[AA zaa]
 conv=>arg 1;whnf
 rw[AA zaa]
 conv=>arg 1;whnf
 rw[AA zaa]
 conv=>arg 1;whnf
 rw[AA zaa]
 conv=>arg 1;whnf
 rw[AA zaa]
 conv=>arg 1;whnf
 rw[AA zaa]
 conv=>arg 1;whnf
 rw[Ad]
 conv=>arg 1;whnf
 rw[AA zaa]
 conv=>arg 1;whnf
 rw[AA zaa]
 conv=>arg 1;whnf
 rw[AA zaa]
 conv=>arg 1;whnf
 rw[AA zaa]
 conv=>arg 1;whnf
 rw[AA zaa]
 conv=>arg 1;whnf
 rw[AA zaa]
 conv=>arg 1;whnf
 rw[AA zaa]
 conv=>arg 1;whnf
 rw[AA zaa]
 conv=>arg 1;whnf
 rw[AA zaa]
 conv=>arg 1;whnf
 rw[AA zaa]
 conv=>arg 1;whnf
 rw[AA zaa]
 conv=>arg 1;whnf
 rw[AA zaa]
 conv=>arg 1;whnf
 rw[AA zaa]
 conv=>arg 1;whnf
 rw[AA zaa]
 conv=>arg 1;whnf
 rw[AA zaa]
 conv=>arg 1;whnf
 rw[AA zaa]
 conv=>arg 1;whnf
 rw[AA zaa]
 conv=>arg 1;whnf
 rw[AA zaa]
 conv=>arg 1;whnf
 rw[AA zaa]
 conv=>arg 1;whnf
 rw[AA zaa]
 conv=>arg 1;whnf
 rw[Ad]
 conv=>arg 1;whnf
 rw[AA zaa]
 conv=>arg 1;whnf
 rw[AA zaa]
 conv=>arg 1;whnf
 rw[AA zaa]
 conv=>arg 1;whnf
 rw[AA zaa]
 conv=>arg 1;whnf
 rw[AA zaa]
 conv=>arg 1;whnf
 rcases AL (k'%48) 32 with hc0|hc0
 ·refine tw ?_;obtain⟨h1,⟨h1_1,h1_2⟩,yy1⟩:=LG s (n%1073741824) 0 hi A7;refine Aq yy1 ?_;refine hP _ ⟨20,[],[],[h1],[],?_,rfl⟩;exact Bf
 refine tw ?_
 rcases AL (k'%48) 33 with hc2|hc2
 ·rw[EH zaa]
  conv=>arg 1;whnf
  rw[AA zaa]
  conv=>arg 1;whnf
  rw[AA zaa]
  conv=>arg 1;whnf
  try dsimp -iota -beta -eta -zeta only
  rw[FC zaa];rw[AQ];obtain⟨i13,i23_1,i33_2,i43_3,o3_4,u3_5,⟨h3_6,h3_7⟩,yy3⟩:=zF s (n%1073741824/2) (List.take (Int.toNat 60) b) hi A7 A7;refine Aq yy3 ?_;obtain⟨y14,y24_1,y34_2,⟨h4_3,h4_4⟩,yy4⟩:=EG s 21 (1+n%1073741824%2) [] [i13,i23_1,i33_2,i43_3] [o3_4,u3_5] (m%1073741824) (List.take (Int.toNat 60) b) hi zaH A7 A7;refine Aq yy4 ?_;refine hP _ ⟨21,[1+n%1073741824%2],[(y14,y24_1,y34_2)],[i13,i23_1,i33_2,i43_3],[o3_4,u3_5],?_,rfl⟩;exact Bf
 refine tw ?_
 rcases AL (k'%48) 34 with hc5|hc5
 ·rw[EH zaa]
  conv=>arg 1;whnf
  rw[AA zaa]
  conv=>arg 1;whnf
  rw[AA zaa]
  conv=>arg 1;whnf
  try dsimp -iota -beta -eta -zeta only
  rw[FC zaa];rw[AQ];obtain⟨i16,i26_1,i36_2,i46_3,o6_4,u6_5,⟨h6_6,h6_7⟩,yy6⟩:=zF s (n%1073741824/2) (List.take (Int.toNat 60) b) hi A7 A7;refine Aq yy6 ?_;obtain⟨y17,y27_1,y37_2,⟨h7_3,h7_4⟩,yy7⟩:=EG s 21 (1+n%1073741824%2) [] [i16,i26_1,i36_2,i46_3] [o6_4,u6_5] (m%1073741824) (List.take (Int.toNat 60) b) hi zaH A7 A7;refine Aq yy7 ?_;refine hP _ ⟨21,[1+n%1073741824%2],[(y17,y27_1,y37_2)],[i16,i26_1,i36_2,i46_3],[o6_4,u6_5],?_,rfl⟩;exact Bf
 refine tw ?_
 rcases AL (k'%48) 35 with hc8|hc8
 ·rw[EH zaa]
  conv=>arg 1;whnf
  rw[AA zaa]
  conv=>arg 1;whnf
  rw[AA zaa]
  conv=>arg 1;whnf
  try dsimp -iota -beta -eta -zeta only
  rw[FC zaa];rw[AQ];obtain⟨h9,⟨h9_1,h9_2⟩,yy9⟩:=YQ s (n%1073741824/2) hi A7;refine Aq yy9 ?_;obtain⟨y110,y210_1,y310_2,⟨h10_3,h10_4⟩,yy10⟩:=EG s 22 (1+n%1073741824%2) [] [h9-256] [] (m%1073741824) (List.take (Int.toNat 60) b) hi zaH A7 A7;refine Aq yy10 ?_;refine hP _ ⟨22,[1+n%1073741824%2],[(y110,y210_1,y310_2)],[h9-256],[],?_,rfl⟩;exact Bf
 refine tw ?_
 rcases AL (k'%48) 36 with hc11|hc11
 ·refine tw ?_;obtain⟨c12,h112_1,h212_2,is12_3,bs12_4,⟨h12_5,h12_6,h12_7⟩,yy12⟩:=Lj s (k'%48-36) (n%1073741824) (List.take (Int.toNat 60) b) hi A7 A7 A7;refine Aq yy12 ?_;obtain⟨y113,y213_1,y313_2,⟨h13_3,h13_4⟩,yy13⟩:=EG s c12 h112_1 [h212_2] is12_3 bs12_4 (m%1073741824) (List.take (Int.toNat 60) b) hi zaH A7 A7;refine Aq yy13 ?_;refine hP _ ⟨c12,[h112_1,h212_2],[(y113,y213_1,y313_2)],is12_3,bs12_4,?_,rfl⟩;exact Bf
 refine tw ?_
 rcases AL (k'%48) 37 with hc14|hc14
 ·refine tw ?_;obtain⟨c15,h115_1,h215_2,is15_3,bs15_4,⟨h15_5,h15_6,h15_7⟩,yy15⟩:=Lj s (k'%48-36) (n%1073741824) (List.take (Int.toNat 60) b) hi A7 A7 A7;refine Aq yy15 ?_;obtain⟨y116,y216_1,y316_2,⟨h16_3,h16_4⟩,yy16⟩:=EG s c15 h115_1 [h215_2] is15_3 bs15_4 (m%1073741824) (List.take (Int.toNat 60) b) hi zaH A7 A7;refine Aq yy16 ?_;refine hP _ ⟨c15,[h115_1,h215_2],[(y116,y216_1,y316_2)],is15_3,bs15_4,?_,rfl⟩;exact Bf
 refine tw ?_
 rcases AL (k'%48) 38 with hc17|hc17
 ·refine tw ?_;obtain⟨c18,h118_1,h218_2,is18_3,bs18_4,⟨h18_5,h18_6,h18_7⟩,yy18⟩:=Lj s (k'%48-36) (n%1073741824) (List.take (Int.toNat 60) b) hi A7 A7 A7;refine Aq yy18 ?_;obtain⟨y119,y219_1,y319_2,⟨h19_3,h19_4⟩,yy19⟩:=EG s c18 h118_1 [h218_2] is18_3 bs18_4 (m%1073741824) (List.take (Int.toNat 60) b) hi zaH A7 A7;refine Aq yy19 ?_;refine hP _ ⟨c18,[h118_1,h218_2],[(y119,y219_1,y319_2)],is18_3,bs18_4,?_,rfl⟩;exact Bf
 refine tw ?_
 rcases AL (k'%48) 39 with hc20|hc20
 ·refine tw ?_;obtain⟨c21,h121_1,h221_2,is21_3,bs21_4,⟨h21_5,h21_6,h21_7⟩,yy21⟩:=Lj s (k'%48-36) (n%1073741824) (List.take (Int.toNat 60) b) hi A7 A7 A7;refine Aq yy21 ?_;obtain⟨y122,y222_1,y322_2,⟨h22_3,h22_4⟩,yy22⟩:=EG s c21 h121_1 [h221_2] is21_3 bs21_4 (m%1073741824) (List.take (Int.toNat 60) b) hi zaH A7 A7;refine Aq yy22 ?_;refine hP _ ⟨c21,[h121_1,h221_2],[(y122,y222_1,y322_2)],is21_3,bs21_4,?_,rfl⟩;exact Bf
 refine tw ?_
 rcases AL (k'%48) 40 with hc23|hc23
 ·refine tw ?_;obtain⟨c24,h124_1,h224_2,is24_3,bs24_4,⟨h24_5,h24_6,h24_7⟩,yy24⟩:=Lj s (k'%48-36) (n%1073741824) (List.take (Int.toNat 60) b) hi A7 A7 A7;refine Aq yy24 ?_;obtain⟨y125,y225_1,y325_2,⟨h25_3,h25_4⟩,yy25⟩:=EG s c24 h124_1 [h224_2] is24_3 bs24_4 (m%1073741824) (List.take (Int.toNat 60) b) hi zaH A7 A7;refine Aq yy25 ?_;refine hP _ ⟨c24,[h124_1,h224_2],[(y125,y225_1,y325_2)],is24_3,bs24_4,?_,rfl⟩;exact Bf
 refine tw ?_
 rcases AL (k'%48) 41 with hc26|hc26
 ·refine tw ?_;obtain⟨c27,h127_1,h227_2,is27_3,bs27_4,⟨h27_5,h27_6,h27_7⟩,yy27⟩:=Lj s (k'%48-36) (n%1073741824) (List.take (Int.toNat 60) b) hi A7 A7 A7;refine Aq yy27 ?_;obtain⟨y128,y228_1,y328_2,⟨h28_3,h28_4⟩,yy28⟩:=EG s c27 h127_1 [h227_2] is27_3 bs27_4 (m%1073741824) (List.take (Int.toNat 60) b) hi zaH A7 A7;refine Aq yy28 ?_;refine hP _ ⟨c27,[h127_1,h227_2],[(y128,y228_1,y328_2)],is27_3,bs27_4,?_,rfl⟩;exact Bf
 refine tw ?_
 rcases AL (k'%48) 42 with hc29|hc29
 ·refine tw ?_;obtain⟨c30,h130_1,h230_2,is30_3,bs30_4,⟨h30_5,h30_6,h30_7⟩,yy30⟩:=Lj s (k'%48-36) (n%1073741824) (List.take (Int.toNat 60) b) hi A7 A7 A7;refine Aq yy30 ?_;obtain⟨y131,y231_1,y331_2,⟨h31_3,h31_4⟩,yy31⟩:=EG s c30 h130_1 [h230_2] is30_3 bs30_4 (m%1073741824) (List.take (Int.toNat 60) b) hi zaH A7 A7;refine Aq yy31 ?_;refine hP _ ⟨c30,[h130_1,h230_2],[(y131,y231_1,y331_2)],is30_3,bs30_4,?_,rfl⟩;exact Bf
 refine tw ?_;obtain⟨c32,h132_1,h232_2,is32_3,bs32_4,⟨h32_5,h32_6,h32_7⟩,yy32⟩:=Lj s (k'%48-36) (n%1073741824) (List.take (Int.toNat 60) b) hi A7 A7 A7;refine Aq yy32 ?_;obtain⟨y133,y233_1,y333_2,⟨h33_3,h33_4⟩,yy33⟩:=EG s c32 h132_1 [h232_2] is32_3 bs32_4 (m%1073741824) (List.take (Int.toNat 60) b) hi zaH A7 A7;refine Aq yy33 ?_;refine hP _ ⟨c32,[h132_1,h232_2],[(y133,y233_1,y333_2)],is32_3,bs32_4,?_,rfl⟩;exact Bf
end
section
attribute [local irreducible] Cc Dn D7 DU DD BA Dp F7 FY FD Ez Ci CS DK DV and' DW DL C9 BR Bh CB CG BG BI Aw BC Dq Fh Dt ER DX Bl CE Bv Bz Bi Az Bg BK Bj BO Du Bc DF BZ BM Cj Di fits Dv Dk Ac Am BH
attribute [local irreducible] Dw CJ Be nameB EL Eh Ar ET E8 Ea ES F8 BV GX Eg Fv FU EE Fa Ej Ho I5 En
theorem A0v(hi:Kp a k s)(hq:44<=k'%48/\k'%48<=47)(hb:b.length<=140737488355328):Ah E0 (.call 23 [av s,.i k',.i n,.i m,.sl .u8 b] []) fun r=>∃(c:Int) (hs:List Int) (az:List (El AY)) (is:List Int) (bs:List (List UInt8)),(Few hs az is bs)/\r=some (.ret (rq c hs az is bs) []):=by
 have hol:=hi.obl
 have hsl:=hi.ssl
 have hac:=hi.ac
 refine CU fun P hP=>tw ?_
 rw[FX _ _ zaa];refine tw ?_;rw[FX _ _ zaa];refine tw ?_;rw[FX _ _ zaa];refine tw ?_;rw[Fz _ _ A7]
 conv=>arg 1;whnf
 rw[Cf zah]
 conv=>arg 1;whnf
 rw[Cf zah]
 conv=>arg 1;whnf
 rw[AA zaa]
 conv=>arg 1;whnf
 rw[AA zaa]
 conv=>arg 1;whnf
 rw[AA zaa]
 conv=>arg 1;whnf
 rw[AA zaa]
 conv=>arg 1;whnf
 rw[AA zaa]
 conv=>arg 1;whnf
 rw[AA zaa]
 conv=>arg 1;whnf
 rw[AA zaa]
 conv=>arg 1;whnf
 rw[Ad]
 conv=>arg 1;whnf
 rw[AA zaa]
 conv=>arg 1;whnf
 rw[AA zaa]
 conv=>arg 1;whnf
 rw[AA zaa]
 conv=>arg 1;whnf
 rw[AA zaa]
 conv=>arg 1;whnf
 rw[AA zaa]
 conv=>arg 1;whnf
 rw[AA zaa]
 conv=>arg 1;whnf
 rw[AA zaa]
 conv=>arg 1;whnf
 rw[AA zaa]
 conv=>arg 1;whnf
 rw[AA zaa]
 conv=>arg 1;whnf
 rw[AA zaa]
 conv=>arg 1;whnf
 rw[AA zaa]
 conv=>arg 1;whnf
 rw[AA zaa]
 conv=>arg 1;whnf
 rw[AA zaa]
 conv=>arg 1;whnf
 rw[AA zaa]
 conv=>arg 1;whnf
 rw[AA zaa]
 conv=>arg 1;whnf
 rw[AA zaa]
 conv=>arg 1;whnf
 rw[AA zaa]
 conv=>arg 1;whnf
 rw[AA zaa]
 conv=>arg 1;whnf
 rw[AA zaa]
 conv=>arg 1;whnf
 rw[AA zaa]
 conv=>arg 1;whnf
 rw[Ad]
 conv=>arg 1;whnf
 rw[AA zaa]
 conv=>arg 1;whnf
 rw[AA zaa]
 conv=>arg 1;whnf
 rw[AA zaa]
 conv=>arg 1;whnf
 rw[AA zaa]
 conv=>arg 1;whnf
 rw[AA zaa]
 conv=>arg 1;whnf
 rw[AA zaa]
 conv=>arg 1;whnf
 rw[AA zaa]
 conv=>arg 1;whnf
 rw[AA zaa]
 conv=>arg 1;whnf
 rw[AA zaa]
 conv=>arg 1;whnf
 rw[AA zaa]
 conv=>arg 1;whnf
 rw[AA zaa]
 conv=>arg 1;whnf
 rw[AA zaa]
 conv=>arg 1;whnf
 rw[AA zaa]
 conv=>arg 1;whnf
 rw[AA zaa]
 conv=>arg 1;whnf
 rw[AA zaa]
 conv=>arg 1;whnf
 rw[AA zaa]
 conv=>arg 1;whnf
 rw[AA zaa]
 conv=>arg 1;whnf
 rcases AL (k'%48) 44 with hc0|hc0
 ·rw[EH zaa]
  conv=>arg 1;whnf
  rw[AA zaa]
  conv=>arg 1;whnf
  rw[AA zaa]
  conv=>arg 1;whnf
  rw[AA zaa]
  conv=>arg 1;whnf
  try dsimp -iota -beta -eta -zeta only
  rw[FC zaa];rw[FO zaa];rw[AQ];rw[Fz _ _ A7];refine tw ?_;obtain⟨y11,y21_1,y31_2,⟨h1_3,h1_4⟩,yy1⟩:=EG s 30 (n%1073741824%4) [] [] [List.take (n%1073741824/4%3).toNat (List.take (Int.toNat 60) b)] (m%1073741824) (List.take (Int.toNat 60) b) hi zaH A7 A7;refine Aq yy1 ?_;refine hP _ ⟨30,[n%1073741824%4],[(y11,y21_1,y31_2)],[],[List.take (n%1073741824/4%3).toNat (List.take (Int.toNat 60) b)],?_,rfl⟩;exact Bf
 refine tw ?_
 rcases AL (k'%48) 45 with hc2|hc2
 ·rw[EH zaa]
  conv=>arg 1;whnf
  rw[AA zaa]
  conv=>arg 1;whnf
  rw[FO zaa];rw[Au zaa];rw[Ad]
  conv=>arg 1;whnf
  rw[AA zaa]
  conv=>arg 1;whnf
  rw[FO zaa]
  rcases AZ 0 (n%1073741824%4) with hc3|hc3
  ·refine tw ?_;obtain⟨y14,y24_1,y34_2,⟨h4_3,h4_4⟩,yy4⟩:=EG s 32 3 [] [] [] (m%1073741824) (List.take (Int.toNat 60) b) hi zaH A7 A7;refine Aq yy4 ?_;refine hP _ ⟨32,[3],[(y14,y24_1,y34_2)],[],[],?_,rfl⟩;exact Bf
  refine tw ?_;obtain⟨y15,y25_1,y35_2,⟨h5_3,h5_4⟩,yy5⟩:=EG s 31 (2+n%1073741824%2) [] [] [] (m%1073741824) (List.take (Int.toNat 60) b) hi zaH A7 A7;refine Aq yy5 ?_;refine hP _ ⟨31,[2+n%1073741824%2],[(y15,y25_1,y35_2)],[],[],?_,rfl⟩;exact Bf
 refine tw ?_
 rcases AL (k'%48) 46 with hc6|hc6
 ·refine tw ?_;obtain⟨y17,y27_1,y37_2,⟨h7_3,h7_4⟩,yy7⟩:=EG s 33 3 [] [1+n%1073741824%6,n%1073741824%40,n%1073741824/5%40] [] (m%1073741824) (List.take (Int.toNat 60) b) hi zaH A7 A7;refine Aq yy7 ?_;refine hP _ ⟨33,[3],[(y17,y27_1,y37_2)],[1+n%1073741824%6,n%1073741824%40,n%1073741824/5%40],[],?_,rfl⟩;exact Bf
 refine tw ?_
 rcases AZ 0 (n%1073741824%4) with hc8|hc8
 ·refine tw ?_;refine hP _ ⟨1,[],[],[n%1073741824%2],[],?_,rfl⟩;exact Bf
 refine tw ?_;refine hP _ ⟨2,[],[],[n%1073741824%2],[],?_,rfl⟩;exact Bf
end
section
attribute [local irreducible] Cc Dn D7 DU DD BA Dp F7 FY FD Ez Ci CS DK DV and' DW DL C9 BR Bh CB CG BG BI Aw BC Dq Fh Dt ER DX Bl CE Bv Bz Bi Az Bg BK Bj BO Du Bc DF BZ BM Cj Di fits Dv Dk Ac Am BH
attribute [local irreducible] Dw CJ Be nameB EL Eh Ar ET E8 Ea ES F8 BV GX Eg Fv FU EE Fa Ej Ho I5 En
theorem zG(hi:Kp a k s)(hb:b.length<=140737488355328):Ah E0 (.call 23 [av s,.i k',.i n,.i m,.sl .u8 b] []) fun r=>∃(c:Int) (hs:List Int) (az:List (El AY)) (is:List Int) (bs:List (List UInt8)),(Few hs az is bs)/\r=some (.ret (rq c hs az is bs) []):=by
 rcases(by omega:k'%48<=11\/12<=k'%48/\k'%48<=22\/23<=k'%48/\k'%48<=31\/32<=k'%48/\k'%48<=43\/44<=k'%48) with h|h|h|h|h
 ·exact A0r s k' n m b hi zaa hb
 ·exact A0s s k' n m b hi zaa hb
 ·exact A0t s k' n m b hi zaa hb
 ·exact A0u s k' n m b hi zaa hb
 ·exact A0v s k' n m b hi zaa hb
end
end Go.Proofs.YtnhgnfdbdflhcaaGreatDoor
