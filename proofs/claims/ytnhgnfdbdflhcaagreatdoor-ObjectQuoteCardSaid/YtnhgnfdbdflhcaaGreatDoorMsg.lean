/-
  Own texts, laid together for this claim: contracts of functions of the program and its references, used by the statements of this seat.
-/
import Derived.Test.YtnhgnfdbdflhcaaGreatDoorMsf
set_option linter.all false
set_option maxHeartbeats 40000000
set_option maxRecDepth 100000
namespace Go.Ax
open Go Go.Eng Go.RowKit
variable {α:Type}{l:List α}
theorem A1k{par s:Sen}{p:Pub}(h1:s.auth.length<=32)(h2:s.seed.length<=32)(h3:s.data.length<=128):1<=(FH par p s).length:=by
 unfold FH
 have hn:=Ac p
 have hp:(YL s).length<=1024:=by unfold YL;simp only[AO,List.length_nil];omega
 rw[Zm za6 hp];omega
theorem EG(h:0=l.length):l=[]:=List.eq_nil_of_length_eq_zero h.symm
theorem EH(h:1=l.length):∃ x,l=[x]:=by match l,h with|[x],_=>exact⟨x,rfl⟩
theorem MO(h:2=l.length):∃ x y,l=[x,y]:=by match l,h with|[x,y],_=>exact⟨x,y,rfl⟩
theorem aI(h:3=l.length):∃ x y z,l=[x,y,z]:=by match l,h with|[x,y,z],_=>exact⟨x,y,z,rfl⟩
theorem A5h(h:4=l.length):∃ x y z w,l=[x,y,z,w]:=by match l,h with|[x,y,z,w],_=>exact⟨x,y,z,w,rfl⟩
theorem A5i(h:6=l.length):∃ a b c d e f,l=[a,b,c,d,e,f]:=by match l,h with|[a,b,c,d,e,f],_=>exact⟨a,b,c,d,e,f,rfl⟩
def alw(s:MS)(c:Int)(hs:List Int):Prop:=(∀ h,hs=[h]->(c=9->0<=h/\h<=2)/\(c=10\/c=11\/c=13\/c=14\/c=15->0<=MP h s.ob)/\(c=30->0<=h/\h<=3))/\∀ h g,hs=[h,g]->0<=L9 g s.ix
theorem uZ{c:Int}{x:Nat×Nat×Nat×Int}(h:shp c=some x):c=1\/c=2\/c=4\/c=5\/c=6\/c=7\/c=8\/c=9\/c=10\/c=11\/c=12\/c=13\/c=14\/c=15\/c=16\/c=17\/c=18\/c=19\/c=20\/c=21\/c=22\/c=23\/c=24\/c=25\/c=26\/c=27\/c=28\/c=29\/c=30\/c=31\/c=32\/c=33:=by
 by_cases hr:1<=c/\c<=33/\c≠3
 ·omega
 ·exfalso
  unfold shp at h
  rw[if_neg zaa,if_neg zaa,if_neg zaa,if_neg zaa,if_neg zaa,if_neg zaa,if_neg zaa,if_neg zaa,if_neg zaa,if_neg zaa,if_neg zaa,if_neg zaa,if_neg zaa,if_neg zaa,if_neg zaa,if_neg zaa,if_neg zaa,if_neg zaa,if_neg zaa,if_neg zaa,if_neg zaa,if_neg zaa,if_neg zaa,if_neg zaa,if_neg zaa,if_neg zaa,if_neg zaa,if_neg zaa,if_neg zaa,if_neg zaa,if_neg zaa,if_neg zaa] at h
  cases h
theorem A1m{c:Int}{x:Nat×Nat×Nat×Int}(h:shp c=some x):x.2.1<=x.1/\x.1<=2/\(x.1=1->c=9\/c=10\/c=11\/c=13\/c=14\/c=15\/c=18\/c=21\/c=22\/c=30\/c=31\/c=32\/c=33)/\(x.1=2->23<=c/\c<=29):=by
 rcases uZ h with rfl|rfl|rfl|rfl|rfl|rfl|rfl|rfl|rfl|rfl|rfl|rfl|rfl|rfl|rfl|rfl|rfl|rfl|rfl|rfl|rfl|rfl|rfl|rfl|rfl|rfl|rfl|rfl|rfl|rfl|rfl|rfl<;>(simp[shp] at h;subst h;decide)
end Go.Ax
namespace Go.Proofs.YtnhgnfdbdflhcaaGreatDoor
open Go Go.Ax Go.Eng
variable {a k:Int}(s:MS)(k' lo n c hA:Int)(hs:List Int)(ia m:Int)(b:List UInt8)(hB:Int)(az:List (El Aq))(ib ya:Int)(is:List Int)(bs:List (List UInt8))(ic:Int)(yb yc ba:List UInt8)
section
attribute [local irreducible] Cj Dt D9 DT DK BH Du Ey Fh FD Et D7 CV Df DX and' Dk DU CG Ba Bl CJ CS BK BM BB BG Dv G7 Dw EM Dl Bh CO Bz C9 Bo BD Bi BO Be BZ Dx Bf DL Bd BI D6 Dy fits Dz Dn AZ Ap BL
attribute [local irreducible] E5 CP Bq nameB ES Em Ar FK En FH Eu Fe CE IU Ej Gf GV Ee Gp FC JL JZ Ed
theorem pW(hi:Kp a k s)(hk:k<=900)(uhA:0<=hA/\hA<=65535)(hz:0<=MP hA s.ob):Ah E0 (.call 255 [av s,rq 13 [hA] [(ya,yb,yc)] [] []] []) fun r=>∃(t:MS) (e:Int) (is':List Int) (bs':List (List UInt8)),Kp a (k+1) t/\r=some (.ret (.tup [av t,rp e is' bs' []]) []):=by
 refine CU fun P hP=>tw ?_
 obtain⟨t0,e0_1,is'0_2,bs'0_3,h0_4,yy0⟩:=eP s 13 hA [] [(ya,yb,yc)] [] [] hi A8 A8 A8;refine Am yy0 ?_;exact hP _ ⟨t0,e0_1,is'0_2,bs'0_3,A8,rfl⟩
theorem pX(hi:Kp a k s)(hk:k<=900)(uhA:0<=hA/\hA<=65535)(hz:0<=MP hA s.ob):Ah E0 (.call 208 [av s,.i lo,rq 13 [hA] [(ya,yb,yc)] [] []] []) fun r=>∃(t:MS) (e:Int) (is':List Int) (bs':List (List UInt8)),Kp a (k+1) t/\r=some (.ret (.tup [av t,rp e is' bs' []]) []):=by
 refine CU fun P hP=>tw ?_
 obtain⟨t0,e0_1,is'0_2,bs'0_3,h0_4,yy0⟩:=pW s hA ya yb yc hi A8 A8 A8;refine Am yy0 ?_;exact hP _ ⟨t0,e0_1,is'0_2,bs'0_3,A8,rfl⟩
theorem pY(hi:Kp a k s)(hk:k<=900)(uhA:0<=hA/\hA<=65535)(uba:ba.length<=1024)(hz:0<=MP hA s.ob):Ah E0 (.call 255 [av s,rq 14 [hA] [(ya,yb,yc)] [] [ba]] []) fun r=>∃(t:MS) (e:Int) (is':List Int) (bs':List (List UInt8)),Kp a (k+1) t/\r=some (.ret (.tup [av t,rp e is' bs' []]) []):=by
 refine CU fun P hP=>tw ?_
 obtain⟨t0,e0_1,is'0_2,bs'0_3,h0_4,yy0⟩:=oO s 14 hA [] [(ya,yb,yc)] [] ba [] hi A8 A8 A8 A8 A8;refine Am yy0 ?_;exact hP _ ⟨t0,e0_1,is'0_2,bs'0_3,A8,rfl⟩
theorem pg(hi:Kp a k s)(hk:k<=900)(uhA:0<=hA/\hA<=65535)(uba:ba.length<=1024)(hz:0<=MP hA s.ob):Ah E0 (.call 208 [av s,.i lo,rq 14 [hA] [(ya,yb,yc)] [] [ba]] []) fun r=>∃(t:MS) (e:Int) (is':List Int) (bs':List (List UInt8)),Kp a (k+1) t/\r=some (.ret (.tup [av t,rp e is' bs' []]) []):=by
 refine CU fun P hP=>tw ?_
 obtain⟨t0,e0_1,is'0_2,bs'0_3,h0_4,yy0⟩:=pY s hA ya yb yc ba hi A8 A8 A8 A8;refine Am yy0 ?_;exact hP _ ⟨t0,e0_1,is'0_2,bs'0_3,A8,rfl⟩
theorem pq(hi:Kp a k s)(hk:k<=900)(uhA:0<=hA/\hA<=65535)(uia:0<=ia/\ia<=1099511627776)(uib:0<=ib/\ib<=1099511627776)(uba:ba.length<=1024)(hz:0<=MP hA s.ob):Ah E0 (.call 255 [av s,rq 15 [hA] [(ya,yb,yc)] [ia,ib] [ba]] []) fun r=>∃(t:MS) (e:Int) (is':List Int) (bs':List (List UInt8)),Kp a (k+1) t/\r=some (.ret (.tup [av t,rp e is' bs' []]) []):=by
 refine CU fun P hP=>tw ?_
 obtain⟨t0,e0_1,is'0_2,bs'0_3,h0_4,yy0⟩:=kS s 15 hA ia ib [] [(ya,yb,yc)] ba [] hi A8 A8 A8 A8 A8;refine Am yy0 ?_;exact hP _ ⟨t0,e0_1,is'0_2,bs'0_3,A8,rfl⟩
theorem pz(hi:Kp a k s)(hk:k<=900)(uhA:0<=hA/\hA<=65535)(uia:0<=ia/\ia<=1099511627776)(uib:0<=ib/\ib<=1099511627776)(uba:ba.length<=1024)(hz:0<=MP hA s.ob):Ah E0 (.call 208 [av s,.i lo,rq 15 [hA] [(ya,yb,yc)] [ia,ib] [ba]] []) fun r=>∃(t:MS) (e:Int) (is':List Int) (bs':List (List UInt8)),Kp a (k+1) t/\r=some (.ret (.tup [av t,rp e is' bs' []]) []):=by
 refine CU fun P hP=>tw ?_
 obtain⟨t0,e0_1,is'0_2,bs'0_3,h0_4,yy0⟩:=pq s hA ia ib ya yb yc ba hi A8 A8 A8 A8 A8 A8;refine Am yy0 ?_;exact hP _ ⟨t0,e0_1,is'0_2,bs'0_3,A8,rfl⟩
theorem qA(hi:Kp a k s)(hk:k<=900)(uia:0<=ia/\ia<=1099511627776):Ah E0 (.call 208 [av s,.i lo,rq 16 [] [] [ia] []] []) fun r=>∃(t:MS) (e:Int) (is':List Int) (bs':List (List UInt8)),Kp a (k+1) t/\r=some (.ret (.tup [av t,rp e is' bs' []]) []):=by
 refine CU fun P hP=>tw ?_
 obtain⟨t0,e0_1,is'0_2,bs'0_3,h0_4,yy0⟩:=kz s ia [] [] [] hi A8 A8;refine Am yy0 ?_;exact hP _ ⟨t0,e0_1,is'0_2,bs'0_3,A8,rfl⟩
theorem qB(id ie ig:Int)(bs:List (List UInt8))(hi:Kp a k s)(hk:k<=900)(uia:0<=ia/\ia<=1099511627776)(uib:0<=ib/\ib<=1099511627776)(uic:0<=ic/\ic<=1099511627776)(uid:0<=id/\id<=1099511627776)(uie:0<=ie/\ie<=1099511627776)(uig:0<=ig/\ig<=1099511627776)(ubs:bs.length<=8)(umb:∀ x∈bs,x.length<=2000):Ah E0 (.call 208 [av s,.i lo,rq 17 [] [] [ia,ib,ic,id,ie,ig] bs] []) fun r=>∃(t:MS) (e:Int) (is':List Int) (bs':List (List UInt8)),Kp a (k+1) t/\r=some (.ret (.tup [av t,rp e is' bs' []]) []):=by
 refine CU fun P hP=>tw ?_
 obtain⟨t0,e0_1,is'0_2,bs'0_3,h0_4,yy0⟩:=lC s ia ib ic id ie ig [] [] bs hi A8 A8 A8 A8;refine Am yy0 ?_;exact hP _ ⟨t0,e0_1,is'0_2,bs'0_3,A8,rfl⟩
theorem qC(hi:Kp a k s)(hk:k<=900)(uhA:0<=hA/\hA<=65535)(uia:0<=ia/\ia<=1099511627776)(uib:0<=ib/\ib<=1099511627776)(uba:ba.length<=1024):Ah E0 (.call 208 [av s,.i lo,rq 18 [hA] [(ya,yb,yc)] [ia,ib] [ba]] []) fun r=>∃(t:MS) (e:Int) (is':List Int) (bs':List (List UInt8)),Kp a (k+1) t/\r=some (.ret (.tup [av t,rp e is' bs' []]) []):=by
 refine CU fun P hP=>tw ?_
 obtain⟨t0,e0_1,is'0_2,bs'0_3,h0_4,yy0⟩:=lD s hA ia ib ya yb yc ba hi A8 A8 A8;refine Am yy0 ?_;exact hP _ ⟨t0,e0_1,is'0_2,bs'0_3,A8,rfl⟩
theorem qE(bb bc:List UInt8)(hi:Kp a k s)(hk:k<=900)(uia:0<=ia/\ia<=1099511627776)(uba:ba.length<=1024)(ubb:bb.length<=1024)(ubc:bc.length<=1024):Ah E0 (.call 208 [av s,.i lo,rq 19 [] [] [ia] [ba,bb,bc]] []) fun r=>∃(t:MS) (e:Int) (is':List Int) (bs':List (List UInt8)),Kp a (k+1) t/\r=some (.ret (.tup [av t,rp e is' bs' []]) []):=by
 refine CU fun P hP=>?_
 rw[Ae]
 conv=>arg 1;whnf
 rw[AA zaa]
 conv=>arg 1;whnf
 rw[AA zaa]
 conv=>arg 1;whnf
 rw[AA zaa]
 conv=>arg 1;whnf
 rw[AA zaa]
 conv=>arg 1;whnf
 rw[AA zaa]
 conv=>arg 1;whnf
 rw[AA zaa]
 conv=>arg 1;whnf
 rw[AA zaa]
 conv=>arg 1;whnf
 rw[AA zaa]
 conv=>arg 1;whnf
 rw[AA zaa]
 conv=>arg 1;whnf
 rw[AA zaa]
 conv=>arg 1;whnf
 rw[AA zaa]
 conv=>arg 1;whnf
 rw[AA zaa]
 conv=>arg 1;whnf
 rw[AA zaa]
 conv=>arg 1;whnf
 rw[AA zaa]
 conv=>arg 1;whnf
 rw[AA zaa]
 conv=>arg 1;whnf
 rw[AA zaa]
 conv=>arg 1;whnf
 rw[AA zaa]
 conv=>arg 1;whnf
 rw[ER zaa]
 conv=>arg 1;whnf
 rw[Ae]
 conv=>arg 1;whnf
 try dsimp -iota -beta -eta -zeta only
 rw[AU];obtain⟨t0,e0_1,is'0_2,bs'0_3,h0_4,yy0⟩:=lF s ia [] [] ba bb bc hi A8 A8 A8 A8 A8;refine Am yy0 ?_;exact hP _ ⟨t0,e0_1,is'0_2,bs'0_3,A8,rfl⟩
theorem qF(hi:Kp a k s)(hk:k<=900)(uia:0<=ia/\ia<=1099511627776):Ah E0 (.call 208 [av s,.i lo,rq 20 [] [] [ia] []] []) fun r=>∃(t:MS) (e:Int) (is':List Int) (bs':List (List UInt8)),Kp a (k+1) t/\r=some (.ret (.tup [av t,rp e is' bs' []]) []):=by
 refine CU fun P hP=>?_
 rw[Ae]
 conv=>arg 1;whnf
 rw[AA zaa]
 conv=>arg 1;whnf
 rw[AA zaa]
 conv=>arg 1;whnf
 rw[AA zaa]
 conv=>arg 1;whnf
 rw[AA zaa]
 conv=>arg 1;whnf
 rw[AA zaa]
 conv=>arg 1;whnf
 rw[AA zaa]
 conv=>arg 1;whnf
 rw[AA zaa]
 conv=>arg 1;whnf
 rw[AA zaa]
 conv=>arg 1;whnf
 rw[AA zaa]
 conv=>arg 1;whnf
 rw[AA zaa]
 conv=>arg 1;whnf
 rw[AA zaa]
 conv=>arg 1;whnf
 rw[AA zaa]
 conv=>arg 1;whnf
 rw[AA zaa]
 conv=>arg 1;whnf
 rw[AA zaa]
 conv=>arg 1;whnf
 rw[AA zaa]
 conv=>arg 1;whnf
 rw[AA zaa]
 conv=>arg 1;whnf
 rw[AA zaa]
 conv=>arg 1;whnf
 rw[AA zaa]
 conv=>arg 1;whnf
 rw[Ae]
 conv=>arg 1;whnf
 rw[ER zaa]
 conv=>arg 1;whnf
 try dsimp -iota -beta -eta -zeta only
 rw[AU];obtain⟨t0,e0_1,is'0_2,bs'0_3,h0_4,yy0⟩:=lG s ia [] [] [] hi A8 A8;refine Am yy0 ?_;exact hP _ ⟨t0,e0_1,is'0_2,bs'0_3,A8,rfl⟩
theorem qG(id:Int)(ya:Int)(yb yc:List UInt8)(ba bb:List UInt8)(hi:Kp a k s)(hk:k<=900)(uhA:0<=hA/\hA<=65535)(uia:0<=ia/\ia<=1099511627776)(uib:0<=ib/\ib<=1099511627776)(uic:0<=ic/\ic<=1099511627776)(uid:0<=id/\id<=1099511627776)(uba:ba.length<=1024)(ubb:bb.length<=1024):Ah E0 (.call 208 [av s,.i lo,rq 21 [hA] [(ya,yb,yc)] [ia,ib,ic,id] [ba,bb]] []) fun r=>∃(t:MS) (e:Int) (is':List Int) (bs':List (List UInt8)),Kp a (k+1) t/\r=some (.ret (.tup [av t,rp e is' bs' []]) []):=by
 refine CU fun P hP=>?_
 rw[Ae]
 conv=>arg 1;whnf
 rw[AA zaa]
 conv=>arg 1;whnf
 rw[AA zaa]
 conv=>arg 1;whnf
 rw[AA zaa]
 conv=>arg 1;whnf
 rw[AA zaa]
 conv=>arg 1;whnf
 rw[AA zaa]
 conv=>arg 1;whnf
 rw[AA zaa]
 conv=>arg 1;whnf
 rw[AA zaa]
 conv=>arg 1;whnf
 rw[AA zaa]
 conv=>arg 1;whnf
 rw[AA zaa]
 conv=>arg 1;whnf
 rw[AA zaa]
 conv=>arg 1;whnf
 rw[AA zaa]
 conv=>arg 1;whnf
 rw[AA zaa]
 conv=>arg 1;whnf
 rw[AA zaa]
 conv=>arg 1;whnf
 rw[AA zaa]
 conv=>arg 1;whnf
 rw[AA zaa]
 conv=>arg 1;whnf
 rw[AA zaa]
 conv=>arg 1;whnf
 rw[AA zaa]
 conv=>arg 1;whnf
 rw[AA zaa]
 conv=>arg 1;whnf
 rw[Ae]
 conv=>arg 1;whnf
 rw[AA zaa]
 conv=>arg 1;whnf
 rw[ER zaa]
 conv=>arg 1;whnf
 try dsimp -iota -beta -eta -zeta only
 rw[AU];obtain⟨t0,e0_1,is'0_2,bs'0_3,h0_4,yy0⟩:=xR s hA ia ib ic id [(ya,yb,yc)] ba bb hi A8;refine Am yy0 ?_;exact hP _ ⟨t0,e0_1,is'0_2,bs'0_3,A8,rfl⟩
theorem qH(hi:Kp a k s)(hk:k<=900)(uhA:0<=hA/\hA<=65535)(uia:0<=ia/\ia<=1099511627776):Ah E0 (.call 208 [av s,.i lo,rq 22 [hA] [(ya,yb,yc)] [ia] []] []) fun r=>∃(t:MS) (e:Int) (is':List Int) (bs':List (List UInt8)),Kp a (k+1) t/\r=some (.ret (.tup [av t,rp e is' bs' []]) []):=by
 refine CU fun P hP=>?_
 rw[Ae]
 conv=>arg 1;whnf
 rw[AA zaa]
 conv=>arg 1;whnf
 rw[AA zaa]
 conv=>arg 1;whnf
 rw[AA zaa]
 conv=>arg 1;whnf
 rw[AA zaa]
 conv=>arg 1;whnf
 rw[AA zaa]
 conv=>arg 1;whnf
 rw[AA zaa]
 conv=>arg 1;whnf
 rw[AA zaa]
 conv=>arg 1;whnf
 rw[AA zaa]
 conv=>arg 1;whnf
 rw[AA zaa]
 conv=>arg 1;whnf
 rw[AA zaa]
 conv=>arg 1;whnf
 rw[AA zaa]
 conv=>arg 1;whnf
 rw[AA zaa]
 conv=>arg 1;whnf
 rw[AA zaa]
 conv=>arg 1;whnf
 rw[AA zaa]
 conv=>arg 1;whnf
 rw[AA zaa]
 conv=>arg 1;whnf
 rw[AA zaa]
 conv=>arg 1;whnf
 rw[AA zaa]
 conv=>arg 1;whnf
 rw[AA zaa]
 conv=>arg 1;whnf
 rw[Ae]
 conv=>arg 1;whnf
 rw[AA zaa]
 conv=>arg 1;whnf
 rw[AA zaa]
 conv=>arg 1;whnf
 rw[ER zaa]
 conv=>arg 1;whnf
 try dsimp -iota -beta -eta -zeta only
 rw[AU];obtain⟨t0,e0_1,is'0_2,bs'0_3,h0_4,yy0⟩:=lI s hA ia [(ya,yb,yc)] [] hi A8 A8;refine Am yy0 ?_;exact hP _ ⟨t0,e0_1,is'0_2,bs'0_3,A8,rfl⟩
theorem qI(ia:Int)(ya:Int)(yb yc:List UInt8)(ba:List UInt8)(hi:Kp a k s)(hk:k<=900)(uhA:0<=hA/\hA<=65535)(uhB:0<=hB/\hB<=65535)(uia:0<=ia/\ia<=1099511627776)(uba:ba.length<=1024)(hz:0<=L9 hB s.ix):Ah E0 (.call 208 [av s,.i lo,rq 23 [hA,hB] [(ya,yb,yc)] [ia] [ba]] []) fun r=>∃(t:MS) (e:Int) (is':List Int) (bs':List (List UInt8)),Kp a (k+1) t/\r=some (.ret (.tup [av t,rp e is' bs' []]) []):=by
 refine CU fun P hP=>?_
 rw[Ae]
 conv=>arg 1;whnf
 rw[AA zaa]
 conv=>arg 1;whnf
 rw[AA zaa]
 conv=>arg 1;whnf
 rw[AA zaa]
 conv=>arg 1;whnf
 rw[AA zaa]
 conv=>arg 1;whnf
 rw[AA zaa]
 conv=>arg 1;whnf
 rw[AA zaa]
 conv=>arg 1;whnf
 rw[AA zaa]
 conv=>arg 1;whnf
 rw[AA zaa]
 conv=>arg 1;whnf
 rw[AA zaa]
 conv=>arg 1;whnf
 rw[AA zaa]
 conv=>arg 1;whnf
 rw[AA zaa]
 conv=>arg 1;whnf
 rw[AA zaa]
 conv=>arg 1;whnf
 rw[AA zaa]
 conv=>arg 1;whnf
 rw[AA zaa]
 conv=>arg 1;whnf
 rw[AA zaa]
 conv=>arg 1;whnf
 rw[AA zaa]
 conv=>arg 1;whnf
 rw[AA zaa]
 conv=>arg 1;whnf
 rw[AA zaa]
 conv=>arg 1;whnf
 rw[Ae]
 conv=>arg 1;whnf
 rw[AA zaa]
 conv=>arg 1;whnf
 rw[AA zaa]
 conv=>arg 1;whnf
 rw[AA zaa]
 conv=>arg 1;whnf
 rw[AA zaa]
 conv=>arg 1;whnf
 rw[AA zaa]
 conv=>arg 1;whnf
 rw[AA zaa]
 conv=>arg 1;whnf
 rw[AA zaa]
 conv=>arg 1;whnf
 rw[Ae]
 conv=>arg 1;whnf
 try dsimp -iota -beta -eta -zeta only
 rw[AU];obtain⟨t0,e0_1,is'0_2,bs'0_3,h0_4,yy0⟩:=oq s hA hB ia ba [(ya,yb,yc)] hi A8 A8 A8 A8;refine Am yy0 ?_;exact hP _ ⟨t0,e0_1,is'0_2,bs'0_3,A8,rfl⟩
end
section
attribute [local irreducible] Cj Dt D9 DT DK BH Du Ey Fh FD Et D7 CV Df DX and' Dk DU CG Ba Bl CJ CS BK BM BB BG Dv G7 Dw EM Dl Bh CO Bz C9 Bo BD Bi BO Be BZ Dx Bf DL Bd BI D6 Dy fits Dz Dn AZ Ap BL
attribute [local irreducible] E5 CP Bq nameB ES Em Ar FK En FH Eu Fe CE IU Ej Gf GV Ee Gp FC JL JZ Ed
theorem qJ(ia ib:Int)(ya:Int)(yb yc:List UInt8)(hi:Kp a k s)(hk:k<=900)(uhA:0<=hA/\hA<=65535)(uhB:0<=hB/\hB<=65535)(uia:0<=ia/\ia<=1099511627776)(uib:0<=ib/\ib<=1099511627776)(hz:0<=L9 hB s.ix):Ah E0 (.call 208 [av s,.i lo,rq 24 [hA,hB] [(ya,yb,yc)] [ia,ib] []] []) fun r=>∃(t:MS) (e:Int) (is':List Int) (bs':List (List UInt8)),Kp a (k+1) t/\r=some (.ret (.tup [av t,rp e is' bs' []]) []):=by
 refine CU fun P hP=>?_
 rw[Ae]
 conv=>arg 1;whnf
 rw[AA zaa]
 conv=>arg 1;whnf
 rw[AA zaa]
 conv=>arg 1;whnf
 rw[AA zaa]
 conv=>arg 1;whnf
 rw[AA zaa]
 conv=>arg 1;whnf
 rw[AA zaa]
 conv=>arg 1;whnf
 rw[AA zaa]
 conv=>arg 1;whnf
 rw[AA zaa]
 conv=>arg 1;whnf
 rw[AA zaa]
 conv=>arg 1;whnf
 rw[AA zaa]
 conv=>arg 1;whnf
 rw[AA zaa]
 conv=>arg 1;whnf
 rw[AA zaa]
 conv=>arg 1;whnf
 rw[AA zaa]
 conv=>arg 1;whnf
 rw[AA zaa]
 conv=>arg 1;whnf
 rw[AA zaa]
 conv=>arg 1;whnf
 rw[AA zaa]
 conv=>arg 1;whnf
 rw[AA zaa]
 conv=>arg 1;whnf
 rw[AA zaa]
 conv=>arg 1;whnf
 rw[AA zaa]
 conv=>arg 1;whnf
 rw[Ae]
 conv=>arg 1;whnf
 rw[AA zaa]
 conv=>arg 1;whnf
 rw[AA zaa]
 conv=>arg 1;whnf
 rw[AA zaa]
 conv=>arg 1;whnf
 rw[AA zaa]
 conv=>arg 1;whnf
 rw[AA zaa]
 conv=>arg 1;whnf
 rw[AA zaa]
 conv=>arg 1;whnf
 rw[AA zaa]
 conv=>arg 1;whnf
 rw[Ae]
 conv=>arg 1;whnf
 try dsimp -iota -beta -eta -zeta only
 rw[AU];obtain⟨t0,e0_1,is'0_2,bs'0_3,h0_4,yy0⟩:=ou s hA hB ia ib [] [(ya,yb,yc)] hi A8 A8 A8 A8;refine Am yy0 ?_;exact hP _ ⟨t0,e0_1,is'0_2,bs'0_3,A8,rfl⟩
theorem qK(hi:Kp a k s)(hk:k<=900)(uhA:0<=hA/\hA<=65535)(uhB:0<=hB/\hB<=65535)(hz:0<=L9 hB s.ix):Ah E0 (.call 208 [av s,.i lo,rq 25 [hA,hB] [(ya,yb,yc)] [] []] []) fun r=>∃(t:MS) (e:Int) (is':List Int) (bs':List (List UInt8)),Kp a (k+1) t/\r=some (.ret (.tup [av t,rp e is' bs' []]) []):=by
 refine CU fun P hP=>?_
 rw[Ae]
 conv=>arg 1;whnf
 rw[AA zaa]
 conv=>arg 1;whnf
 rw[AA zaa]
 conv=>arg 1;whnf
 rw[AA zaa]
 conv=>arg 1;whnf
 rw[AA zaa]
 conv=>arg 1;whnf
 rw[AA zaa]
 conv=>arg 1;whnf
 rw[AA zaa]
 conv=>arg 1;whnf
 rw[AA zaa]
 conv=>arg 1;whnf
 rw[AA zaa]
 conv=>arg 1;whnf
 rw[AA zaa]
 conv=>arg 1;whnf
 rw[AA zaa]
 conv=>arg 1;whnf
 rw[AA zaa]
 conv=>arg 1;whnf
 rw[AA zaa]
 conv=>arg 1;whnf
 rw[AA zaa]
 conv=>arg 1;whnf
 rw[AA zaa]
 conv=>arg 1;whnf
 rw[AA zaa]
 conv=>arg 1;whnf
 rw[AA zaa]
 conv=>arg 1;whnf
 rw[AA zaa]
 conv=>arg 1;whnf
 rw[AA zaa]
 conv=>arg 1;whnf
 rw[Ae]
 conv=>arg 1;whnf
 rw[AA zaa]
 conv=>arg 1;whnf
 rw[AA zaa]
 conv=>arg 1;whnf
 rw[AA zaa]
 conv=>arg 1;whnf
 rw[AA zaa]
 conv=>arg 1;whnf
 rw[AA zaa]
 conv=>arg 1;whnf
 rw[AA zaa]
 conv=>arg 1;whnf
 rw[AA zaa]
 conv=>arg 1;whnf
 rw[Ae]
 conv=>arg 1;whnf
 try dsimp -iota -beta -eta -zeta only
 rw[AU];obtain⟨t0,e0_1,is'0_2,bs'0_3,h0_4,yy0⟩:=oz s hA hB [] [] [(ya,yb,yc)] hi A8 A8;refine Am yy0 ?_;exact hP _ ⟨t0,e0_1,is'0_2,bs'0_3,A8,rfl⟩
theorem qL(hi:Kp a k s)(hk:k<=900)(uhA:0<=hA/\hA<=65535)(uhB:0<=hB/\hB<=65535)(uba:ba.length<=1024)(hz:0<=L9 hB s.ix):Ah E0 (.call 208 [av s,.i lo,rq 26 [hA,hB] [(ya,yb,yc)] [] [ba]] []) fun r=>∃(t:MS) (e:Int) (is':List Int) (bs':List (List UInt8)),Kp a (k+1) t/\r=some (.ret (.tup [av t,rp e is' bs' []]) []):=by
 refine CU fun P hP=>?_
 rw[Ae]
 conv=>arg 1;whnf
 rw[AA zaa]
 conv=>arg 1;whnf
 rw[AA zaa]
 conv=>arg 1;whnf
 rw[AA zaa]
 conv=>arg 1;whnf
 rw[AA zaa]
 conv=>arg 1;whnf
 rw[AA zaa]
 conv=>arg 1;whnf
 rw[AA zaa]
 conv=>arg 1;whnf
 rw[AA zaa]
 conv=>arg 1;whnf
 rw[AA zaa]
 conv=>arg 1;whnf
 rw[AA zaa]
 conv=>arg 1;whnf
 rw[AA zaa]
 conv=>arg 1;whnf
 rw[AA zaa]
 conv=>arg 1;whnf
 rw[AA zaa]
 conv=>arg 1;whnf
 rw[AA zaa]
 conv=>arg 1;whnf
 rw[AA zaa]
 conv=>arg 1;whnf
 rw[AA zaa]
 conv=>arg 1;whnf
 rw[AA zaa]
 conv=>arg 1;whnf
 rw[AA zaa]
 conv=>arg 1;whnf
 rw[AA zaa]
 conv=>arg 1;whnf
 rw[Ae]
 conv=>arg 1;whnf
 rw[AA zaa]
 conv=>arg 1;whnf
 rw[AA zaa]
 conv=>arg 1;whnf
 rw[AA zaa]
 conv=>arg 1;whnf
 rw[AA zaa]
 conv=>arg 1;whnf
 rw[AA zaa]
 conv=>arg 1;whnf
 rw[AA zaa]
 conv=>arg 1;whnf
 rw[AA zaa]
 conv=>arg 1;whnf
 rw[Ae]
 conv=>arg 1;whnf
 try dsimp -iota -beta -eta -zeta only
 rw[AU];obtain⟨t0,e0_1,is'0_2,bs'0_3,h0_4,yy0⟩:=pF s hA hB [] ba [(ya,yb,yc)] hi A8 A8 A8;refine Am yy0 ?_;exact hP _ ⟨t0,e0_1,is'0_2,bs'0_3,A8,rfl⟩
theorem qM(hi:Kp a k s)(hk:k<=900)(uhA:0<=hA/\hA<=65535)(uhB:0<=hB/\hB<=65535)(uba:ba.length<=1024)(hz:0<=L9 hB s.ix):Ah E0 (.call 208 [av s,.i lo,rq 27 [hA,hB] [(ya,yb,yc)] [] [ba]] []) fun r=>∃(t:MS) (e:Int) (is':List Int) (bs':List (List UInt8)),Kp a (k+1) t/\r=some (.ret (.tup [av t,rp e is' bs' []]) []):=by
 refine CU fun P hP=>?_
 rw[Ae]
 conv=>arg 1;whnf
 rw[AA zaa]
 conv=>arg 1;whnf
 rw[AA zaa]
 conv=>arg 1;whnf
 rw[AA zaa]
 conv=>arg 1;whnf
 rw[AA zaa]
 conv=>arg 1;whnf
 rw[AA zaa]
 conv=>arg 1;whnf
 rw[AA zaa]
 conv=>arg 1;whnf
 rw[AA zaa]
 conv=>arg 1;whnf
 rw[AA zaa]
 conv=>arg 1;whnf
 rw[AA zaa]
 conv=>arg 1;whnf
 rw[AA zaa]
 conv=>arg 1;whnf
 rw[AA zaa]
 conv=>arg 1;whnf
 rw[AA zaa]
 conv=>arg 1;whnf
 rw[AA zaa]
 conv=>arg 1;whnf
 rw[AA zaa]
 conv=>arg 1;whnf
 rw[AA zaa]
 conv=>arg 1;whnf
 rw[AA zaa]
 conv=>arg 1;whnf
 rw[AA zaa]
 conv=>arg 1;whnf
 rw[AA zaa]
 conv=>arg 1;whnf
 rw[Ae]
 conv=>arg 1;whnf
 rw[AA zaa]
 conv=>arg 1;whnf
 rw[AA zaa]
 conv=>arg 1;whnf
 rw[AA zaa]
 conv=>arg 1;whnf
 rw[AA zaa]
 conv=>arg 1;whnf
 rw[AA zaa]
 conv=>arg 1;whnf
 rw[AA zaa]
 conv=>arg 1;whnf
 rw[AA zaa]
 conv=>arg 1;whnf
 rw[Ae]
 conv=>arg 1;whnf
 try dsimp -iota -beta -eta -zeta only
 rw[AU];obtain⟨t0,e0_1,is'0_2,bs'0_3,h0_4,yy0⟩:=pG s hA hB [] ba [(ya,yb,yc)] hi A8 A8 A8;refine Am yy0 ?_;exact hP _ ⟨t0,e0_1,is'0_2,bs'0_3,A8,rfl⟩
theorem qN(hi:Kp a k s)(hk:k<=900)(uhA:0<=hA/\hA<=65535)(uhB:0<=hB/\hB<=65535)(hz:0<=L9 hB s.ix):Ah E0 (.call 208 [av s,.i lo,rq 28 [hA,hB] [(ya,yb,yc)] [] []] []) fun r=>∃(t:MS) (e:Int) (is':List Int) (bs':List (List UInt8)),Kp a (k+1) t/\r=some (.ret (.tup [av t,rp e is' bs' []]) []):=by
 refine CU fun P hP=>?_
 rw[Ae]
 conv=>arg 1;whnf
 rw[AA zaa]
 conv=>arg 1;whnf
 rw[AA zaa]
 conv=>arg 1;whnf
 rw[AA zaa]
 conv=>arg 1;whnf
 rw[AA zaa]
 conv=>arg 1;whnf
 rw[AA zaa]
 conv=>arg 1;whnf
 rw[AA zaa]
 conv=>arg 1;whnf
 rw[AA zaa]
 conv=>arg 1;whnf
 rw[AA zaa]
 conv=>arg 1;whnf
 rw[AA zaa]
 conv=>arg 1;whnf
 rw[AA zaa]
 conv=>arg 1;whnf
 rw[AA zaa]
 conv=>arg 1;whnf
 rw[AA zaa]
 conv=>arg 1;whnf
 rw[AA zaa]
 conv=>arg 1;whnf
 rw[AA zaa]
 conv=>arg 1;whnf
 rw[AA zaa]
 conv=>arg 1;whnf
 rw[AA zaa]
 conv=>arg 1;whnf
 rw[AA zaa]
 conv=>arg 1;whnf
 rw[AA zaa]
 conv=>arg 1;whnf
 rw[Ae]
 conv=>arg 1;whnf
 rw[AA zaa]
 conv=>arg 1;whnf
 rw[AA zaa]
 conv=>arg 1;whnf
 rw[AA zaa]
 conv=>arg 1;whnf
 rw[AA zaa]
 conv=>arg 1;whnf
 rw[AA zaa]
 conv=>arg 1;whnf
 rw[AA zaa]
 conv=>arg 1;whnf
 rw[AA zaa]
 conv=>arg 1;whnf
 rw[Ae]
 conv=>arg 1;whnf
 try dsimp -iota -beta -eta -zeta only
 rw[AU];obtain⟨t0,e0_1,is'0_2,bs'0_3,h0_4,yy0⟩:=pI s hA hB [] [] [(ya,yb,yc)] hi A8 A8;refine Am yy0 ?_;exact hP _ ⟨t0,e0_1,is'0_2,bs'0_3,A8,rfl⟩
theorem qO(hi:Kp a k s)(hk:k<=900)(uhA:0<=hA/\hA<=65535)(uhB:0<=hB/\hB<=65535)(hz:0<=L9 hB s.ix):Ah E0 (.call 208 [av s,.i lo,rq 29 [hA,hB] [(ya,yb,yc)] [] []] []) fun r=>∃(t:MS) (e:Int) (is':List Int) (bs':List (List UInt8)),Kp a (k+1) t/\r=some (.ret (.tup [av t,rp e is' bs' []]) []):=by
 refine CU fun P hP=>?_
 rw[Ae]
 conv=>arg 1;whnf
 rw[AA zaa]
 conv=>arg 1;whnf
 rw[AA zaa]
 conv=>arg 1;whnf
 rw[AA zaa]
 conv=>arg 1;whnf
 rw[AA zaa]
 conv=>arg 1;whnf
 rw[AA zaa]
 conv=>arg 1;whnf
 rw[AA zaa]
 conv=>arg 1;whnf
 rw[AA zaa]
 conv=>arg 1;whnf
 rw[AA zaa]
 conv=>arg 1;whnf
 rw[AA zaa]
 conv=>arg 1;whnf
 rw[AA zaa]
 conv=>arg 1;whnf
 rw[AA zaa]
 conv=>arg 1;whnf
 rw[AA zaa]
 conv=>arg 1;whnf
 rw[AA zaa]
 conv=>arg 1;whnf
 rw[AA zaa]
 conv=>arg 1;whnf
 rw[AA zaa]
 conv=>arg 1;whnf
 rw[AA zaa]
 conv=>arg 1;whnf
 rw[AA zaa]
 conv=>arg 1;whnf
 rw[AA zaa]
 conv=>arg 1;whnf
 rw[Ae]
 conv=>arg 1;whnf
 rw[AA zaa]
 conv=>arg 1;whnf
 rw[AA zaa]
 conv=>arg 1;whnf
 rw[AA zaa]
 conv=>arg 1;whnf
 rw[AA zaa]
 conv=>arg 1;whnf
 rw[AA zaa]
 conv=>arg 1;whnf
 rw[AA zaa]
 conv=>arg 1;whnf
 rw[AA zaa]
 conv=>arg 1;whnf
 rw[Ae]
 conv=>arg 1;whnf
 try dsimp -iota -beta -eta -zeta only
 rw[AU];obtain⟨t0,e0_1,is'0_2,bs'0_3,h0_4,yy0⟩:=pJ s hA hB [] [] [(ya,yb,yc)] hi A8 A8;refine Am yy0 ?_;exact hP _ ⟨t0,e0_1,is'0_2,bs'0_3,A8,rfl⟩
theorem qP(hi:Kp a k s)(hk:k<=900)(uhA:0<=hA/\hA<=65535)(uba:ba.length<=1024)(hz:0<=hA/\hA<=3):Ah E0 (.call 208 [av s,.i lo,rq 30 [hA] [(ya,yb,yc)] [] [ba]] []) fun r=>∃(t:MS) (e:Int) (is':List Int) (bs':List (List UInt8)),Kp a (k+1) t/\r=some (.ret (.tup [av t,rp e is' bs' []]) []):=by
 refine CU fun P hP=>?_
 rw[Ae]
 conv=>arg 1;whnf
 rw[AA zaa]
 conv=>arg 1;whnf
 rw[AA zaa]
 conv=>arg 1;whnf
 rw[AA zaa]
 conv=>arg 1;whnf
 rw[AA zaa]
 conv=>arg 1;whnf
 rw[AA zaa]
 conv=>arg 1;whnf
 rw[AA zaa]
 conv=>arg 1;whnf
 rw[AA zaa]
 conv=>arg 1;whnf
 rw[AA zaa]
 conv=>arg 1;whnf
 rw[AA zaa]
 conv=>arg 1;whnf
 rw[AA zaa]
 conv=>arg 1;whnf
 rw[AA zaa]
 conv=>arg 1;whnf
 rw[AA zaa]
 conv=>arg 1;whnf
 rw[AA zaa]
 conv=>arg 1;whnf
 rw[AA zaa]
 conv=>arg 1;whnf
 rw[AA zaa]
 conv=>arg 1;whnf
 rw[AA zaa]
 conv=>arg 1;whnf
 rw[AA zaa]
 conv=>arg 1;whnf
 rw[AA zaa]
 conv=>arg 1;whnf
 rw[Ae]
 conv=>arg 1;whnf
 rw[AA zaa]
 conv=>arg 1;whnf
 rw[AA zaa]
 conv=>arg 1;whnf
 rw[AA zaa]
 conv=>arg 1;whnf
 rw[ER zaa]
 conv=>arg 1;whnf
 try dsimp -iota -beta -eta -zeta only
 rw[AU];obtain⟨t0,e0_1,is'0_2,bs'0_3,h0_4,yy0⟩:=eY s hA ba [(ya,yb,yc)] [] hi A8 A8 A8;refine Am yy0 ?_;exact hP _ ⟨t0,e0_1,is'0_2,bs'0_3,A8,rfl⟩
theorem qQ(hi:Kp a k s)(hk:k<=900)(uhA:0<=hA/\hA<=65535):Ah E0 (.call 208 [av s,.i lo,rq 31 [hA] [(ya,yb,yc)] [] []] []) fun r=>∃(t:MS) (e:Int) (is':List Int) (bs':List (List UInt8)),Kp a (k+1) t/\r=some (.ret (.tup [av t,rp e is' bs' []]) []):=by
 refine CU fun P hP=>?_
 rw[Ae]
 conv=>arg 1;whnf
 rw[AA zaa]
 conv=>arg 1;whnf
 rw[AA zaa]
 conv=>arg 1;whnf
 rw[AA zaa]
 conv=>arg 1;whnf
 rw[AA zaa]
 conv=>arg 1;whnf
 rw[AA zaa]
 conv=>arg 1;whnf
 rw[AA zaa]
 conv=>arg 1;whnf
 rw[AA zaa]
 conv=>arg 1;whnf
 rw[AA zaa]
 conv=>arg 1;whnf
 rw[AA zaa]
 conv=>arg 1;whnf
 rw[AA zaa]
 conv=>arg 1;whnf
 rw[AA zaa]
 conv=>arg 1;whnf
 rw[AA zaa]
 conv=>arg 1;whnf
 rw[AA zaa]
 conv=>arg 1;whnf
 rw[AA zaa]
 conv=>arg 1;whnf
 rw[AA zaa]
 conv=>arg 1;whnf
 rw[AA zaa]
 conv=>arg 1;whnf
 rw[AA zaa]
 conv=>arg 1;whnf
 rw[AA zaa]
 conv=>arg 1;whnf
 rw[Ae]
 conv=>arg 1;whnf
 rw[AA zaa]
 conv=>arg 1;whnf
 rw[AA zaa]
 conv=>arg 1;whnf
 rw[AA zaa]
 conv=>arg 1;whnf
 rw[AA zaa]
 conv=>arg 1;whnf
 rw[ER zaa]
 conv=>arg 1;whnf
 try dsimp -iota -beta -eta -zeta only
 rw[AU];obtain⟨t0,e0_1,is'0_2,bs'0_3,h0_4,yy0⟩:=lJ s hi A8;refine Am yy0 ?_;exact hP _ ⟨t0,e0_1,is'0_2,bs'0_3,A8,rfl⟩
theorem qR(hi:Kp a k s)(hk:k<=900)(uhA:0<=hA/\hA<=65535):Ah E0 (.call 208 [av s,.i lo,rq 32 [hA] [(ya,yb,yc)] [] []] []) fun r=>∃(t:MS) (e:Int) (is':List Int) (bs':List (List UInt8)),Kp a (k+1) t/\r=some (.ret (.tup [av t,rp e is' bs' []]) []):=by
 have hvc:=hi.vc
 have hlk:=hi.lk
 refine CU fun P hP=>?_
 rw[Ae]
 conv=>arg 1;whnf
 rw[AA zaa]
 conv=>arg 1;whnf
 rw[AA zaa]
 conv=>arg 1;whnf
 rw[AA zaa]
 conv=>arg 1;whnf
 rw[AA zaa]
 conv=>arg 1;whnf
 rw[AA zaa]
 conv=>arg 1;whnf
 rw[AA zaa]
 conv=>arg 1;whnf
 rw[AA zaa]
 conv=>arg 1;whnf
 rw[AA zaa]
 conv=>arg 1;whnf
 rw[AA zaa]
 conv=>arg 1;whnf
 rw[AA zaa]
 conv=>arg 1;whnf
 rw[AA zaa]
 conv=>arg 1;whnf
 rw[AA zaa]
 conv=>arg 1;whnf
 rw[AA zaa]
 conv=>arg 1;whnf
 rw[AA zaa]
 conv=>arg 1;whnf
 rw[AA zaa]
 conv=>arg 1;whnf
 rw[AA zaa]
 conv=>arg 1;whnf
 rw[AA zaa]
 conv=>arg 1;whnf
 rw[AA zaa]
 conv=>arg 1;whnf
 rw[Ae]
 conv=>arg 1;whnf
 rw[AA zaa]
 conv=>arg 1;whnf
 rw[AA zaa]
 conv=>arg 1;whnf
 rw[AA zaa]
 conv=>arg 1;whnf
 rw[AA zaa]
 conv=>arg 1;whnf
 rw[AA zaa]
 conv=>arg 1;whnf
 rw[ER zaa]
 conv=>arg 1;whnf
 try dsimp -iota -beta -eta -zeta only
 rw[AU];obtain⟨m10,m40_1,h0_2,yy0⟩:=jv s.l1 s.l2 s.l3 s.l4 s.l5 s.l6 s.vc A8 A8;refine Am yy0 ?_;refine hP _ ⟨{s with l1:=m10,l4:=m40_1},0,[],[],?_,rfl⟩;exact {hi.up (k':=k+1) zaw with lk:=zat}
theorem qU(ya:Int)(yb yc:List UInt8)(hi:Kp a k s)(hk:k<=900)(uhA:0<=hA/\hA<=65535)(uia:0<=ia/\ia<=1099511627776)(uib:0<=ib/\ib<=1099511627776)(uic:0<=ic/\ic<=1099511627776):Ah E0 (.call 208 [av s,.i lo,rq 33 [hA] [(ya,yb,yc)] [ia,ib,ic] []] []) fun r=>∃(t:MS) (e:Int) (is':List Int) (bs':List (List UInt8)),Kp a (k+1) t/\r=some (.ret (.tup [av t,rp e is' bs' []]) []):=by
 have hvc:=hi.vc
 have hlk:=hi.lk
 refine CU fun P hP=>?_
 rw[Ae]
 conv=>arg 1;whnf
 rw[AA zaa]
 conv=>arg 1;whnf
 rw[AA zaa]
 conv=>arg 1;whnf
 rw[AA zaa]
 conv=>arg 1;whnf
 rw[AA zaa]
 conv=>arg 1;whnf
 rw[AA zaa]
 conv=>arg 1;whnf
 rw[AA zaa]
 conv=>arg 1;whnf
 rw[AA zaa]
 conv=>arg 1;whnf
 rw[AA zaa]
 conv=>arg 1;whnf
 rw[AA zaa]
 conv=>arg 1;whnf
 rw[AA zaa]
 conv=>arg 1;whnf
 rw[AA zaa]
 conv=>arg 1;whnf
 rw[AA zaa]
 conv=>arg 1;whnf
 rw[AA zaa]
 conv=>arg 1;whnf
 rw[AA zaa]
 conv=>arg 1;whnf
 rw[AA zaa]
 conv=>arg 1;whnf
 rw[AA zaa]
 conv=>arg 1;whnf
 rw[AA zaa]
 conv=>arg 1;whnf
 rw[AA zaa]
 conv=>arg 1;whnf
 rw[Ae]
 conv=>arg 1;whnf
 rw[AA zaa]
 conv=>arg 1;whnf
 rw[AA zaa]
 conv=>arg 1;whnf
 rw[AA zaa]
 conv=>arg 1;whnf
 rw[AA zaa]
 conv=>arg 1;whnf
 rw[AA zaa]
 conv=>arg 1;whnf
 rw[AA zaa]
 conv=>arg 1;whnf
 rw[ER zaa]
 conv=>arg 1;whnf
 try dsimp -iota -beta -eta -zeta only
 rw[lg0];conv=>arg 1;whnf
 rw[lg1];conv=>arg 1;whnf
 rw[lg2];conv=>arg 1;whnf
 try dsimp -iota -beta -eta -zeta only
 rw[AU];obtain⟨m10,m20_1,m30_2,m40_3,m50_4,m60_5,e0_6,h0_7,yy0⟩:=dM s.l1 s.l2 s.l3 s.l4 s.l5 s.l6 ia ib ic A8;refine Am yy0 ?_
 rcases AX e0_6 0 with hc1|hc1
 ·refine tw ?_;rw[BA ..];refine tw ?_;exact hP _ ⟨s,e0_6,[],[],clo,rfl⟩
 subst hc1;refine tw ?_;refine hP _ ⟨{s with l1:=m10,l2:=m20_1,l3:=m30_2,l4:=m40_3,l5:=m50_4,l6:=m60_5},0,[],[],?_,rfl⟩;exact {hi.up (k':=k+1) zaw with lk:=zat}
end
section
attribute [local irreducible] Cj Dt D9 DT DK BH Du Ey Fh FD Et D7 CV Df DX and' Dk DU CG Ba Bl CJ CS BK BM BB BG Dv G7 Dw EM Dl Bh CO Bz C9 Bo BD Bi BO Be BZ Dx Bf DL Bd BI D6 Dy fits Dz Dn AZ Ap BL
attribute [local irreducible] E5 CP Bq nameB ES Em Ar FK En FH Eu Fe CE IU Ej Gf GV Ee Gp FC JL JZ Ed
theorem aG(s:MS)(n kind:Int){a k:Int}(hi:Kp a k s)(hn:0<=n/\n<=4294967296):∀(q:Nat) (j:Int),0<=j->j+q=3->Ah E0 (.loop 75 0 0 1 [(1,.i n),(2,.i kind),(3,.pa 0 0),(7,.i j)] [(0,some (.var (cv s)))]) fun r=>(∃ h:Int,(512<=h/\h<=514)/\r=some (.fin .ret 0 [(1,.i n),(6,.i h)] []))\/r=some (.fin (.exit 0) 0 [(1,.i n)] [])
 | 0,j,h0,hj=>by
  have hl:=hi.obl
  refine CU fun P hP=>?_
  refine tw ?_;exact hP _ (Or.inr rfl)
 | q+1,j,h0,hj=>by
  have hl:=hi.obl
  have ih:=aG s n kind hi hn q (j+1) zaa zaa
  refine CU fun P hP=>?_
  refine tw ?_;obtain⟨⟨⟨x0a,x0b,x0c,x0d,x0e⟩,⟨x0f,x0g,x0h⟩,x0i⟩,f0,g0⟩:=DF hi.obm (i:=(n+j)%3) A8;simp only[GL,G6,Gn,FZ,CX,DI,DJ,D8] at f0;rw[g0];refine tw ?_
  rcases AX x0a 0 with hc1|hc1
  ·refine tw ?_
   rcases AL kind 0 with hc2|hc2
   ·subst hc2;refine tw ?_;exact hP _ (Or.inl ⟨512+(n+j)%3,A8,rfl⟩)
   refine tw ?_
   rcases AL x0a kind with hc3|hc3
   ·subst hc3;refine tw ?_;exact hP _ (Or.inl ⟨512+(n+j)%3,A8,rfl⟩)
   refine tw ?_;exact hP _ ih
  subst hc1;refine tw ?_;exact hP _ ih
theorem JA(kind:Int)(hi:Kp a k s)(hn:0<=n/\n<=4294967296):Ah E0 (.call 75 [av s,.i n,.i kind] []) fun r=>∃ h:Int,(512<=h/\h<=514)/\r=some (.ret (.i h) []):=by
 have hl:=hi.obl
 refine CU fun P hP=>tw ?_
 obtain(⟨h0,⟨h0_1,h0_2⟩,yy0⟩|yy0):=aG s n kind hi A8 (Int.toNat (3-(0))) 0 A8 zaa
 ·refine Am yy0 ?_;exact hP _ ⟨h0,A8,rfl⟩
 refine Am yy0 ?_;exact hP _ ⟨512+n%3,A8,rfl⟩
theorem aH(s:MS)(n kind:Int){a k:Int}(hi:Kp a k s)(hn:0<=n/\n<=4294967296):∀(q:Nat) (j:Int),0<=j->j+q=3->Ah E0 (.loop 77 0 0 1 [(1,.i n),(2,.i kind),(3,.pa 0 0),(7,.i j)] [(0,some (.var (cv s)))]) fun r=>(∃ h:Int,(768<=h/\h<=770)/\r=some (.fin .ret 0 [(1,.i n),(6,.i h)] []))\/r=some (.fin (.exit 0) 0 [(1,.i n)] [])
 | 0,j,h0,hj=>by
  have hl:=hi.ssl
  refine CU fun P hP=>?_
  refine tw ?_;exact hP _ (Or.inr rfl)
 | q+1,j,h0,hj=>by
  have hl:=hi.ssl
  have ih:=aH s n kind hi hn q (j+1) zaa zaa
  refine CU fun P hP=>?_
  refine tw ?_;obtain⟨⟨x0a,x0b,x0c,x0d,x0e,x0f,x0g,x0h⟩,f0,g0⟩:=DF hi.ssm (i:=(n+j)%3) A8;simp only[GL,G6,Gn,FZ,CX,DI,DJ,D8] at f0;rw[g0];refine tw ?_
  rcases AX x0a 0 with hc1|hc1
  ·refine tw ?_
   rcases AL kind 0 with hc2|hc2
   ·subst hc2;refine tw ?_;exact hP _ (Or.inl ⟨768+(n+j)%3,A8,rfl⟩)
   refine tw ?_
   rcases AL x0a kind with hc3|hc3
   ·subst hc3;refine tw ?_;exact hP _ (Or.inl ⟨768+(n+j)%3,A8,rfl⟩)
   refine tw ?_;exact hP _ ih
  subst hc1;refine tw ?_;exact hP _ ih
theorem KQ(kind:Int)(hi:Kp a k s)(hn:0<=n/\n<=4294967296):Ah E0 (.call 77 [av s,.i n,.i kind] []) fun r=>∃ h:Int,(768<=h/\h<=770)/\r=some (.ret (.i h) []):=by
 have hl:=hi.ssl
 refine CU fun P hP=>tw ?_
 obtain(⟨h0,⟨h0_1,h0_2⟩,yy0⟩|yy0):=aH s n kind hi A8 (Int.toNat (3-(0))) 0 A8 zaa
 ·refine Am yy0 ?_;exact hP _ ⟨h0,A8,rfl⟩
 refine Am yy0 ?_;exact hP _ ⟨768+n%3,A8,rfl⟩
theorem Ws(hi:Kp a k s)(hn:0<=n/\n<=4294967296):Ah E0 (.call 82 [av s,.i n] []) fun r=>∃ h:Int,(256<=h/\h<=511)/\r=some (.ret (.i h) []):=by
 have hl:=hi.ixl
 have hmod:(0:Int)<s.ix.length->0<=n%Be s.ix/\n%Be s.ix<s.ix.length:=fun h=>by rw[BF];exact⟨Int.emod_nonneg _ zaa,Int.emod_lt_of_pos _ h⟩
 refine CU fun P hP=>tw ?_
 rcases AY 0 (↑s.ix.length) with hc0|hc0
 ·replace hmod:=hmod hc0
  refine tw ?_
  rcases AY (n%9) 8 with hc1|hc1
  ·refine tw ?_;obtain⟨⟨x2a,x2b,x2c,x2d,x2e,x2f,x2g,x2h⟩,f2,g2⟩:=DF hi.ixm (i:=n%Be s.ix) A8;simp only[GL,G6,Gn,FZ,CX,DI,DJ,D8] at f2;rw[g2];refine tw ?_;exact hP _ ⟨256+x2a,A8,rfl⟩
  refine tw ?_;exact hP _ ⟨256+n%5,A8,rfl⟩
 refine tw ?_;exact hP _ ⟨256+n%5,A8,rfl⟩
theorem A3A(hi:Kp a k s)(hn:0<=n/\n<=4294967296):Ah E0 (.call 79 [av s,.i n] []) fun r=>∃ h:Int,(0<=h/\h<=770)/\r=some (.ret (.i h) []):=by
 refine CU fun P hP=>tw ?_
 rcases AL (n%3) 0 with hc0|hc0
 ·refine tw ?_;exact hP _ ⟨n/3%4,A8,rfl⟩
 refine tw ?_
 rcases AL (n%3) 1 with hc1|hc1
 ·refine tw ?_;obtain⟨h2,⟨h2_1,h2_2⟩,yy2⟩:=Ws s (n/3) hi A8;refine Am yy2 ?_;exact hP _ ⟨h2,A8,rfl⟩
 refine tw ?_;obtain⟨h3,⟨h3_1,h3_2⟩,yy3⟩:=JA s (n/3) 0 hi A8;refine Am yy3 ?_;exact hP _ ⟨h3,A8,rfl⟩
abbrev asT:Ty:=.pair .i64 (.pair (.pair .i64 .i64) (.pair (.sl .u8) (.pair .i64 (.pair .i64 (.pair (.sl .u8) (.pair (.sl .u8) (.pair (.sl .u8) (.sl (.sl .u8)))))))))
theorem qV(k s0 s1:Int)(d:List UInt8)(n o:Int)(x y z:List UInt8)(bs:List (List UInt8))(w:List UInt8)(h:Qg d x y z bs)(hw:w.length<=2000):Ah E0 (.loop 200 0 0 0 [(0,.sl asT [(k,(s0,s1),d,n,o,x,y,z,bs)]),(3,.sl .u8 w),(4,.i 0)] []) fun r=>(∃ l:List UInt8,r=some (.fin .ret 0 [(2,.nil),(3,.sl .u8 l)] []))\/∃ l:List UInt8,(l.length<=32)/\r=some (.fin (.exit 0) 0 [(3,.sl .u8 l)] []):=by
 refine CU fun P hP=>?_
 refine tw ?_;obtain⟨l0,h0_1,yy0⟩:=DW w k s0 s1 d n o x y z bs A8 A8;refine Am yy0 ?_
 rcases AL (↑l0.length) 0 with hc1|hc1
 ·refine tw ?_;exact hP _ (Or.inl ⟨l0,rfl⟩)
 refine tw ?_;refine tw ?_;exact hP _ (Or.inr ⟨l0,A8,rfl⟩)
theorem Ym(k s0 s1:Int)(d:List UInt8)(n o:Int)(x y z:List UInt8)(bs:List (List UInt8))(h:Qg d x y z bs):Ah E0 (.call 200 [.sl asT [(k,(s0,s1),d,n,o,x,y,z,bs)]] []) fun r=>∃ l:List UInt8,(l.length<=32)/\r=some (.ret (.sl .u8 l) []):=by
 refine CU fun P hP=>tw ?_
 obtain⟨l0,h0_1,yy0⟩:=SI;refine Am yy0 ?_
 obtain(⟨l1,yy1⟩|⟨l1_1,h1_2,yy1⟩):=qV k s0 s1 d n o x y z bs l0 A8 A8
 ·refine Am yy1 ?_;exact hP _ ⟨[],A8,rfl⟩
 refine Am yy1 ?_;exact hP _ ⟨l1_1,A8,rfl⟩
theorem Wu(hi:Kp a k s)(hn:0<=n/\n<=4294967296):Ah E0 (.call 144 [av s,.i n,.sl .u8 b] []) fun r=>∃ l:List UInt8,(l.length<=32)/\r=some (.ret (.sl .u8 l) []):=by
 refine CU fun P hP=>tw ?_
 rcases AL (n%4) 0 with hc0|hc0
 ·refine tw ?_;exact hP _ ⟨[],A8,rfl⟩
 refine tw ?_
 rcases AL (n%4) 1 with hc1|hc1
 ·refine tw ?_;obtain⟨l2,h2_1,yy2⟩:=Ym 7 0 0 [] 0 0 [] [] [] [] (by(exact as0 zao zao));refine Am yy2 ?_;exact hP _ ⟨l2,A8,rfl⟩
 refine tw ?_
 rcases AL (n%4) 2 with hc3|hc3
 ·refine tw ?_;obtain⟨h4,⟨h4_1,h4_2⟩,yy4⟩:=KQ s n 2 hi A8;refine Am yy4 ?_;obtain⟨e5,c5_1,n5_2,d5_3,u5_4,l5_5,m5_6,t5_7,b5_8,⟨h5_9,h5_10,h5_11⟩,yy5⟩:=IV s h4 hi A8;refine Am yy5 ?_
  rcases AL e5 0 with hc6|hc6
  ·subst hc6
   replace h5_9:=h5_9 rfl
   refine tw ?_;exact hP _ ⟨d5_3,A8,rfl⟩
  refine tw ?_;obtain⟨l7,h7_1,yy7⟩:=Ym 2 0 0 [] 31 0 [] [] [] [] (by(exact as0 zao zao));refine Am yy7 ?_;exact hP _ ⟨l7,A8,rfl⟩
 refine tw ?_;obtain⟨l8,h8_1,yy8⟩:=Ym 2 0 0 [] 31 0 [] [] [] [] (by(exact as0 zao zao));refine Am yy8 ?_;exact hP _ ⟨l8,A8,rfl⟩
theorem Qb(hi:Kp a k s)(hn:0<=n/\n<=4294967296)(hb:b.length<=1000):Ah E0 (.call 74 [av s,.i n,.sl .u8 b] []) fun r=>∃(i1 i2 i3:Int) (o u d:List UInt8),(1<=i1/\i1<=3/\o.length<=32/\u.length<=1000/\d.length<=1000)/\r=some (.ret (.tup [.sl .i64 [i1,i2,i3],.sl (.sl .u8) [o,u,d]]) []):=by
 refine CU fun P hP=>?_
 rw[Ae]
 conv=>arg 1;whnf
 rw[AA zaa]
 conv=>arg 1;whnf
 rw[AA zaa]
 conv=>arg 1;whnf
 rw[AA zaa]
 conv=>arg 1;whnf
 rw[Ez zaa];rw[Aw zaa]
 rcases AL (1+n%3) 2 with hc0|hc0
 ·refine tw ?_;obtain⟨l1,h1_1,yy1⟩:=Wu s (n/5) b hi A8;refine Am yy1 ?_
  rcases AL (↑l1.length) 0 with hc2|hc2
  ·refine tw ?_
   rcases AY (n%11) 10 with hc3|hc3
   ·refine tw ?_;rw[FO _ _ A8];refine tw ?_;exact hP _ ⟨1+n%3,BH BinOp.or (BH BinOp.or (n/3%4) (n/12%2*4)) 1,n/24%2,l1,List.take (n%3).toNat b,[],A8,rfl⟩
   refine tw ?_;rw[FO _ _ A8];refine tw ?_;exact hP _ ⟨1+n%3,BH BinOp.or (n/3%4) (n/12%2*4),n/24%2,l1,List.take (n%3).toNat b,[],A8,rfl⟩
  refine tw ?_;rw[FO _ _ A8];refine tw ?_;exact hP _ ⟨1+n%3,BH BinOp.or (n/3%4) (n/12%2*4),n/24%2,l1,List.take (n%3).toNat b,[],A8,rfl⟩
 refine tv ?_
 rcases AL (1+n%3) 3 with hc4|hc4
 ·refine tv ?_;rw[FO _ _ A8];refine tw ?_;obtain⟨l5,h5_1,yy5⟩:=Wu s (n/5) b hi A8;refine Am yy5 ?_
  rcases AL (↑l5.length) 0 with hc6|hc6
  ·refine tw ?_
   rcases AY (n%11) 10 with hc7|hc7
   ·refine tw ?_;rw[FO _ _ A8];refine tw ?_;exact hP _ ⟨1+n%3,BH BinOp.or (n/3%4) 1,0,l5,List.take (n%3).toNat b,List.take (Int.toNat 20) b,A8,rfl⟩
   refine tw ?_;rw[FO _ _ A8];refine tw ?_;exact hP _ ⟨1+n%3,n/3%4,0,l5,List.take (n%3).toNat b,List.take (Int.toNat 20) b,A8,rfl⟩
  refine tw ?_;rw[FO _ _ A8];refine tw ?_;exact hP _ ⟨1+n%3,n/3%4,0,l5,List.take (n%3).toNat b,List.take (Int.toNat 20) b,A8,rfl⟩
 refine tw ?_;obtain⟨l8,h8_1,yy8⟩:=Wu s (n/5) b hi A8;refine Am yy8 ?_
 rcases AL (↑l8.length) 0 with hc9|hc9
 ·refine tw ?_
  rcases AY (n%11) 10 with hc10|hc10
  ·refine tw ?_;rw[FO _ _ A8];refine tw ?_;exact hP _ ⟨1+n%3,BH BinOp.or (n/3%4) 1,0,l8,List.take (n%3).toNat b,[],A8,rfl⟩
  refine tw ?_;rw[FO _ _ A8];refine tw ?_;exact hP _ ⟨1+n%3,n/3%4,0,l8,List.take (n%3).toNat b,[],A8,rfl⟩
 refine tw ?_;rw[FO _ _ A8];refine tw ?_;exact hP _ ⟨1+n%3,n/3%4,0,l8,List.take (n%3).toNat b,[],A8,rfl⟩
theorem uY(hi:Kp a k s)(hn:0<=n/\n<=4294967296)(hb:b.length<=1000):Ah E0 (.call 81 [av s,.i n,.sl .u8 b] []) fun r=>∃(i1 i2 i3 i4:Int) (o u:List UInt8),(o.length<=1000/\u.length<=32)/\r=some (.ret (.tup [.sl .i64 [i1,i2,i3,i4],.sl (.sl .u8) [o,u]]) []):=by
 refine CU fun P hP=>?_
 rw[Ae]
 conv=>arg 1;whnf
 rw[AA zaa]
 conv=>arg 1;whnf
 rw[AA zaa]
 conv=>arg 1;whnf
 rw[AA zaa]
 conv=>arg 1;whnf
 try dsimp -iota -beta -eta -zeta only
 rw[Ei zaa];rw[AU];obtain⟨l0,h0_1,yy0⟩:=Wu s (n/7) b hi A8;refine tvn yy0 ?_
 rcases AL (↑l0.length) 0 with hc1|hc1
 ·rw[ER zaD]
  conv=>arg 1;whnf
  rw[Ei zaa];rw[Ez zaa];rw[Aw zaa];rw[Ei zaa];rw[Ez zaa];rw[Ae]
  conv=>arg 1;whnf
  rw[AA zaa]
  conv=>arg 1;whnf
  rw[Ce zaa];rw[Gy zaD]
  conv=>arg 1;whnf
  try dsimp -iota -beta -eta -zeta only
  (obtain⟨z,mz,gz⟩:=EL (l:=([12,8,8,32]:List Int)) (i:=1+n/5%4-1) zaC;rw[gz])
  conv=>arg 1;whnf
  rw[AA zaa]
  conv=>arg 1;whnf
  try dsimp -iota -beta -eta -zeta only
  rw[Ez zaa];rw[AU];rw[FO _ _ A8];refine tw ?_;exact hP _ ⟨n%5,1+n/5%4,BH BinOp.andNot (BH BinOp.or (BH BinOp.or (n/3%128) 1) 2) 12,z,List.take (n%3).toNat b,l0,A8,rfl⟩
 rw[AA zaD]
 conv=>arg 1;whnf
 rw[Ei zaa];rw[Ez zaa];rw[Aw zaa];rw[Ei zaa];rw[Ez zaa];rw[Ae]
 conv=>arg 1;whnf
 rw[AA zaa]
 conv=>arg 1;whnf
 rw[Ce zaa];rw[Gy zaD]
 conv=>arg 1;whnf
 try dsimp -iota -beta -eta -zeta only
 (obtain⟨z,mz,gz⟩:=EL (l:=([12,8,8,32]:List Int)) (i:=1+n/5%4-1) zaC;rw[gz])
 conv=>arg 1;whnf
 rw[AA zaa]
 conv=>arg 1;whnf
 try dsimp -iota -beta -eta -zeta only
 rw[Ez zaa];rw[AU];rw[FO _ _ A8];refine tw ?_;exact hP _ ⟨n%5,1+n/5%4,BH BinOp.or (BH BinOp.or (n/3%128) 1) 2,z,List.take (n%3).toNat b,l0,A8,rfl⟩
end
section
attribute [local irreducible] Cj Dt D9 DT DK BH Du Ey Fh FD Et D7 CV Df DX and' Dk DU CG Ba Bl CJ CS BK BM BB BG Dv G7 Dw EM Dl Bh CO Bz C9 Bo BD Bi BO Be BZ Dx Bf DL Bd BI D6 Dy fits Dz Dn AZ Ap BL
attribute [local irreducible] E5 CP Bq nameB ES Em Ar FK En FH Eu Fe CE IU Ej Gf GV Ee Gp FC JL JZ Ed
theorem lK(s:MS)(n:Int)(b:List UInt8){a k:Int}(hi:Kp a k s):∀(q:Nat) (j h:Int),0<=j->j+q=3->768<=h/\h<=770->Ah E0 (.loop 78 0 0 1 [(1,.i n),(3,.sl .u8 b),(4,.pa 0 0),(10,.i h),(11,.i j)] [(0,some (.var (cv s)))]) fun r=>∃ h:Int,(768<=h/\h<=770)/\r=some (.fin (.exit 0) 1 [(1,.i n),(3,.sl .u8 b),(4,.pa 0 0),(10,.i h)] [(0,some (.var (cv s)))])
 | 0,j,h,h0,hj,hh=>by
  have hl:=hi.ssl
  refine CU fun P hP=>?_
  refine tw ?_;exact hP _ ⟨h,A8,rfl⟩
 | q+1,j,h,h0,hj,hh=>by
  have hl:=hi.ssl
  have ih:=fun h=>lK s n b hi q (j+1) h zaa zaa
  refine CU fun P hP=>?_
  refine tw ?_;rw[A4r _ _ A8];refine tw ?_;obtain⟨⟨x0a,x0b,x0c,x0d,x0e,x0f,x0g,x0h⟩,f0,g0⟩:=DF hi.ssm (i:=(h-768)%3) A8;simp only[GL,G6,Gn,FZ,CX,DI,DJ,D8] at f0;rw[g0];refine tw ?_
  rcases AL x0a 1 with hc1|hc1
  ·subst hc1;rw[ER zaa]
   conv=>arg 1;whnf
   rw[AA zaa]
   conv=>arg 1;whnf
   try dsimp -iota -beta -eta -zeta only
   rw[Ce zaa];rw[Aw (a:=h-768) (b:=1) zaa];rw[Ez zaa];rw[Aw zaa];rw[Aw zaa];exact hP _ (ih _ zaa)
  refine tw ?_;exact hP _ ⟨h,A8,rfl⟩
theorem Wv(hi:Kp a k s)(hn:0<=n/\n<=4294967296)(hm:0<=m/\m<=4294967296)(hb:b.length<=1000):Ah E0 (.call 78 [av s,.i n,.i m,.sl .u8 b] []) fun r=>∃(is:List Int) (bs:List (List UInt8)),(is.length=6/\bs.length<=2/\∀ x∈bs,x.length<=2000)/\r=some (.ret (.tup [.sl .i64 is,.sl (.sl .u8) bs]) []):=by
 refine CU fun P hP=>tw ?_
 obtain⟨h0,⟨h0_1,h0_2⟩,yy0⟩:=KQ s m 0 hi A8;refine Am yy0 ?_;obtain⟨h1,⟨h1_1,h1_2⟩,yy1⟩:=lK s n b hi (Int.toNat (3-(0))) 0 h0 A8 zaa A8;refine Am yy1 ?_
 rcases AL (n%8) 0 with hc2|hc2
 ·refine tw ?_
  rcases AL (n/8%4) 3 with hc3|hc3
  ·refine tw ?_;rw[Ig _];refine tw ?_
   refine hP _ ⟨[h1,1,D9 (BH BinOp.and s.ac 1) (n/8%256),D9 (DT s.ac 2) (DK (DT n 3) 65536),0,0],[CP b],?_,rfl⟩;(refine⟨rfl,by simp,?_⟩;simp only[List.forall_mem_cons,List.not_mem_nil,false_implies,implies_true,and_true];(repeat' apply And.intro)<;>first|omega|(rw[AQ];decide)|(rw[List.length_take];omega)|(simp;omega))
  refine tw ?_;exact hP _ ⟨[h1,1,D9 (BH BinOp.and s.ac 1) (n/8%256),D9 (DT s.ac 2) (DK (DT n 3) 65536),0,0],[[]],clo,rfl⟩
 refine tw ?_
 rcases AL (n%8) 1 with hc4|hc4
 ·refine tw ?_
  rcases AL (n/8%4) 3 with hc5|hc5
  ·refine tw ?_;rw[Ig _];refine tw ?_
   refine hP _ ⟨[h1,1,D9 (BH BinOp.and s.ac 1) (n/8%256),D9 (DT s.ac 2) (DK (DT n 3) 65536),0,0],[CP b],?_,rfl⟩;(refine⟨rfl,by simp,?_⟩;simp only[List.forall_mem_cons,List.not_mem_nil,false_implies,implies_true,and_true];(repeat' apply And.intro)<;>first|omega|(rw[AQ];decide)|(rw[List.length_take];omega)|(simp;omega))
  refine tw ?_;exact hP _ ⟨[h1,1,D9 (BH BinOp.and s.ac 1) (n/8%256),D9 (DT s.ac 2) (DK (DT n 3) 65536),0,0],[[]],clo,rfl⟩
 refine tw ?_
 rcases AL (n%8) 2 with hc6|hc6
 ·refine tw ?_;exact hP _ ⟨[h1,2,0,0,1+n/8%31,0],[],clo,rfl⟩
 refine tw ?_
 rcases AL (n%8) 3 with hc7|hc7
 ·refine tw ?_
  (obtain⟨z,mz,gz⟩:=EL (l:=([13,14,15,23,24]:List Int)) (i:=n/8%5) zaC;rw[gz]);refine tw ?_;exact hP _ ⟨[h1,3,0,0,z,0],[],clo,rfl⟩
 refine tw ?_
 rcases AL (n%8) 4 with hc8|hc8
 ·refine tw ?_;obtain⟨h9,⟨h9_1,h9_2⟩,yy9⟩:=Ws s (n/8) hi A8;refine tvn yy9 ?_;rw[FO _ _ A8];refine tw ?_;exact hP _ ⟨[h1,4,0,0,h9,n/32%4],[List.take (Int.toNat 3) b],A8,rfl⟩
 refine tw ?_
 rcases AL (n%8) 5 with hc10|hc10
 ·refine tw ?_;exact hP _ ⟨[h1,5,0,0,n%300,n/8%4],[],clo,rfl⟩
 refine tw ?_
 rcases AL (n%8) 6 with hc11|hc11
 ·refine tw ?_;exact hP _ ⟨[h1,7,0,0,0,0],[],clo,rfl⟩
 refine tw ?_;obtain⟨e12,c12_1,n12_2,d12_3,u12_4,l12_5,m12_6,t12_7,b12_8,⟨h12_9,h12_10,h12_11⟩,yy12⟩:=IV s h1 hi A8;refine Am yy12 ?_;rw[Ig _];refine tw ?_
 rcases AL (n/8%4) 0 with hc13|hc13
 ·refine tw ?_;rw[Ig _];refine tw ?_;rw[Ig _];refine tw ?_
  refine hP _ ⟨[h1,8,0,0,0,0],[CP b,CP []],?_,rfl⟩;(refine⟨rfl,by simp,?_⟩;simp only[List.forall_mem_cons,List.not_mem_nil,false_implies,implies_true,and_true];(repeat' apply And.intro)<;>first|omega|(rw[AQ];decide)|(rw[List.length_take];omega)|(simp;omega))
 refine tw ?_
 rcases AL (↑d12_3.length) 0 with hc14|hc14
 ·refine tw ?_;rw[Ig _];refine tw ?_;rw[Ig _];refine tw ?_
  refine hP _ ⟨[h1,8,0,0,0,0],[CP b,CP []],?_,rfl⟩;(refine⟨rfl,by simp,?_⟩;simp only[List.forall_mem_cons,List.not_mem_nil,false_implies,implies_true,and_true];(repeat' apply And.intro)<;>first|omega|(rw[AQ];decide)|(rw[List.length_take];omega)|(simp;omega))
 refine tw ?_
 refine hP _ ⟨[h1,8,0,0,0,0],[CP b,d12_3],?_,rfl⟩;(refine⟨rfl,by simp,?_⟩;simp only[List.forall_mem_cons,List.not_mem_nil,false_implies,implies_true,and_true];(repeat' apply And.intro)<;>first|omega|(rw[AQ];decide)|(rw[List.length_take];omega)|(simp;omega))
theorem Yn(h n:Int)(b:List UInt8)(hi:Kp a k s)(hn:0<=n/\n<=4294967296)(hb:b.length<=1000):Ah E0 (.call 76 [av s,.i h,.i n,.sl .u8 b] []) fun r=>∃ o u:List UInt8,(o.length<=2000/\u.length<=2000)/\r=some (.ret (.sl (.sl .u8) [o,u]) []):=by
 have hol:=hi.obl
 refine CU fun P hP=>tw ?_
 rw[Hq (hl:=A8) ..];refine tw ?_
 rcases AY (MP h s.ob) 0 with hc0|hc0
 ·refine tw ?_;exact hP _ ⟨b,b,A8,rfl⟩
 refine tw ?_;obtain⟨i11,i21_1,i31_2,o1_3,u1_4,d1_5,⟨h1_6,h1_7,h1_8,h1_9,h1_10⟩,yy1⟩:=Qb s n b hi A8 A8;refine Am yy1 ?_;rw[FO _ _ A8];refine tw ?_
 (rw[SE _ _ _ _ _ _ _ _ za6];have hml:=PU (secret:=List.take (Int.toNat 8) b) (auth:=u1_4) (data:=d1_5) (p:=⟨i11,i21_1,i31_2,o1_3,[]⟩);generalize Bq (List.take (Int.toNat 8) b) ⟨i11,i21_1,i31_2,o1_3,[]⟩ u1_4 d1_5=M at *;obtain⟨⟨qk,qa,qt,qo,qu⟩,⟨qx,qy,qz⟩,er⟩:=M;dsimp only[Yu,dG] at *)
 refine tw ?_
 rcases AX er 0 with hc2|hc2
 ·refine tw ?_;exact hP _ ⟨b,b,A8,rfl⟩
 subst hc2;refine tw ?_
 have q3:=SL (h) (s.ob)
 obtain⟨⟨⟨x3a,x3b,x3c,x3d,x3e⟩,⟨x3f,x3g,x3h⟩,x3i⟩,f3,g3⟩:=DF hi.obm (i:=MP h s.ob) A8;simp only[GL,G6,Gn,FZ,CX,DI,DJ,D8] at f3;rw[g3];refine tw ?_
 (rw[YT _ _ _ _ _ _ _ _ _ _ _ zaa zaa zaa];have hpl:=A1c ⟨x3f,x3g,x3h⟩ ⟨qx,qy,qz⟩ ⟨qk,qa,qt,qo,qu⟩;have hpg:=A1k (par:=⟨x3f,x3g,x3h⟩) (p:=⟨qk,qa,qt,qo,qu⟩) (s:=⟨qx,qy,qz⟩) zay zay zay;generalize FH ⟨x3f,x3g,x3h⟩ ⟨qk,qa,qt,qo,qu⟩ ⟨qx,qy,qz⟩=V at *)
 refine tw ?_
 rcases AL (n%13) 12 with hc4|hc4
 ·refine tw ?_;obtain⟨x5,m5,g5⟩:=EL (l:=V) (i:=Be V-1) zah;rw[g5];refine tw ?_;rw[g5];refine tw ?_;rw[I8 _ _ _ _ _ A8 A8];refine tw ?_
  refine hP _ ⟨ES {kind:=qk,attr:=qa,height:=qt,policy:=qo,unique:=qu},Bf V (Be V-1) (DU BinOp.xor x5 (UInt8.ofNat 1)),?_,rfl⟩;(refine⟨?_,?_⟩<;>first|omega|(rw[Jh zay zay];simp only;omega)|(rw[G5,List.length_set];omega))
 refine tw ?_;rw[I8 _ _ _ _ _ A8 A8];refine tw ?_
 refine hP _ ⟨ES {kind:=qk,attr:=qa,height:=qt,policy:=qo,unique:=qu},V,?_,rfl⟩;(refine⟨?_,?_⟩<;>first|omega|(rw[Jh zay zay];simp only;omega)|(rw[G5,List.length_set];omega))
theorem A1l(hi:Kp a k s)(hn:0<=n/\n<=4294967296)(hb:b.length<=1000):Ah E0 (.call 80 [av s,.i n,.sl .u8 b] []) fun r=>∃(h:Int) (o u v:List UInt8),(o.length<=2000/\u.length<=2000/\v.length<=2000)/\r=some (.ret (.tup [.sl .i64 [h],.sl (.sl .u8) [o,u,v]]) []):=by
 have hpk:=uG (CP (List.take (Int.toNat 2) b)) 0
 have hsg:∀ m,(Ej (CP (List.take (Int.toNat 2) b)) 0 0 m).length=561:=fun m=>by rw[YG zal zal];rfl
 refine CU fun P hP=>tw ?_
 obtain⟨h0,⟨h0_1,h0_2⟩,yy0⟩:=KQ s n 2 hi A8;refine Am yy0 ?_;obtain⟨e1,c1_1,n1_2,d1_3,u1_4,l1_5,m1_6,t1_7,b1_8,⟨h1_9,h1_10,h1_11⟩,yy1⟩:=IV s h0 hi A8;refine Am yy1 ?_;rw[FO _ _ A8];refine tw ?_;rw[Ig _];refine tw ?_;rw[jU _ _ A8];refine tw ?_;rw[FO _ _ A8];refine tw ?_;obtain⟨l2,h2_1,yy2⟩:=Yc d1_3 (List.take (n%4).toNat b) A8 A8;refine Am yy2 ?_;rw[VL _ _ _ _ A8 A8];refine tw ?_
 rcases AL (n%5) 4 with hc3|hc3
 ·refine tw ?_;rw[VL _ _ _ _ A8 A8];refine tw ?_;rw[I8 _ _ _ _ _ zao zaa];refine tw ?_
  refine hP _ ⟨h0,ES {kind:=2,attr:=1,height:=0,policy:=[],unique:=Ed (CP (List.take (Int.toNat 2) b)) 0},List.take (n%4).toNat b,Ej (CP (List.take (Int.toNat 2) b)) 0 0 b,?_,rfl⟩;(refine⟨?_,?_,?_⟩<;>first|omega|(rw[Jh zao zay];simp only[List.length_nil];omega)|(rw[hsg];decide)|(rw[List.length_take];omega))
 refine tw ?_;rw[I8 _ _ _ _ _ zao zaa];refine tw ?_
 refine hP _ ⟨h0,ES {kind:=2,attr:=1,height:=0,policy:=[],unique:=Ed (CP (List.take (Int.toNat 2) b)) 0},List.take (n%4).toNat b,Ej (CP (List.take (Int.toNat 2) b)) 0 0 l2,?_,rfl⟩;(refine⟨?_,?_,?_⟩<;>first|omega|(rw[Jh zao zay];simp only[List.length_nil];omega)|(rw[hsg];decide)|(rw[List.length_take];omega))
theorem Kz(hi:Kp a k s)(hn:0<=n/\n<=4294967296)(hk:0<=k'/\k'<=7)(hb:b.length<=1000):Ah E0 (.call 83 [av s,.i k',.i n,.sl .u8 b] []) fun r=>∃(c h1 h2:Int) (is:List Int) (bs:List (List UInt8)),(is.length<=2/\bs.length<=1/\∀ x∈bs,x.length<=1000)/\r=some (.ret (rq c [h1,h2] [] is bs) []):=by
 have hxl:=hi.ixl
 have hxm:=hi.ixm
 refine CU fun P hP=>tw ?_
 obtain⟨h0,⟨h0_1,h0_2⟩,yy0⟩:=Ws s n hi A8;refine Am yy0 ?_
 rcases AL (n/9%4) 0 with hc1|hc1
 ·refine tv ?_;rw[FO _ _ A8];refine tv ?_;rw[Ea (hl:=A8) (hx:=A8) ..];refine tv ?_
  rcases DD 0 (L9 h0 s.ix) with hc2|hc2
  ·refine tv ?_
   have q3:=Iq (h0) (s.ix)
   obtain⟨⟨x3a,x3b,x3c,x3d,x3e,x3f,x3g,x3h⟩,f3,g3⟩:=DF hxm (i:=L9 h0 s.ix) A8;simp only[GL,G6,Gn,FZ,CX,DI,DJ,D8] at f3;rw[g3];refine tw ?_
   rcases AY k' 2 with hc4|hc4
   ·refine tw ?_;exact hP _ ⟨24,1,h0,[n%3,n/3%10],[],clo,rfl⟩
   refine tw ?_
   rcases AL k' 2 with hc5|hc5
   ·subst hc5;refine tw ?_;exact hP _ ⟨28+n%2,1,h0,[],[],A8,rfl⟩
   refine tw ?_
   rcases AL x3b 2 with hc6|hc6
   ·subst hc6;refine tw ?_;exact hP _ ⟨25,1,h0,[],[],A8,rfl⟩
   refine tw ?_
   rcases AL k' 7 with hc7|hc7
   ·subst hc7;refine tw ?_;exact hP _ ⟨25,1,h0,[],[],A8,rfl⟩
   refine tw ?_
   rcases AL x3b 3 with hc8|hc8
   ·subst hc8;refine tw ?_;rw[Ig _];refine tw ?_;exact hP _ ⟨26,1,h0,[],[List.take (Int.toNat 8) (CP b)],A8,rfl⟩
   refine tw ?_
   rcases AL x3b 4 with hc9|hc9
   ·subst hc9;refine tw ?_;exact hP _ ⟨27,1,h0,[],[b],A8,rfl⟩
   refine tw ?_;exact hP _ ⟨23,1,h0,[n%6],[List.take (Int.toNat 6) b],A8,rfl⟩
  refine tw ?_
  rcases AY k' 2 with hc10|hc10
  ·refine tw ?_;exact hP _ ⟨24,1,h0,[n%3,n/3%10],[],clo,rfl⟩
  refine tw ?_
  rcases AL k' 2 with hc11|hc11
  ·subst hc11;refine tw ?_;exact hP _ ⟨28+n%2,1,h0,[],[],A8,rfl⟩
  refine tw ?_
  rcases AL k' 7 with hc12|hc12
  ·subst hc12;refine tw ?_;exact hP _ ⟨25,1,h0,[],[],A8,rfl⟩
  refine tw ?_;exact hP _ ⟨23,1,h0,[n%6],[List.take (Int.toNat 6) b],A8,rfl⟩
 refine tv ?_;rw[FO _ _ A8];refine tv ?_;rw[Ea (hl:=A8) (hx:=A8) ..];refine tv ?_
 rcases DD 0 (L9 h0 s.ix) with hc13|hc13
 ·refine tv ?_
  have q14:=Iq (h0) (s.ix)
  obtain⟨⟨x14a,x14b,x14c,x14d,x14e,x14f,x14g,x14h⟩,f14,g14⟩:=DF hxm (i:=L9 h0 s.ix) A8;simp only[GL,G6,Gn,FZ,CX,DI,DJ,D8] at f14;rw[g14];refine tw ?_
  rcases AY k' 2 with hc15|hc15
  ·refine tw ?_;exact hP _ ⟨24,h0,h0,[n%3,n/3%10],[],clo,rfl⟩
  refine tw ?_
  rcases AL k' 2 with hc16|hc16
  ·subst hc16;refine tw ?_;exact hP _ ⟨28+n%2,h0,h0,[],[],A8,rfl⟩
  refine tw ?_
  rcases AL x14b 2 with hc17|hc17
  ·subst hc17;refine tw ?_;exact hP _ ⟨25,h0,h0,[],[],A8,rfl⟩
  refine tw ?_
  rcases AL k' 7 with hc18|hc18
  ·subst hc18;refine tw ?_;exact hP _ ⟨25,h0,h0,[],[],A8,rfl⟩
  refine tw ?_
  rcases AL x14b 3 with hc19|hc19
  ·subst hc19;refine tw ?_;rw[Ig _];refine tw ?_;exact hP _ ⟨26,h0,h0,[],[List.take (Int.toNat 8) (CP b)],A8,rfl⟩
  refine tw ?_
  rcases AL x14b 4 with hc20|hc20
  ·subst hc20;refine tw ?_;exact hP _ ⟨27,h0,h0,[],[b],A8,rfl⟩
  refine tw ?_;exact hP _ ⟨23,h0,h0,[n%6],[List.take (Int.toNat 6) b],A8,rfl⟩
 refine tw ?_
 rcases AY k' 2 with hc21|hc21
 ·refine tw ?_;exact hP _ ⟨24,h0,h0,[n%3,n/3%10],[],clo,rfl⟩
 refine tw ?_
 rcases AL k' 2 with hc22|hc22
 ·subst hc22;refine tw ?_;exact hP _ ⟨28+n%2,h0,h0,[],[],A8,rfl⟩
 refine tw ?_
 rcases AL k' 7 with hc23|hc23
 ·subst hc23;refine tw ?_;exact hP _ ⟨25,h0,h0,[],[],A8,rfl⟩
 refine tw ?_;exact hP _ ⟨23,h0,h0,[n%6],[List.take (Int.toNat 6) b],A8,rfl⟩
theorem WC(hi:Kp a k s)(hf:Few hs az is bs):Ah E0 (.call 152 [av s,rq c hs az is bs] []) fun r=>∃ ns:List (List UInt8),(ns.length<=10/\∀ x∈ns,x.length<=32)/\r=some (.ret (.sl (.sl .u8) ns) []):=by
 refine CU fun P hP=>tw ?_
 obtain⟨ns0,⟨h0_1,h0_2⟩,yy0⟩:=WA s c hs az is bs hi A8;refine Am yy0 ?_;exact hP _ ⟨ns0,clo,rfl⟩
theorem Dc(h:Int)(hs:List Int)(is:List Int)(bs:List (List UInt8))(m:Int)(b:List UInt8)(hi:Kp a k s)(hf:Few (h::hs) [] is bs)(hm:0<=m/\m<=4294967296)(hb:b.length<=1000):Ah E0 (.call 84 [av s,rq c (h::hs) [] is bs,.i m,.sl .u8 b] []) fun r=>∃(y1:Int) (y2 y3:List UInt8),(y2.length<=1000/\y3.length<=1000)/\r=some (.ret (rq c (h::hs) [(y1,y2,y3)] is bs) []):=by
 refine CU fun P hP=>tw ?_
 obtain⟨l0,h0_1,yy0⟩:=Po s h hi;refine Am yy0 ?_
 rcases AL (m%8) 0 with hc1|hc1
 ·refine tw ?_;exact hP _ ⟨0,[],BI (BI [] l0) [UInt8.ofNat 1],A8,rfl⟩
 refine tw ?_
 rcases AL (m%8) 1 with hc2|hc2
 ·refine tw ?_;obtain⟨h3,⟨h3_1,h3_2⟩,yy3⟩:=KQ s (m/8) 1 hi A8;refine Am yy3 ?_;obtain⟨e4,c4_1,n4_2,d4_3,u4_4,l4_5,m4_6,t4_7,b4_8,⟨h4_9,h4_10,h4_11⟩,yy4⟩:=IV s h3 hi A8;refine Am yy4 ?_
  rcases AL e4 0 with hc5|hc5
  ·subst hc5
   replace h4_9:=h4_9 rfl
   refine tw ?_
   rcases AL c4_1 1 with hc6|hc6
   ·subst hc6;refine tw ?_;rw[FO _ _ A8];refine tw ?_;obtain⟨ns7,⟨h7_1,h7_2⟩,yy7⟩:=WC s c (h::hs) [] is bs hi A8;refine Am yy7 ?_;obtain⟨l8,h8_1,yy8⟩:=VP c (h::hs) [] is bs ns7 A8 A8 A8;refine Am yy8 ?_;obtain⟨l9,h9_1,yy9⟩:=VQ l0 l8 n4_2 (List.take (Int.toNat 16) b) A8 A8 A8 A8;rw[yy9]
    conv=>arg 1;whnf
    try dsimp -iota -beta -eta -zeta only
    rw[drw zas];conv=>arg 1;whnf
    rw[AA zaa]
    conv=>arg 1;whnf
    rw[Ez zaa];rw[AA zaa]
    conv=>arg 1;whnf
    rw[Ae]
    conv=>arg 1;whnf
    rw[Ae]
    conv=>arg 1;whnf
    try dsimp -iota -beta -eta -zeta only
    exact hP _ ⟨h3,List.take (Int.toNat 16) b,l9,A8,rfl⟩
   refine tw ?_;exact hP _ ⟨h3,[],l0,A8,rfl⟩
  refine tw ?_;exact hP _ ⟨h3,[],l0,A8,rfl⟩
 refine tw ?_
 rcases AL (m%8) 2 with hc10|hc10
 ·refine tw ?_;obtain⟨h11,⟨h11_1,h11_2⟩,yy11⟩:=KQ s (m/8) 1 hi A8;refine Am yy11 ?_;obtain⟨e12,c12_1,n12_2,d12_3,u12_4,l12_5,m12_6,t12_7,b12_8,⟨h12_9,h12_10,h12_11⟩,yy12⟩:=IV s h11 hi A8;refine Am yy12 ?_
  rcases AL e12 0 with hc13|hc13
  ·subst hc13
   replace h12_9:=h12_9 rfl
   refine tw ?_
   rcases AL c12_1 1 with hc14|hc14
   ·subst hc14;refine tw ?_;rw[FO _ _ A8];refine tw ?_;obtain⟨ns15,⟨h15_1,h15_2⟩,yy15⟩:=WC s c (h::hs) [] is bs hi A8;refine Am yy15 ?_;obtain⟨l16,h16_1,yy16⟩:=VP c (h::hs) [] is bs ns15 A8 A8 A8;refine Am yy16 ?_;obtain⟨l17,h17_1,yy17⟩:=VQ l0 l16 n12_2 (List.take (Int.toNat 16) b) A8 A8 A8 A8;refine Am yy17 ?_
    rcases AL (m%16) 2 with hc18|hc18
    ·refine tw ?_;exact hP _ ⟨h11,BI (BI [] (List.take (Int.toNat 16) b)) [UInt8.ofNat 1],l17,A8,rfl⟩
    rw[AA zaa]
    conv=>arg 1;whnf
    rw[Ae]
    conv=>arg 1;whnf
    rw[Ae]
    conv=>arg 1;whnf
    try dsimp -iota -beta -eta -zeta only
    exact hP _ ⟨h11,List.take (Int.toNat 16) b,l17,A8,rfl⟩
   refine tw ?_;exact hP _ ⟨h11,[],l0,A8,rfl⟩
  refine tw ?_;exact hP _ ⟨h11,[],l0,A8,rfl⟩
 refine tw ?_
 rcases AL (m%8) 3 with hc19|hc19
 ·refine tw ?_;obtain⟨h20,⟨h20_1,h20_2⟩,yy20⟩:=KQ s (m/8) 2 hi A8;refine Am yy20 ?_;exact hP _ ⟨h20,[],l0,A8,rfl⟩
 refine tw ?_
 rcases AL (m%8) 4 with hc21|hc21
 ·refine tw ?_;obtain⟨h22,⟨h22_1,h22_2⟩,yy22⟩:=KQ s (m/8) 2 hi A8;refine Am yy22 ?_;exact hP _ ⟨h22,[],l0,A8,rfl⟩
 refine tw ?_;exact hP _ ⟨0,[],l0,A8,rfl⟩
end
section
attribute [local irreducible] Cj Dt D9 DT DK BH Du Ey Fh FD Et D7 CV Df DX and' Dk DU CG Ba Bl CJ CS BK BM BB BG Dv G7 Dw EM Dl Bh CO Bz C9 Bo BD Bi BO Be BZ Dx Bf DL Bd BI D6 Dy fits Dz Dn AZ Ap BL
attribute [local irreducible] E5 CP Bq nameB ES Em Ar FK En FH Eu Fe CE IU Ej Gf GV Ee Gp FC JL JZ Ed
theorem BX{hs:List Int}{az:List (El Aq)}{is:List Int}{bs:List (List UInt8)}(h1:hs.length<=10:=by first|omega|(simp;done))(h2:az.length<=10:=by first|omega|(simp;done))(h3:∀ x∈az,x.2.1.length<=1000/\x.2.2.length<=1000:=by first|(simp;done)|(intro x hx;obtain rfl:=List.mem_singleton.1 hx;exact⟨by assumption,by assumption⟩))(h4:is.length<=10:=by first|omega|(simp;done))(h5:bs.length<=10:=by first|omega|(simp;done))(h6:∀ x∈bs,x.length<=2000:=by first|assumption|(simp;done)|(simp only[List.forall_mem_cons,List.not_mem_nil,false_implies,implies_true,and_true];(repeat' apply And.intro)<;>first|omega|(rw[AQ];decide)|(rw[List.length_take];omega)|(simp;omega))|(intro x hx;exact Nat.le_trans ((by assumption:∀ x∈_,List.length x<=32) x hx) zal)|(intro x hx;exact Nat.le_trans ((by assumption:∀ x∈_,List.length x<=1000) x hx) zal)):Few hs az is bs:=⟨h1,h2,h3,h4,h5,h6⟩
theorem Hr(hm:1<=m/\m<=1000000000000):Y E0 (.call 20 [.i n,.i m] [])=some (.ret (.i (n%m)) []):=by
 have hb:=Wn n hm.1
 refine tq ?_
 rcases AY (DK n m) 0 with hc0|hc0
 ·refine tp ?_;rw[Aw zaa,jJ hm.1 zaa]
 refine tq ?_;rw[jI hm.1 zaa]
theorem qW(hn:0<=n/\n<=3)(hb:b.length<=1000):Ah E0 (.loop 73 0 0 1 [(0,AV.i n),(1,AV.sl Ty.u8 b),(5,AV.nm 0),(6,AV.i 0)] [(0,some (Rs.row 22 Ty.u8.sl (Bd 2 [])))]) fun r=>∃ l:List (List UInt8),(l.length=2/\∀ x∈l,x.length<=32)/\r=some (.fin (.exit 0) 0 [(5,.sl (.sl .u8) l)] []):=by
 refine CU fun P hP=>?_
 refine tw ?_
 rcases AL (BH BinOp.and (CV n (Bh 0).toNat) 1) 1 with hc0|hc0
 ·refine tw ?_;obtain⟨x1,m1,g1⟩:=EL (l:=D6 (Bd 20 0) b) (i:=Be (D6 (Bd 20 0) b)-1) zah;rw[g1];refine tw ?_;rw[g1];refine tw ?_;obtain⟨x2,m2,g2⟩:=EL (l:=Bd 2 []) (i:=0) zah;rw[g2];refine tw ?_;refine tw ?_
  rcases AL (BH BinOp.and (CV n (Bh 1).toNat) 1) 1 with hc3|hc3
  ·refine tw ?_;obtain⟨x4,m4,g4⟩:=EL (l:=D6 (Bd 32 0) b) (i:=Be (D6 (Bd 32 0) b)-1) zah;rw[g4];refine tw ?_;rw[g4];refine tw ?_;obtain⟨x5,m5,g5⟩:=EL (l:=Bf (Bd 2 []) 0 (Bf (D6 (Bd 20 0) b) (Be (D6 (Bd 20 0) b)-1) (DU BinOp.xor x1 (EM 0)))) (i:=1) zah;rw[g5];refine tw ?_;refine tw ?_
   refine hP _ ⟨Bf (Bf (Bd 2 []) 0 (Bf (D6 (Bd 20 0) b) (Be (D6 (Bd 20 0) b)-1) (DU BinOp.xor x1 (EM 0)))) 1 (Bf (D6 (Bd 32 0) b) (Be (D6 (Bd 32 0) b)-1) (DU BinOp.xor x4 (EM 1))),?_,rfl⟩;(show WM _;(repeat'(first|exact dg0|refine dgS ?_ ?_))<;>(simp only[LL]<;>omega))
  refine tw ?_;refine tw ?_
  refine hP _ ⟨Bf (Bd 2 []) 0 (Bf (D6 (Bd 20 0) b) (Be (D6 (Bd 20 0) b)-1) (DU BinOp.xor x1 (EM 0))),?_,rfl⟩;(show WM _;(repeat'(first|exact dg0|refine dgS ?_ ?_))<;>(simp only[LL]<;>omega))
 refine tw ?_;refine tw ?_
 rcases AL (BH BinOp.and (CV n (Bh 1).toNat) 1) 1 with hc6|hc6
 ·refine tw ?_;obtain⟨x7,m7,g7⟩:=EL (l:=D6 (Bd 32 0) b) (i:=Be (D6 (Bd 32 0) b)-1) zah;rw[g7];refine tw ?_;rw[g7];refine tw ?_;obtain⟨x8,m8,g8⟩:=EL (l:=Bd 2 []) (i:=1) zah;rw[g8];refine tw ?_;refine tw ?_
  refine hP _ ⟨Bf (Bd 2 []) 1 (Bf (D6 (Bd 32 0) b) (Be (D6 (Bd 32 0) b)-1) (DU BinOp.xor x7 (EM 1))),?_,rfl⟩;(show WM _;(repeat'(first|exact dg0|refine dgS ?_ ?_))<;>(simp only[LL]<;>omega))
 refine tw ?_;refine tw ?_
 refine hP _ ⟨Bd 2 [],?_,rfl⟩;(show WM _;(repeat'(first|exact dg0|refine dgS ?_ ?_))<;>(simp only[LL]<;>omega))
theorem lL(hn:0<=n/\n<=3)(hb:b.length<=1000):Ah E0 (.call 73 [.i n,.sl .u8 b] []) fun r=>∃ l:List (List UInt8),(l.length=2/\∀ x∈l,x.length<=32)/\r=some (.ret (.sl (.sl .u8) l) []):=by
 refine CU fun P hP=>tw ?_
 obtain⟨l0,⟨h0_1,h0_2⟩,yy0⟩:=qW n b A8 A8;refine Am yy0 ?_;exact hP _ ⟨l0,clo,rfl⟩
end
section
attribute [local irreducible] Cj Dt D9 DT DK BH Du Ey Fh FD Et D7 CV Df DX and' Dk DU CG Ba Bl CJ CS BK BM BB BG Dv G7 Dw EM Dl Bh CO Bz C9 Bo BD Bi BO Be BZ Dx Bf DL Bd BI D6 Dy fits Dz Dn AZ Ap BL
attribute [local irreducible] E5 CP Bq nameB ES Em Ar FK En FH Eu Fe CE IU Ej Gf GV Ee Gp FC JL JZ Ed
theorem xm(hi:Kp a k s)(hq:0<=k'%48/\k'%48<=11)(hb:b.length<=140737488355328):Ah E0 (.call 23 [av s,.i k',.i n,.i m,.sl .u8 b] []) fun r=>∃(c:Int) (hs:List Int) (az:List (El Aq)) (is:List Int) (bs:List (List UInt8)),(Few hs az is bs)/\r=some (.ret (rq c hs az is bs) []):=by
 have hol:=hi.obl
 have hsl:=hi.ssl
 have hac:=hi.ac
 refine CU fun P hP=>tw ?_
 rw[Hr _ _ zaa];refine tw ?_;rw[Hr _ _ zaa];refine tw ?_;rw[Hr _ _ zaa];refine tw ?_;rw[FO _ _ A8];refine tw ?_
 rcases AL (k'%48) 0 with hc0|hc0
 ·refine tw ?_;refine hP _ ⟨4,[],[],[],[],?_,rfl⟩;exact BX
 refine tw ?_
 rcases AL (k'%48) 1 with hc1|hc1
 ·refine tw ?_;refine hP _ ⟨5,[],[],[n%1073741824%3,n%1073741824/3%17],[],?_,rfl⟩;exact BX
 refine tw ?_
 rcases AL (k'%48) 2 with hc2|hc2
 ·refine tv ?_;obtain⟨l3,⟨h3_1,h3_2⟩,yy3⟩:=lL s.ac (List.take (Int.toNat 60) b) A8 A8;refine Am yy3 ?_;refine hP _ ⟨6,[],[],[n%1073741824%16],l3,?_,rfl⟩;exact BX
 refine tw ?_
 rcases AL (k'%48) 3 with hc4|hc4
 ·refine tv ?_;obtain⟨l5,⟨h5_1,h5_2⟩,yy5⟩:=lL s.ac (List.take (Int.toNat 60) b) A8 A8;refine Am yy5 ?_;refine hP _ ⟨6,[],[],[n%1073741824%16],l5,?_,rfl⟩;exact BX
 refine tw ?_
 rcases AL (k'%48) 4 with hc6|hc6
 ·refine tw ?_;refine hP _ ⟨7,[],[],[n%1073741824%16],[List.take (Int.toNat 60) b],?_,rfl⟩;exact BX
 refine tw ?_
 rcases AL (k'%48) 5 with hc7|hc7
 ·refine tw ?_;refine hP _ ⟨7,[],[],[n%1073741824%16],[List.take (Int.toNat 60) b],?_,rfl⟩;exact BX
 refine tw ?_
 rcases AL (k'%48) 6 with hc8|hc8
 ·refine tw ?_;refine hP _ ⟨7,[],[],[n%1073741824%16],[List.take (Int.toNat 60) b],?_,rfl⟩;exact BX
 rw[AA zaa]
 conv=>arg 1;whnf
 rw[Ae]
 conv=>arg 1;whnf
 rcases AL (k'%48) 7 with hc9|hc9
 ·refine tw ?_;refine hP _ ⟨8,[],[],[10+n%1073741824%6],[],?_,rfl⟩;exact BX
 refine tw ?_
 rcases AL (k'%48) 8 with hc10|hc10
 ·rw[ER zaa]
  conv=>arg 1;whnf
  rw[AA zaa]
  conv=>arg 1;whnf
  rw[AA zaa]
  conv=>arg 1;whnf
  try dsimp -iota -beta -eta -zeta only
  rw[Ei zaa];rw[AU];obtain⟨i111,i211_1,i311_2,o11_3,u11_4,d11_5,⟨h11_6,h11_7,h11_8,h11_9,h11_10⟩,yy11⟩:=Qb s (n%1073741824/3) (List.take (Int.toNat 60) b) hi A8 A8;refine Am yy11 ?_;obtain⟨y112,y212_1,y312_2,⟨h12_3,h12_4⟩,yy12⟩:=Dc s 9 (n%1073741824%3) [] [i111,i211_1,i311_2] [o11_3,u11_4,d11_5] (m%1073741824) (List.take (Int.toNat 60) b) hi zaH A8 A8;refine Am yy12 ?_;refine hP _ ⟨9,[n%1073741824%3],[(y112,y212_1,y312_2)],[i111,i211_1,i311_2],[o11_3,u11_4,d11_5],?_,rfl⟩;exact BX
 refine tw ?_
 rcases AL (k'%48) 9 with hc13|hc13
 ·rw[ER zaa]
  conv=>arg 1;whnf
  rw[AA zaa]
  conv=>arg 1;whnf
  rw[AA zaa]
  conv=>arg 1;whnf
  try dsimp -iota -beta -eta -zeta only
  rw[Ei zaa];rw[AU];obtain⟨i114,i214_1,i314_2,o14_3,u14_4,d14_5,⟨h14_6,h14_7,h14_8,h14_9,h14_10⟩,yy14⟩:=Qb s (n%1073741824/3) (List.take (Int.toNat 60) b) hi A8 A8;refine Am yy14 ?_;obtain⟨y115,y215_1,y315_2,⟨h15_3,h15_4⟩,yy15⟩:=Dc s 9 (n%1073741824%3) [] [i114,i214_1,i314_2] [o14_3,u14_4,d14_5] (m%1073741824) (List.take (Int.toNat 60) b) hi zaH A8 A8;refine Am yy15 ?_;refine hP _ ⟨9,[n%1073741824%3],[(y115,y215_1,y315_2)],[i114,i214_1,i314_2],[o14_3,u14_4,d14_5],?_,rfl⟩;exact BX
 refine tw ?_
 rcases AL (k'%48) 10 with hc16|hc16
 ·rw[ER zaa]
  conv=>arg 1;whnf
  rw[AA zaa]
  conv=>arg 1;whnf
  rw[AA zaa]
  conv=>arg 1;whnf
  try dsimp -iota -beta -eta -zeta only
  rw[Ei zaa];rw[AU];obtain⟨i117,i217_1,i317_2,o17_3,u17_4,d17_5,⟨h17_6,h17_7,h17_8,h17_9,h17_10⟩,yy17⟩:=Qb s (n%1073741824/3) (List.take (Int.toNat 60) b) hi A8 A8;refine Am yy17 ?_;obtain⟨y118,y218_1,y318_2,⟨h18_3,h18_4⟩,yy18⟩:=Dc s 9 (n%1073741824%3) [] [i117,i217_1,i317_2] [o17_3,u17_4,d17_5] (m%1073741824) (List.take (Int.toNat 60) b) hi zaH A8 A8;refine Am yy18 ?_;refine hP _ ⟨9,[n%1073741824%3],[(y118,y218_1,y318_2)],[i117,i217_1,i317_2],[o17_3,u17_4,d17_5],?_,rfl⟩;exact BX
 rw[AA zaa]
 conv=>arg 1;whnf
 rw[ER zaa]
 conv=>arg 1;whnf
 rw[AA zaa]
 conv=>arg 1;whnf
 rw[AA zaa]
 conv=>arg 1;whnf
 try dsimp -iota -beta -eta -zeta only
 rw[Ei zaa];rw[AU];obtain⟨i119,i219_1,i319_2,o19_3,u19_4,d19_5,⟨h19_6,h19_7,h19_8,h19_9,h19_10⟩,yy19⟩:=Qb s (n%1073741824/3) (List.take (Int.toNat 60) b) hi A8 A8;refine Am yy19 ?_;obtain⟨y120,y220_1,y320_2,⟨h20_3,h20_4⟩,yy20⟩:=Dc s 9 (n%1073741824%3) [] [i119,i219_1,i319_2] [o19_3,u19_4,d19_5] (m%1073741824) (List.take (Int.toNat 60) b) hi zaH A8 A8;refine Am yy20 ?_;refine hP _ ⟨9,[n%1073741824%3],[(y120,y220_1,y320_2)],[i119,i219_1,i319_2],[o19_3,u19_4,d19_5],?_,rfl⟩;exact BX
end
section
attribute [local irreducible] Cj Dt D9 DT DK BH Du Ey Fh FD Et D7 CV Df DX and' Dk DU CG Ba Bl CJ CS BK BM BB BG Dv G7 Dw EM Dl Bh CO Bz C9 Bo BD Bi BO Be BZ Dx Bf DL Bd BI D6 Dy fits Dz Dn AZ Ap BL
attribute [local irreducible] E5 CP Bq nameB ES Em Ar FK En FH Eu Fe CE IU Ej Gf GV Ee Gp FC JL JZ Ed
theorem xn(hi:Kp a k s)(hq:12<=k'%48/\k'%48<=22)(hb:b.length<=140737488355328):Ah E0 (.call 23 [av s,.i k',.i n,.i m,.sl .u8 b] []) fun r=>∃(c:Int) (hs:List Int) (az:List (El Aq)) (is:List Int) (bs:List (List UInt8)),(Few hs az is bs)/\r=some (.ret (rq c hs az is bs) []):=by
 have hol:=hi.obl
 have hsl:=hi.ssl
 have hac:=hi.ac
 refine CU fun P hP=>tw ?_
 rw[Hr _ _ zaa];refine tw ?_;rw[Hr _ _ zaa];refine tw ?_;rw[Hr _ _ zaa];refine tw ?_;rw[FO _ _ A8]
 conv=>arg 1;whnf
 rw[EC zah]
 conv=>arg 1;whnf
 rw[EC zah]
 conv=>arg 1;whnf
 rw[AA zaa]
 conv=>arg 1;whnf
 rw[AA zaa]
 conv=>arg 1;whnf
 rw[AA zaa]
 conv=>arg 1;whnf
 rw[AA zaa]
 conv=>arg 1;whnf
 rw[AA zaa]
 conv=>arg 1;whnf
 rw[AA zaa]
 conv=>arg 1;whnf
 rw[AA zaa]
 conv=>arg 1;whnf
 rw[Ae]
 conv=>arg 1;whnf
 rw[AA zaa]
 conv=>arg 1;whnf
 rw[AA zaa]
 conv=>arg 1;whnf
 rw[AA zaa]
 conv=>arg 1;whnf
 rw[AA zaa]
 conv=>arg 1;whnf
 rw[AA zaa]
 conv=>arg 1;whnf
 rcases AL (k'%48) 12 with hc0|hc0
 ·refine tw ?_;obtain⟨h1,⟨h1_1,h1_2⟩,yy1⟩:=JA s (n%1073741824) 1 hi A8;refine Am yy1 ?_;obtain⟨i12,i22_1,i32_2,o2_3,u2_4,d2_5,⟨h2_6,h2_7,h2_8,h2_9,h2_10⟩,yy2⟩:=Qb s (n%1073741824/3) (List.take (Int.toNat 60) b) hi A8 A8;refine Am yy2 ?_;obtain⟨y13,y23_1,y33_2,⟨h3_3,h3_4⟩,yy3⟩:=Dc s 10 h1 [] [i12,i22_1,i32_2] [o2_3,u2_4,d2_5] (m%1073741824) (List.take (Int.toNat 60) b) hi zaH A8 A8;refine Am yy3 ?_;refine hP _ ⟨10,[h1],[(y13,y23_1,y33_2)],[i12,i22_1,i32_2],[o2_3,u2_4,d2_5],?_,rfl⟩;exact BX
 refine tw ?_
 rcases AL (k'%48) 13 with hc4|hc4
 ·refine tw ?_;obtain⟨h5,⟨h5_1,h5_2⟩,yy5⟩:=JA s (n%1073741824) 1 hi A8;refine Am yy5 ?_;obtain⟨o6,u6_1,⟨h6_2,h6_3⟩,yy6⟩:=Yn s h5 (n%1073741824/3) (List.take (Int.toNat 60) b) hi A8 A8;refine Am yy6 ?_;obtain⟨y17,y27_1,y37_2,⟨h7_3,h7_4⟩,yy7⟩:=Dc s 11 h5 [] [] [o6,u6_1] (m%1073741824) (List.take (Int.toNat 60) b) hi zaH A8 A8;refine Am yy7 ?_;refine hP _ ⟨11,[h5],[(y17,y27_1,y37_2)],[],[o6,u6_1],?_,rfl⟩;exact BX
 refine tw ?_
 rcases AL (k'%48) 14 with hc8|hc8
 ·refine tw ?_;obtain⟨h9,⟨h9_1,h9_2⟩,yy9⟩:=JA s (n%1073741824) 1 hi A8;refine Am yy9 ?_;obtain⟨o10,u10_1,⟨h10_2,h10_3⟩,yy10⟩:=Yn s h9 (n%1073741824/3) (List.take (Int.toNat 60) b) hi A8 A8;refine Am yy10 ?_;obtain⟨y111,y211_1,y311_2,⟨h11_3,h11_4⟩,yy11⟩:=Dc s 11 h9 [] [] [o10,u10_1] (m%1073741824) (List.take (Int.toNat 60) b) hi zaH A8 A8;refine Am yy11 ?_;refine hP _ ⟨11,[h9],[(y111,y211_1,y311_2)],[],[o10,u10_1],?_,rfl⟩;exact BX
 refine tw ?_
 rcases AL (k'%48) 15 with hc12|hc12
 ·refine tw ?_;obtain⟨h13,⟨h13_1,h13_2⟩,yy13⟩:=JA s (n%1073741824) 1 hi A8;refine Am yy13 ?_;obtain⟨o14,u14_1,⟨h14_2,h14_3⟩,yy14⟩:=Yn s h13 (n%1073741824/3) (List.take (Int.toNat 60) b) hi A8 A8;refine Am yy14 ?_;obtain⟨y115,y215_1,y315_2,⟨h15_3,h15_4⟩,yy15⟩:=Dc s 11 h13 [] [] [o14,u14_1] (m%1073741824) (List.take (Int.toNat 60) b) hi zaH A8 A8;refine Am yy15 ?_;refine hP _ ⟨11,[h13],[(y115,y215_1,y315_2)],[],[o14,u14_1],?_,rfl⟩;exact BX
 refine tw ?_
 rcases AL (k'%48) 16 with hc16|hc16
 ·refine tw ?_;obtain⟨h17,⟨h17_1,h17_2⟩,yy17⟩:=JA s (n%1073741824) 0 hi A8;refine Am yy17 ?_;obtain⟨h18,⟨h18_1,h18_2⟩,yy18⟩:=KQ s (n%1073741824) 0 hi A8;refine Am yy18 ?_;obtain⟨x19,m19,g19⟩:=EL (l:=[h17,h18]) (i:=n%1073741824/3%2) zah;rw[g19];refine tw ?_;refine hP _ ⟨12,[],[],[x19],[],?_,rfl⟩;exact BX
 refine tw ?_
 rcases AL (k'%48) 17 with hc20|hc20
 ·refine tw ?_;obtain⟨h21,⟨h21_1,h21_2⟩,yy21⟩:=JA s (n%1073741824) 3 hi A8;refine Am yy21 ?_;obtain⟨y122,y222_1,y322_2,⟨h22_3,h22_4⟩,yy22⟩:=Dc s 13 h21 [] [] [] (m%1073741824) (List.take (Int.toNat 60) b) hi zaH A8 A8;refine Am yy22 ?_;refine hP _ ⟨13,[h21],[(y122,y222_1,y322_2)],[],[],?_,rfl⟩;exact BX
 refine tw ?_
 rcases AL (k'%48) 18 with hc23|hc23
 ·refine tw ?_;obtain⟨h24,⟨h24_1,h24_2⟩,yy24⟩:=JA s (n%1073741824) 3 hi A8;refine Am yy24 ?_;obtain⟨y125,y225_1,y325_2,⟨h25_3,h25_4⟩,yy25⟩:=Dc s 13 h24 [] [] [] (m%1073741824) (List.take (Int.toNat 60) b) hi zaH A8 A8;refine Am yy25 ?_;refine hP _ ⟨13,[h24],[(y125,y225_1,y325_2)],[],[],?_,rfl⟩;exact BX
 refine tw ?_
 rcases AL (k'%48) 19 with hc26|hc26
 ·refine tw ?_;obtain⟨h27,⟨h27_1,h27_2⟩,yy27⟩:=JA s (n%1073741824) 2 hi A8;refine Am yy27 ?_;obtain⟨y128,y228_1,y328_2,⟨h28_3,h28_4⟩,yy28⟩:=Dc s 14 h27 [] [] [List.take (Int.toNat 60) b] (m%1073741824) (List.take (Int.toNat 60) b) hi zaH A8 A8;refine Am yy28 ?_;refine hP _ ⟨14,[h27],[(y128,y228_1,y328_2)],[],[List.take (Int.toNat 60) b],?_,rfl⟩;exact BX
 refine tw ?_
 rcases AL (k'%48) 20 with hc29|hc29
 ·refine tw ?_;obtain⟨h30,⟨h30_1,h30_2⟩,yy30⟩:=JA s (n%1073741824) 2 hi A8;refine Am yy30 ?_;obtain⟨y131,y231_1,y331_2,⟨h31_3,h31_4⟩,yy31⟩:=Dc s 14 h30 [] [] [List.take (Int.toNat 60) b] (m%1073741824) (List.take (Int.toNat 60) b) hi zaH A8 A8;refine Am yy31 ?_;refine hP _ ⟨14,[h30],[(y131,y231_1,y331_2)],[],[List.take (Int.toNat 60) b],?_,rfl⟩;exact BX
 refine tw ?_
 rcases AL (k'%48) 21 with hc32|hc32
 ·refine tw ?_;obtain⟨h33,⟨h33_1,h33_2⟩,yy33⟩:=JA s (n%1073741824) 2 hi A8;rw[yy33]
  conv=>arg 1;whnf
  rw[AA zaa]
  conv=>arg 1;whnf
  rw[AA zaa]
  conv=>arg 1;whnf
  rw[AA zaa]
  conv=>arg 1;whnf
  rw[AA zaa]
  conv=>arg 1;whnf
  try dsimp -iota -beta -eta -zeta only
  rw[Ez zaa];rw[drw zas];conv=>arg 1;whnf
  rw[Ei zaa];rw[Ei zaa];rw[Ez zaa];rw[Ae]
  conv=>arg 1;whnf
  rw[Ae]
  conv=>arg 1;whnf
  try dsimp -iota -beta -eta -zeta only
  rw[AU];obtain⟨y134,y234_1,y334_2,⟨h34_3,h34_4⟩,yy34⟩:=Dc s 15 h33 [] [D9 (BH BinOp.and s.ac 1) (n%1073741824%65536),D9 (s.ac/2) (n%1073741824/7%65536)] [List.take (Int.toNat 60) b] (m%1073741824) (List.take (Int.toNat 60) b) hi zaH A8 A8;refine Am yy34 ?_;refine hP _ ⟨15,[h33],[(y134,y234_1,y334_2)],[D9 (BH BinOp.and s.ac 1) (n%1073741824%65536),D9 (s.ac/2) (n%1073741824/7%65536)],[List.take (Int.toNat 60) b],?_,rfl⟩;exact BX
 refine tw ?_;obtain⟨h35,⟨h35_1,h35_2⟩,yy35⟩:=JA s (n%1073741824) 2 hi A8;rw[yy35]
 conv=>arg 1;whnf
 rw[AA zaa]
 conv=>arg 1;whnf
 rw[AA zaa]
 conv=>arg 1;whnf
 rw[AA zaa]
 conv=>arg 1;whnf
 rw[AA zaa]
 conv=>arg 1;whnf
 try dsimp -iota -beta -eta -zeta only
 rw[Ez zaa];rw[drw zas];conv=>arg 1;whnf
 rw[Ei zaa];rw[Ei zaa];rw[Ez zaa];rw[Ae]
 conv=>arg 1;whnf
 rw[Ae]
 conv=>arg 1;whnf
 try dsimp -iota -beta -eta -zeta only
 rw[AU];obtain⟨y136,y236_1,y336_2,⟨h36_3,h36_4⟩,yy36⟩:=Dc s 15 h35 [] [D9 (BH BinOp.and s.ac 1) (n%1073741824%65536),D9 (s.ac/2) (n%1073741824/7%65536)] [List.take (Int.toNat 60) b] (m%1073741824) (List.take (Int.toNat 60) b) hi zaH A8 A8;refine Am yy36 ?_;refine hP _ ⟨15,[h35],[(y136,y236_1,y336_2)],[D9 (BH BinOp.and s.ac 1) (n%1073741824%65536),D9 (s.ac/2) (n%1073741824/7%65536)],[List.take (Int.toNat 60) b],?_,rfl⟩;exact BX
end
section
attribute [local irreducible] Cj Dt D9 DT DK BH Du Ey Fh FD Et D7 CV Df DX and' Dk DU CG Ba Bl CJ CS BK BM BB BG Dv G7 Dw EM Dl Bh CO Bz C9 Bo BD Bi BO Be BZ Dx Bf DL Bd BI D6 Dy fits Dz Dn AZ Ap BL
attribute [local irreducible] E5 CP Bq nameB ES Em Ar FK En FH Eu Fe CE IU Ej Gf GV Ee Gp FC JL JZ Ed
theorem xq(hi:Kp a k s)(hq:23<=k'%48/\k'%48<=31)(hb:b.length<=140737488355328):Ah E0 (.call 23 [av s,.i k',.i n,.i m,.sl .u8 b] []) fun r=>∃(c:Int) (hs:List Int) (az:List (El Aq)) (is:List Int) (bs:List (List UInt8)),(Few hs az is bs)/\r=some (.ret (rq c hs az is bs) []):=by
 have hol:=hi.obl
 have hsl:=hi.ssl
 have hac:=hi.ac
 refine CU fun P hP=>tw ?_
 rw[Hr _ _ zaa];refine tw ?_;rw[Hr _ _ zaa];refine tw ?_;rw[Hr _ _ zaa];refine tw ?_;rw[FO _ _ A8]
 conv=>arg 1;whnf
 rw[EC zah]
 conv=>arg 1;whnf
 rw[EC zah]
 conv=>arg 1;whnf
 rw[AA zaa]
 conv=>arg 1;whnf
 rw[AA zaa]
 conv=>arg 1;whnf
 rw[AA zaa]
 conv=>arg 1;whnf
 rw[AA zaa]
 conv=>arg 1;whnf
 rw[AA zaa]
 conv=>arg 1;whnf
 rw[AA zaa]
 conv=>arg 1;whnf
 rw[AA zaa]
 conv=>arg 1;whnf
 rw[Ae]
 conv=>arg 1;whnf
 rw[AA zaa]
 conv=>arg 1;whnf
 rw[AA zaa]
 conv=>arg 1;whnf
 rw[AA zaa]
 conv=>arg 1;whnf
 rw[AA zaa]
 conv=>arg 1;whnf
 rw[AA zaa]
 conv=>arg 1;whnf
 rw[AA zaa]
 conv=>arg 1;whnf
 rw[AA zaa]
 conv=>arg 1;whnf
 rw[AA zaa]
 conv=>arg 1;whnf
 rw[AA zaa]
 conv=>arg 1;whnf
 rw[AA zaa]
 conv=>arg 1;whnf
 rw[AA zaa]
 conv=>arg 1;whnf
 rw[AA zaa]
 conv=>arg 1;whnf
 rw[AA zaa]
 conv=>arg 1;whnf
 rw[AA zaa]
 conv=>arg 1;whnf
 rw[AA zaa]
 conv=>arg 1;whnf
 rw[AA zaa]
 conv=>arg 1;whnf
 rcases AL (k'%48) 23 with hc0|hc0
 ·refine tw ?_;refine hP _ ⟨16,[],[],[1+n%1073741824%3],[],?_,rfl⟩;exact BX
 refine tw ?_
 rcases AL (k'%48) 24 with hc1|hc1
 ·rw[ER zaa]
  conv=>arg 1;whnf
  rw[AA zaa]
  conv=>arg 1;whnf
  rw[Ez zaa];rw[Aw zaa];rw[Ae]
  conv=>arg 1;whnf
  rw[Ae]
  conv=>arg 1;whnf
  rw[Ae]
  conv=>arg 1;whnf
  try dsimp -iota -beta -eta -zeta only
  refine hP _ ⟨16,[],[],[1+n%1073741824%3],[],?_,rfl⟩;exact BX
 refine tw ?_
 rcases AL (k'%48) 25 with hc2|hc2
 ·rw[ER zaa]
  conv=>arg 1;whnf
  rw[AA zaa]
  conv=>arg 1;whnf
  rw[Ez zaa];rw[Aw zaa];rw[Ae]
  conv=>arg 1;whnf
  rw[Ae]
  conv=>arg 1;whnf
  rw[Ae]
  conv=>arg 1;whnf
  try dsimp -iota -beta -eta -zeta only
  refine hP _ ⟨16,[],[],[1+n%1073741824%3],[],?_,rfl⟩;exact BX
 refine tw ?_
 rcases AL (k'%48) 26 with hc3|hc3
 ·rw[ER zaa]
  conv=>arg 1;whnf
  rw[Ae]
  conv=>arg 1;whnf
  try dsimp -iota -beta -eta -zeta only
  rw[AU];obtain⟨is4,bs4_1,⟨h4_2,h4_3,h4_4⟩,yy4⟩:=Wv s (n%1073741824) (m%1073741824) (List.take (Int.toNat 60) b) hi A8 A8 A8;refine Am yy4 ?_;refine hP _ ⟨17,[],[],is4,bs4_1,?_,rfl⟩;exact BX
 rw[AA zaa]
 conv=>arg 1;whnf
 rw[Ae]
 conv=>arg 1;whnf
 rcases AL (k'%48) 27 with hc5|hc5
 ·refine tw ?_;obtain⟨is6,bs6_1,⟨h6_2,h6_3,h6_4⟩,yy6⟩:=Wv s (n%1073741824) (m%1073741824) (List.take (Int.toNat 60) b) hi A8 A8 A8;refine Am yy6 ?_;refine hP _ ⟨17,[],[],is6,bs6_1,?_,rfl⟩;exact BX
 refine tw ?_
 rcases AL (k'%48) 28 with hc7|hc7
 ·refine tw ?_;obtain⟨is8,bs8_1,⟨h8_2,h8_3,h8_4⟩,yy8⟩:=Wv s (n%1073741824) (m%1073741824) (List.take (Int.toNat 60) b) hi A8 A8 A8;refine Am yy8 ?_;refine hP _ ⟨17,[],[],is8,bs8_1,?_,rfl⟩;exact BX
 refine tw ?_
 rcases AL (k'%48) 29 with hc9|hc9
 ·refine tw ?_;obtain⟨is10,bs10_1,⟨h10_2,h10_3,h10_4⟩,yy10⟩:=Wv s (n%1073741824) (m%1073741824) (List.take (Int.toNat 60) b) hi A8 A8 A8;refine Am yy10 ?_;refine hP _ ⟨17,[],[],is10,bs10_1,?_,rfl⟩;exact BX
 refine tw ?_
 rcases AL (k'%48) 30 with hc11|hc11
 ·refine tw ?_;obtain⟨h12,⟨h12_1,h12_2⟩,yy12⟩:=A3A s (n%1073741824) hi A8;refine Am yy12 ?_;obtain⟨h13,⟨h13_1,h13_2⟩,yy13⟩:=KQ s (n%1073741824/3) 0 hi A8;refine tvn yy13 ?_;rw[FO _ _ A8];refine tw ?_;obtain⟨y114,y214_1,y314_2,⟨h14_3,h14_4⟩,yy14⟩:=Dc s 18 h12 [] [h13,n%1073741824%50] [List.take (Int.toNat 4) (List.take (Int.toNat 60) b)] (m%1073741824) (List.take (Int.toNat 60) b) hi zaH A8 A8;refine Am yy14 ?_;refine hP _ ⟨18,[h12],[(y114,y214_1,y314_2)],[h13,n%1073741824%50],[List.take (Int.toNat 4) (List.take (Int.toNat 60) b)],?_,rfl⟩;exact BX
 refine tw ?_;obtain⟨h15,o15_1,u15_2,v15_3,⟨h15_4,h15_5,h15_6⟩,yy15⟩:=A1l s (n%1073741824) (List.take (Int.toNat 60) b) hi A8 A8;refine Am yy15 ?_;refine hP _ ⟨19,[],[],[h15],[o15_1,u15_2,v15_3],?_,rfl⟩;exact BX
end
section
attribute [local irreducible] Cj Dt D9 DT DK BH Du Ey Fh FD Et D7 CV Df DX and' Dk DU CG Ba Bl CJ CS BK BM BB BG Dv G7 Dw EM Dl Bh CO Bz C9 Bo BD Bi BO Be BZ Dx Bf DL Bd BI D6 Dy fits Dz Dn AZ Ap BL
attribute [local irreducible] E5 CP Bq nameB ES Em Ar FK En FH Eu Fe CE IU Ej Gf GV Ee Gp FC JL JZ Ed
theorem xu(hi:Kp a k s)(hq:32<=k'%48/\k'%48<=43)(hb:b.length<=140737488355328):Ah E0 (.call 23 [av s,.i k',.i n,.i m,.sl .u8 b] []) fun r=>∃(c:Int) (hs:List Int) (az:List (El Aq)) (is:List Int) (bs:List (List UInt8)),(Few hs az is bs)/\r=some (.ret (rq c hs az is bs) []):=by
 have hol:=hi.obl
 have hsl:=hi.ssl
 have hac:=hi.ac
 refine CU fun P hP=>tw ?_
 rw[Hr _ _ zaa];refine tw ?_;rw[Hr _ _ zaa];refine tw ?_;rw[Hr _ _ zaa];refine tw ?_;rw[FO _ _ A8]
 conv=>arg 1;whnf
 rw[EC zah]
 conv=>arg 1;whnf
 rw[EC zah]
 conv=>arg 1;whnf
 rw[AA zaa]
 conv=>arg 1;whnf
 rw[AA zaa]
 conv=>arg 1;whnf
 rw[AA zaa]
 conv=>arg 1;whnf
 rw[AA zaa]
 conv=>arg 1;whnf
 rw[AA zaa]
 conv=>arg 1;whnf
 rw[AA zaa]
 conv=>arg 1;whnf
 rw[AA zaa]
 conv=>arg 1;whnf
 rw[Ae]
 conv=>arg 1;whnf
 rw[AA zaa]
 conv=>arg 1;whnf
 rw[AA zaa]
 conv=>arg 1;whnf
 rw[AA zaa]
 conv=>arg 1;whnf
 rw[AA zaa]
 conv=>arg 1;whnf
 rw[AA zaa]
 conv=>arg 1;whnf
 rw[AA zaa]
 conv=>arg 1;whnf
 rw[AA zaa]
 conv=>arg 1;whnf
 rw[AA zaa]
 conv=>arg 1;whnf
 rw[AA zaa]
 conv=>arg 1;whnf
 rw[AA zaa]
 conv=>arg 1;whnf
 rw[AA zaa]
 conv=>arg 1;whnf
 rw[AA zaa]
 conv=>arg 1;whnf
 rw[AA zaa]
 conv=>arg 1;whnf
 rw[AA zaa]
 conv=>arg 1;whnf
 rw[AA zaa]
 conv=>arg 1;whnf
 rw[AA zaa]
 conv=>arg 1;whnf
 rw[AA zaa]
 conv=>arg 1;whnf
 rw[AA zaa]
 conv=>arg 1;whnf
 rw[AA zaa]
 conv=>arg 1;whnf
 rw[AA zaa]
 conv=>arg 1;whnf
 rw[Ae]
 conv=>arg 1;whnf
 rw[AA zaa]
 conv=>arg 1;whnf
 rw[AA zaa]
 conv=>arg 1;whnf
 rw[AA zaa]
 conv=>arg 1;whnf
 rw[AA zaa]
 conv=>arg 1;whnf
 rw[AA zaa]
 conv=>arg 1;whnf
 rcases AL (k'%48) 32 with hc0|hc0
 ·refine tw ?_;obtain⟨h1,⟨h1_1,h1_2⟩,yy1⟩:=KQ s (n%1073741824) 0 hi A8;refine Am yy1 ?_;refine hP _ ⟨20,[],[],[h1],[],?_,rfl⟩;exact BX
 refine tw ?_
 rcases AL (k'%48) 33 with hc2|hc2
 ·rw[ER zaa]
  conv=>arg 1;whnf
  rw[AA zaa]
  conv=>arg 1;whnf
  rw[AA zaa]
  conv=>arg 1;whnf
  try dsimp -iota -beta -eta -zeta only
  rw[Ei zaa];rw[AU];obtain⟨i13,i23_1,i33_2,i43_3,o3_4,u3_5,⟨h3_6,h3_7⟩,yy3⟩:=uY s (n%1073741824/2) (List.take (Int.toNat 60) b) hi A8 A8;refine Am yy3 ?_;obtain⟨y14,y24_1,y34_2,⟨h4_3,h4_4⟩,yy4⟩:=Dc s 21 (1+n%1073741824%2) [] [i13,i23_1,i33_2,i43_3] [o3_4,u3_5] (m%1073741824) (List.take (Int.toNat 60) b) hi zaH A8 A8;refine Am yy4 ?_;refine hP _ ⟨21,[1+n%1073741824%2],[(y14,y24_1,y34_2)],[i13,i23_1,i33_2,i43_3],[o3_4,u3_5],?_,rfl⟩;exact BX
 refine tw ?_
 rcases AL (k'%48) 34 with hc5|hc5
 ·rw[ER zaa]
  conv=>arg 1;whnf
  rw[AA zaa]
  conv=>arg 1;whnf
  rw[AA zaa]
  conv=>arg 1;whnf
  try dsimp -iota -beta -eta -zeta only
  rw[Ei zaa];rw[AU];obtain⟨i16,i26_1,i36_2,i46_3,o6_4,u6_5,⟨h6_6,h6_7⟩,yy6⟩:=uY s (n%1073741824/2) (List.take (Int.toNat 60) b) hi A8 A8;refine Am yy6 ?_;obtain⟨y17,y27_1,y37_2,⟨h7_3,h7_4⟩,yy7⟩:=Dc s 21 (1+n%1073741824%2) [] [i16,i26_1,i36_2,i46_3] [o6_4,u6_5] (m%1073741824) (List.take (Int.toNat 60) b) hi zaH A8 A8;refine Am yy7 ?_;refine hP _ ⟨21,[1+n%1073741824%2],[(y17,y27_1,y37_2)],[i16,i26_1,i36_2,i46_3],[o6_4,u6_5],?_,rfl⟩;exact BX
 refine tw ?_
 rcases AL (k'%48) 35 with hc8|hc8
 ·rw[ER zaa]
  conv=>arg 1;whnf
  rw[AA zaa]
  conv=>arg 1;whnf
  rw[AA zaa]
  conv=>arg 1;whnf
  try dsimp -iota -beta -eta -zeta only
  rw[Ei zaa];rw[AU];obtain⟨h9,⟨h9_1,h9_2⟩,yy9⟩:=Ws s (n%1073741824/2) hi A8;refine Am yy9 ?_;obtain⟨y110,y210_1,y310_2,⟨h10_3,h10_4⟩,yy10⟩:=Dc s 22 (1+n%1073741824%2) [] [h9-256] [] (m%1073741824) (List.take (Int.toNat 60) b) hi zaH A8 A8;refine Am yy10 ?_;refine hP _ ⟨22,[1+n%1073741824%2],[(y110,y210_1,y310_2)],[h9-256],[],?_,rfl⟩;exact BX
 refine tw ?_
 rcases AL (k'%48) 36 with hc11|hc11
 ·refine tw ?_;obtain⟨c12,h112_1,h212_2,is12_3,bs12_4,⟨h12_5,h12_6,h12_7⟩,yy12⟩:=Kz s (k'%48-36) (n%1073741824) (List.take (Int.toNat 60) b) hi A8 A8 A8;refine Am yy12 ?_;obtain⟨y113,y213_1,y313_2,⟨h13_3,h13_4⟩,yy13⟩:=Dc s c12 h112_1 [h212_2] is12_3 bs12_4 (m%1073741824) (List.take (Int.toNat 60) b) hi zaH A8 A8;refine Am yy13 ?_;refine hP _ ⟨c12,[h112_1,h212_2],[(y113,y213_1,y313_2)],is12_3,bs12_4,?_,rfl⟩;exact BX
 refine tw ?_
 rcases AL (k'%48) 37 with hc14|hc14
 ·refine tw ?_;obtain⟨c15,h115_1,h215_2,is15_3,bs15_4,⟨h15_5,h15_6,h15_7⟩,yy15⟩:=Kz s (k'%48-36) (n%1073741824) (List.take (Int.toNat 60) b) hi A8 A8 A8;refine Am yy15 ?_;obtain⟨y116,y216_1,y316_2,⟨h16_3,h16_4⟩,yy16⟩:=Dc s c15 h115_1 [h215_2] is15_3 bs15_4 (m%1073741824) (List.take (Int.toNat 60) b) hi zaH A8 A8;refine Am yy16 ?_;refine hP _ ⟨c15,[h115_1,h215_2],[(y116,y216_1,y316_2)],is15_3,bs15_4,?_,rfl⟩;exact BX
 refine tw ?_
 rcases AL (k'%48) 38 with hc17|hc17
 ·refine tw ?_;obtain⟨c18,h118_1,h218_2,is18_3,bs18_4,⟨h18_5,h18_6,h18_7⟩,yy18⟩:=Kz s (k'%48-36) (n%1073741824) (List.take (Int.toNat 60) b) hi A8 A8 A8;refine Am yy18 ?_;obtain⟨y119,y219_1,y319_2,⟨h19_3,h19_4⟩,yy19⟩:=Dc s c18 h118_1 [h218_2] is18_3 bs18_4 (m%1073741824) (List.take (Int.toNat 60) b) hi zaH A8 A8;refine Am yy19 ?_;refine hP _ ⟨c18,[h118_1,h218_2],[(y119,y219_1,y319_2)],is18_3,bs18_4,?_,rfl⟩;exact BX
 refine tw ?_
 rcases AL (k'%48) 39 with hc20|hc20
 ·refine tw ?_;obtain⟨c21,h121_1,h221_2,is21_3,bs21_4,⟨h21_5,h21_6,h21_7⟩,yy21⟩:=Kz s (k'%48-36) (n%1073741824) (List.take (Int.toNat 60) b) hi A8 A8 A8;refine Am yy21 ?_;obtain⟨y122,y222_1,y322_2,⟨h22_3,h22_4⟩,yy22⟩:=Dc s c21 h121_1 [h221_2] is21_3 bs21_4 (m%1073741824) (List.take (Int.toNat 60) b) hi zaH A8 A8;refine Am yy22 ?_;refine hP _ ⟨c21,[h121_1,h221_2],[(y122,y222_1,y322_2)],is21_3,bs21_4,?_,rfl⟩;exact BX
 refine tw ?_
 rcases AL (k'%48) 40 with hc23|hc23
 ·refine tw ?_;obtain⟨c24,h124_1,h224_2,is24_3,bs24_4,⟨h24_5,h24_6,h24_7⟩,yy24⟩:=Kz s (k'%48-36) (n%1073741824) (List.take (Int.toNat 60) b) hi A8 A8 A8;refine Am yy24 ?_;obtain⟨y125,y225_1,y325_2,⟨h25_3,h25_4⟩,yy25⟩:=Dc s c24 h124_1 [h224_2] is24_3 bs24_4 (m%1073741824) (List.take (Int.toNat 60) b) hi zaH A8 A8;refine Am yy25 ?_;refine hP _ ⟨c24,[h124_1,h224_2],[(y125,y225_1,y325_2)],is24_3,bs24_4,?_,rfl⟩;exact BX
 refine tw ?_
 rcases AL (k'%48) 41 with hc26|hc26
 ·refine tw ?_;obtain⟨c27,h127_1,h227_2,is27_3,bs27_4,⟨h27_5,h27_6,h27_7⟩,yy27⟩:=Kz s (k'%48-36) (n%1073741824) (List.take (Int.toNat 60) b) hi A8 A8 A8;refine Am yy27 ?_;obtain⟨y128,y228_1,y328_2,⟨h28_3,h28_4⟩,yy28⟩:=Dc s c27 h127_1 [h227_2] is27_3 bs27_4 (m%1073741824) (List.take (Int.toNat 60) b) hi zaH A8 A8;refine Am yy28 ?_;refine hP _ ⟨c27,[h127_1,h227_2],[(y128,y228_1,y328_2)],is27_3,bs27_4,?_,rfl⟩;exact BX
 refine tw ?_
 rcases AL (k'%48) 42 with hc29|hc29
 ·refine tw ?_;obtain⟨c30,h130_1,h230_2,is30_3,bs30_4,⟨h30_5,h30_6,h30_7⟩,yy30⟩:=Kz s (k'%48-36) (n%1073741824) (List.take (Int.toNat 60) b) hi A8 A8 A8;refine Am yy30 ?_;obtain⟨y131,y231_1,y331_2,⟨h31_3,h31_4⟩,yy31⟩:=Dc s c30 h130_1 [h230_2] is30_3 bs30_4 (m%1073741824) (List.take (Int.toNat 60) b) hi zaH A8 A8;refine Am yy31 ?_;refine hP _ ⟨c30,[h130_1,h230_2],[(y131,y231_1,y331_2)],is30_3,bs30_4,?_,rfl⟩;exact BX
 refine tw ?_;obtain⟨c32,h132_1,h232_2,is32_3,bs32_4,⟨h32_5,h32_6,h32_7⟩,yy32⟩:=Kz s (k'%48-36) (n%1073741824) (List.take (Int.toNat 60) b) hi A8 A8 A8;refine Am yy32 ?_;obtain⟨y133,y233_1,y333_2,⟨h33_3,h33_4⟩,yy33⟩:=Dc s c32 h132_1 [h232_2] is32_3 bs32_4 (m%1073741824) (List.take (Int.toNat 60) b) hi zaH A8 A8;refine Am yy33 ?_;refine hP _ ⟨c32,[h132_1,h232_2],[(y133,y233_1,y333_2)],is32_3,bs32_4,?_,rfl⟩;exact BX
end
section
attribute [local irreducible] Cj Dt D9 DT DK BH Du Ey Fh FD Et D7 CV Df DX and' Dk DU CG Ba Bl CJ CS BK BM BB BG Dv G7 Dw EM Dl Bh CO Bz C9 Bo BD Bi BO Be BZ Dx Bf DL Bd BI D6 Dy fits Dz Dn AZ Ap BL
attribute [local irreducible] E5 CP Bq nameB ES Em Ar FK En FH Eu Fe CE IU Ej Gf GV Ee Gp FC JL JZ Ed
theorem xw(hi:Kp a k s)(hq:44<=k'%48/\k'%48<=47)(hb:b.length<=140737488355328):Ah E0 (.call 23 [av s,.i k',.i n,.i m,.sl .u8 b] []) fun r=>∃(c:Int) (hs:List Int) (az:List (El Aq)) (is:List Int) (bs:List (List UInt8)),(Few hs az is bs)/\r=some (.ret (rq c hs az is bs) []):=by
 have hol:=hi.obl
 have hsl:=hi.ssl
 have hac:=hi.ac
 refine CU fun P hP=>tw ?_
 rw[Hr _ _ zaa];refine tw ?_;rw[Hr _ _ zaa];refine tw ?_;rw[Hr _ _ zaa];refine tw ?_;rw[FO _ _ A8]
 conv=>arg 1;whnf
 rw[EC zah]
 conv=>arg 1;whnf
 rw[EC zah]
 conv=>arg 1;whnf
 rw[AA zaa]
 conv=>arg 1;whnf
 rw[AA zaa]
 conv=>arg 1;whnf
 rw[AA zaa]
 conv=>arg 1;whnf
 rw[AA zaa]
 conv=>arg 1;whnf
 rw[AA zaa]
 conv=>arg 1;whnf
 rw[AA zaa]
 conv=>arg 1;whnf
 rw[AA zaa]
 conv=>arg 1;whnf
 rw[Ae]
 conv=>arg 1;whnf
 rw[AA zaa]
 conv=>arg 1;whnf
 rw[AA zaa]
 conv=>arg 1;whnf
 rw[AA zaa]
 conv=>arg 1;whnf
 rw[AA zaa]
 conv=>arg 1;whnf
 rw[AA zaa]
 conv=>arg 1;whnf
 rw[AA zaa]
 conv=>arg 1;whnf
 rw[AA zaa]
 conv=>arg 1;whnf
 rw[AA zaa]
 conv=>arg 1;whnf
 rw[AA zaa]
 conv=>arg 1;whnf
 rw[AA zaa]
 conv=>arg 1;whnf
 rw[AA zaa]
 conv=>arg 1;whnf
 rw[AA zaa]
 conv=>arg 1;whnf
 rw[AA zaa]
 conv=>arg 1;whnf
 rw[AA zaa]
 conv=>arg 1;whnf
 rw[AA zaa]
 conv=>arg 1;whnf
 rw[AA zaa]
 conv=>arg 1;whnf
 rw[AA zaa]
 conv=>arg 1;whnf
 rw[AA zaa]
 conv=>arg 1;whnf
 rw[AA zaa]
 conv=>arg 1;whnf
 rw[AA zaa]
 conv=>arg 1;whnf
 rw[Ae]
 conv=>arg 1;whnf
 rw[AA zaa]
 conv=>arg 1;whnf
 rw[AA zaa]
 conv=>arg 1;whnf
 rw[AA zaa]
 conv=>arg 1;whnf
 rw[AA zaa]
 conv=>arg 1;whnf
 rw[AA zaa]
 conv=>arg 1;whnf
 rw[AA zaa]
 conv=>arg 1;whnf
 rw[AA zaa]
 conv=>arg 1;whnf
 rw[AA zaa]
 conv=>arg 1;whnf
 rw[AA zaa]
 conv=>arg 1;whnf
 rw[AA zaa]
 conv=>arg 1;whnf
 rw[AA zaa]
 conv=>arg 1;whnf
 rw[AA zaa]
 conv=>arg 1;whnf
 rw[AA zaa]
 conv=>arg 1;whnf
 rw[AA zaa]
 conv=>arg 1;whnf
 rw[AA zaa]
 conv=>arg 1;whnf
 rw[AA zaa]
 conv=>arg 1;whnf
 rw[AA zaa]
 conv=>arg 1;whnf
 rcases AL (k'%48) 44 with hc0|hc0
 ·rw[ER zaa]
  conv=>arg 1;whnf
  rw[AA zaa]
  conv=>arg 1;whnf
  rw[AA zaa]
  conv=>arg 1;whnf
  rw[AA zaa]
  conv=>arg 1;whnf
  try dsimp -iota -beta -eta -zeta only
  rw[Ei zaa];rw[Ez zaa];rw[AU];rw[FO _ _ A8];refine tw ?_;obtain⟨y11,y21_1,y31_2,⟨h1_3,h1_4⟩,yy1⟩:=Dc s 30 (n%1073741824%4) [] [] [List.take (n%1073741824/4%3).toNat (List.take (Int.toNat 60) b)] (m%1073741824) (List.take (Int.toNat 60) b) hi zaH A8 A8;refine Am yy1 ?_;refine hP _ ⟨30,[n%1073741824%4],[(y11,y21_1,y31_2)],[],[List.take (n%1073741824/4%3).toNat (List.take (Int.toNat 60) b)],?_,rfl⟩;exact BX
 refine tw ?_
 rcases AL (k'%48) 45 with hc2|hc2
 ·rw[ER zaa]
  conv=>arg 1;whnf
  rw[AA zaa]
  conv=>arg 1;whnf
  rw[Ez zaa];rw[Aw zaa];rw[Ae]
  conv=>arg 1;whnf
  rw[AA zaa]
  conv=>arg 1;whnf
  rw[Ez zaa]
  rcases AY 0 (n%1073741824%4) with hc3|hc3
  ·refine tw ?_;obtain⟨y14,y24_1,y34_2,⟨h4_3,h4_4⟩,yy4⟩:=Dc s 32 3 [] [] [] (m%1073741824) (List.take (Int.toNat 60) b) hi zaH A8 A8;refine Am yy4 ?_;refine hP _ ⟨32,[3],[(y14,y24_1,y34_2)],[],[],?_,rfl⟩;exact BX
  refine tw ?_;obtain⟨y15,y25_1,y35_2,⟨h5_3,h5_4⟩,yy5⟩:=Dc s 31 (2+n%1073741824%2) [] [] [] (m%1073741824) (List.take (Int.toNat 60) b) hi zaH A8 A8;refine Am yy5 ?_;refine hP _ ⟨31,[2+n%1073741824%2],[(y15,y25_1,y35_2)],[],[],?_,rfl⟩;exact BX
 refine tw ?_
 rcases AL (k'%48) 46 with hc6|hc6
 ·refine tw ?_;obtain⟨y17,y27_1,y37_2,⟨h7_3,h7_4⟩,yy7⟩:=Dc s 33 3 [] [1+n%1073741824%6,n%1073741824%40,n%1073741824/5%40] [] (m%1073741824) (List.take (Int.toNat 60) b) hi zaH A8 A8;refine Am yy7 ?_;refine hP _ ⟨33,[3],[(y17,y27_1,y37_2)],[1+n%1073741824%6,n%1073741824%40,n%1073741824/5%40],[],?_,rfl⟩;exact BX
 refine tw ?_
 rcases AY 0 (n%1073741824%4) with hc8|hc8
 ·refine tw ?_;refine hP _ ⟨1,[],[],[n%1073741824%2],[],?_,rfl⟩;exact BX
 refine tw ?_;refine hP _ ⟨2,[],[],[n%1073741824%2],[],?_,rfl⟩;exact BX
end
section
attribute [local irreducible] Cj Dt D9 DT DK BH Du Ey Fh FD Et D7 CV Df DX and' Dk DU CG Ba Bl CJ CS BK BM BB BG Dv G7 Dw EM Dl Bh CO Bz C9 Bo BD Bi BO Be BZ Dx Bf DL Bd BI D6 Dy fits Dz Dn AZ Ap BL
attribute [local irreducible] E5 CP Bq nameB ES Em Ar FK En FH Eu Fe CE IU Ej Gf GV Ee Gp FC JL JZ Ed
theorem A3B(hi:Kp a k s)(hb:b.length<=140737488355328):Ah E0 (.call 23 [av s,.i k',.i n,.i m,.sl .u8 b] []) fun r=>∃(c:Int) (hs:List Int) (az:List (El Aq)) (is:List Int) (bs:List (List UInt8)),(Few hs az is bs)/\r=some (.ret (rq c hs az is bs) []):=by
 rcases(by omega:k'%48<=11\/12<=k'%48/\k'%48<=22\/23<=k'%48/\k'%48<=31\/32<=k'%48/\k'%48<=43\/44<=k'%48) with h|h|h|h|h
 ·exact xm s k' n m b hi zaa hb
 ·exact xn s k' n m b hi zaa hb
 ·exact xq s k' n m b hi zaa hb
 ·exact xu s k' n m b hi zaa hb
 ·exact xw s k' n m b hi zaa hb
end
section
attribute [local irreducible] Cj Dt D9 DT DK BH Du Ey Fh FD Et D7 CV Df DX and' Dk DU CG Ba Bl CJ CS BK BM BB BG Dv G7 Dw EM Dl Bh CO Bz C9 Bo BD Bi BO Be BZ Dx Bf DL Bd BI D6 Dy fits Dz Dn AZ Ap BL
attribute [local irreducible] E5 CP Bq nameB ES Em Ar FK En FH Eu Fe CE IU Ej Gf GV Ee Gp FC JL JZ Ed
theorem OX(hi:Kp a k s)(hk:k<=900)(hR:Rok c hs az is bs)(hA:alw s c hs):Ah E0 (.call 208 [av s,.i lo,rq c hs az is bs] []) fun r=>∃(t:MS) (e:Int) (is':List Int) (bs':List (List UInt8)),Kp a (k+1) t/\r=some (.ret (.tup [av t,rp e is' bs' []]) []):=by
 obtain⟨n,hsh,hbl⟩:=hR.sh
 have um:=hR.few.bm
 rcases uZ hsh with rfl|rfl|rfl|rfl|rfl|rfl|rfl|rfl|rfl|rfl|rfl|rfl|rfl|rfl|rfl|rfl|rfl|rfl|rfl|rfl|rfl|rfl|rfl|rfl|rfl|rfl|rfl|rfl|rfl|rfl|rfl|rfl
 ·have e:some ((0:Nat),(0:Nat),(1:Nat),(0:Int))=some (hs.length,az.length,is.length,n):=hsh
  simp only[Option.some.injEq,Prod.mk.injEq] at e
  obtain⟨e1,e2,e3,e4⟩:=e
  obtain rfl:=EG e1
  obtain rfl:=EG e2
  obtain⟨ia,rfl⟩:=EH e3
  obtain rfl:=EG (l:=bs) zaa
  exact xU s lo ia hi hk (hR.im ia zao)
 ·have e:some ((0:Nat),(0:Nat),(1:Nat),(0:Int))=some (hs.length,az.length,is.length,n):=hsh
  simp only[Option.some.injEq,Prod.mk.injEq] at e
  obtain⟨e1,e2,e3,e4⟩:=e
  obtain rfl:=EG e1
  obtain rfl:=EG e2
  obtain⟨ia,rfl⟩:=EH e3
  obtain rfl:=EG (l:=bs) zaa
  exact xW s lo ia hi hk (hR.im ia zao)
 ·have e:some ((0:Nat),(0:Nat),(0:Nat),(0:Int))=some (hs.length,az.length,is.length,n):=hsh
  simp only[Option.some.injEq,Prod.mk.injEq] at e
  obtain⟨e1,e2,e3,e4⟩:=e
  obtain rfl:=EG e1
  obtain rfl:=EG e2
  obtain rfl:=EG e3
  obtain rfl:=EG (l:=bs) zaa
  exact xX s lo  hi hk
 ·have e:some ((0:Nat),(0:Nat),(2:Nat),(0:Int))=some (hs.length,az.length,is.length,n):=hsh
  simp only[Option.some.injEq,Prod.mk.injEq] at e
  obtain⟨e1,e2,e3,e4⟩:=e
  obtain rfl:=EG e1
  obtain rfl:=EG e2
  obtain⟨ia,ib,rfl⟩:=MO e3
  obtain rfl:=EG (l:=bs) zaa
  exact xY s lo ia ib hi hk (hR.im ia zao) (hR.im ib zao)
 ·have e:some ((0:Nat),(0:Nat),(1:Nat),(2:Int))=some (hs.length,az.length,is.length,n):=hsh
  simp only[Option.some.injEq,Prod.mk.injEq] at e
  obtain⟨e1,e2,e3,e4⟩:=e
  obtain rfl:=EG e1
  obtain rfl:=EG e2
  obtain⟨ia,rfl⟩:=EH e3
  obtain⟨ba,bb,rfl⟩:=MO (l:=bs) zaa;exact xZ s lo ia ba bb hi hk (hR.im ia zao) (hR.bm ba zao) (hR.bm bb zao)
 ·have e:some ((0:Nat),(0:Nat),(1:Nat),(1:Int))=some (hs.length,az.length,is.length,n):=hsh
  simp only[Option.some.injEq,Prod.mk.injEq] at e
  obtain⟨e1,e2,e3,e4⟩:=e
  obtain rfl:=EG e1
  obtain rfl:=EG e2
  obtain⟨ia,rfl⟩:=EH e3
  obtain⟨ba,rfl⟩:=EH (l:=bs) zaa;exact xe s lo ia ba hi hk (hR.im ia zao) (hR.bm ba zao)
 ·have e:some ((0:Nat),(0:Nat),(1:Nat),(0:Int))=some (hs.length,az.length,is.length,n):=hsh
  simp only[Option.some.injEq,Prod.mk.injEq] at e
  obtain⟨e1,e2,e3,e4⟩:=e
  obtain rfl:=EG e1
  obtain rfl:=EG e2
  obtain⟨ia,rfl⟩:=EH e3
  obtain rfl:=EG (l:=bs) zaa
  exact xg s lo ia hi hk (hR.im ia zao)
 ·have e:some ((1:Nat),(1:Nat),(3:Nat),(3:Int))=some (hs.length,az.length,is.length,n):=hsh
  simp only[Option.some.injEq,Prod.mk.injEq] at e
  obtain⟨e1,e2,e3,e4⟩:=e
  obtain⟨hA1,rfl⟩:=EH e1
  obtain⟨⟨ya,yb,yc⟩,rfl⟩:=EH e2
  obtain⟨ia,ib,ic,rfl⟩:=aI e3
  obtain⟨ba,bb,bc,rfl⟩:=aI (l:=bs) zaa;exact xk s lo hA1 ia ib ic ya yb yc ba bb bc hi hk (hR.hm hA1 zao) (hR.im ia zao) (hR.im ib zao) (hR.im ic zao) (hR.bm ba zao) (hR.bm bb zao) (hR.bm bc zao) ((hA.1 _ rfl).1 rfl)
 ·have e:some ((1:Nat),(1:Nat),(3:Nat),(3:Int))=some (hs.length,az.length,is.length,n):=hsh
  simp only[Option.some.injEq,Prod.mk.injEq] at e
  obtain⟨e1,e2,e3,e4⟩:=e
  obtain⟨hA1,rfl⟩:=EH e1
  obtain⟨⟨ya,yb,yc⟩,rfl⟩:=EH e2
  obtain⟨ia,ib,ic,rfl⟩:=aI e3
  obtain⟨ba,bb,bc,rfl⟩:=aI (l:=bs) zaa;exact pM s lo hA1 ia ib ic ya yb yc ba bb bc hi hk (hR.hm hA1 zao) (hR.im ia zao) (hR.im ib zao) (hR.im ic zao) (hR.bm ba zao) (hR.bm bb zao) (hR.bm bc zao) ((hA.1 _ rfl).2.1 zaa)
 ·have e:some ((1:Nat),(1:Nat),(0:Nat),(2:Int))=some (hs.length,az.length,is.length,n):=hsh
  simp only[Option.some.injEq,Prod.mk.injEq] at e
  obtain⟨e1,e2,e3,e4⟩:=e
  obtain⟨hA1,rfl⟩:=EH e1
  obtain⟨⟨ya,yb,yc⟩,rfl⟩:=EH e2
  obtain rfl:=EG e3
  obtain⟨ba,bb,rfl⟩:=MO (l:=bs) zaa;exact pR s lo hA1 ya yb yc ba bb hi hk (hR.hm hA1 zao) (hR.bm ba zao) (hR.bm bb zao) ((hA.1 _ rfl).2.1 zaa)
 ·have e:some ((0:Nat),(0:Nat),(1:Nat),(0:Int))=some (hs.length,az.length,is.length,n):=hsh
  simp only[Option.some.injEq,Prod.mk.injEq] at e
  obtain⟨e1,e2,e3,e4⟩:=e
  obtain rfl:=EG e1
  obtain rfl:=EG e2
  obtain⟨ia,rfl⟩:=EH e3
  obtain rfl:=EG (l:=bs) zaa
  exact pV s lo ia hi hk (hR.im ia zao)
 ·have e:some ((1:Nat),(1:Nat),(0:Nat),(0:Int))=some (hs.length,az.length,is.length,n):=hsh
  simp only[Option.some.injEq,Prod.mk.injEq] at e
  obtain⟨e1,e2,e3,e4⟩:=e
  obtain⟨hA1,rfl⟩:=EH e1
  obtain⟨⟨ya,yb,yc⟩,rfl⟩:=EH e2
  obtain rfl:=EG e3
  obtain rfl:=EG (l:=bs) zaa
  exact pX s lo hA1 ya yb yc hi hk (hR.hm hA1 zao) ((hA.1 _ rfl).2.1 zaa)
 ·have e:some ((1:Nat),(1:Nat),(0:Nat),(1:Int))=some (hs.length,az.length,is.length,n):=hsh
  simp only[Option.some.injEq,Prod.mk.injEq] at e
  obtain⟨e1,e2,e3,e4⟩:=e
  obtain⟨hA1,rfl⟩:=EH e1
  obtain⟨⟨ya,yb,yc⟩,rfl⟩:=EH e2
  obtain rfl:=EG e3
  obtain⟨ba,rfl⟩:=EH (l:=bs) zaa;exact pg s lo hA1 ya yb yc ba hi hk (hR.hm hA1 zao) (hR.bm ba zao) ((hA.1 _ rfl).2.1 zaa)
 ·have e:some ((1:Nat),(1:Nat),(2:Nat),(1:Int))=some (hs.length,az.length,is.length,n):=hsh
  simp only[Option.some.injEq,Prod.mk.injEq] at e
  obtain⟨e1,e2,e3,e4⟩:=e
  obtain⟨hA1,rfl⟩:=EH e1
  obtain⟨⟨ya,yb,yc⟩,rfl⟩:=EH e2
  obtain⟨ia,ib,rfl⟩:=MO e3
  obtain⟨ba,rfl⟩:=EH (l:=bs) zaa;exact pz s lo hA1 ia ib ya yb yc ba hi hk (hR.hm hA1 zao) (hR.im ia zao) (hR.im ib zao) (hR.bm ba zao) ((hA.1 _ rfl).2.1 zaa)
 ·have e:some ((0:Nat),(0:Nat),(1:Nat),(0:Int))=some (hs.length,az.length,is.length,n):=hsh
  simp only[Option.some.injEq,Prod.mk.injEq] at e
  obtain⟨e1,e2,e3,e4⟩:=e
  obtain rfl:=EG e1
  obtain rfl:=EG e2
  obtain⟨ia,rfl⟩:=EH e3
  obtain rfl:=EG (l:=bs) zaa
  exact qA s lo ia hi hk (hR.im ia zao)
 ·have e:some ((0:Nat),(0:Nat),(6:Nat),(-1:Int))=some (hs.length,az.length,is.length,n):=hsh
  simp only[Option.some.injEq,Prod.mk.injEq] at e
  obtain⟨e1,e2,e3,e4⟩:=e
  obtain rfl:=EG e1
  obtain rfl:=EG e2
  obtain⟨ia,ib,ic,id,ie,ig,rfl⟩:=A5i e3;exact qB s lo ia ib ic id ie ig bs hi hk (hR.im ia zao) (hR.im ib zao) (hR.im ic zao) (hR.im id zao) (hR.im ie zao) (hR.im ig zao) zaa um
 ·have e:some ((1:Nat),(1:Nat),(2:Nat),(1:Int))=some (hs.length,az.length,is.length,n):=hsh
  simp only[Option.some.injEq,Prod.mk.injEq] at e
  obtain⟨e1,e2,e3,e4⟩:=e
  obtain⟨hA1,rfl⟩:=EH e1
  obtain⟨⟨ya,yb,yc⟩,rfl⟩:=EH e2
  obtain⟨ia,ib,rfl⟩:=MO e3
  obtain⟨ba,rfl⟩:=EH (l:=bs) zaa;exact qC s lo hA1 ia ib ya yb yc ba hi hk (hR.hm hA1 zao) (hR.im ia zao) (hR.im ib zao) (hR.bm ba zao)
 ·have e:some ((0:Nat),(0:Nat),(1:Nat),(3:Int))=some (hs.length,az.length,is.length,n):=hsh
  simp only[Option.some.injEq,Prod.mk.injEq] at e
  obtain⟨e1,e2,e3,e4⟩:=e
  obtain rfl:=EG e1
  obtain rfl:=EG e2
  obtain⟨ia,rfl⟩:=EH e3
  obtain⟨ba,bb,bc,rfl⟩:=aI (l:=bs) zaa;exact qE s lo ia ba bb bc hi hk (hR.im ia zao) (hR.bm ba zao) (hR.bm bb zao) (hR.bm bc zao)
 ·have e:some ((0:Nat),(0:Nat),(1:Nat),(0:Int))=some (hs.length,az.length,is.length,n):=hsh
  simp only[Option.some.injEq,Prod.mk.injEq] at e
  obtain⟨e1,e2,e3,e4⟩:=e
  obtain rfl:=EG e1
  obtain rfl:=EG e2
  obtain⟨ia,rfl⟩:=EH e3
  obtain rfl:=EG (l:=bs) zaa
  exact qF s lo ia hi hk (hR.im ia zao)
 ·have e:some ((1:Nat),(1:Nat),(4:Nat),(2:Int))=some (hs.length,az.length,is.length,n):=hsh
  simp only[Option.some.injEq,Prod.mk.injEq] at e
  obtain⟨e1,e2,e3,e4⟩:=e
  obtain⟨hA1,rfl⟩:=EH e1
  obtain⟨⟨ya,yb,yc⟩,rfl⟩:=EH e2
  obtain⟨ia,ib,ic,id,rfl⟩:=A5h e3
  obtain⟨ba,bb,rfl⟩:=MO (l:=bs) zaa;exact qG s lo hA1 ia ib ic id ya yb yc ba bb hi hk (hR.hm hA1 zao) (hR.im ia zao) (hR.im ib zao) (hR.im ic zao) (hR.im id zao) (hR.bm ba zao) (hR.bm bb zao)
 ·have e:some ((1:Nat),(1:Nat),(1:Nat),(0:Int))=some (hs.length,az.length,is.length,n):=hsh
  simp only[Option.some.injEq,Prod.mk.injEq] at e
  obtain⟨e1,e2,e3,e4⟩:=e
  obtain⟨hA1,rfl⟩:=EH e1
  obtain⟨⟨ya,yb,yc⟩,rfl⟩:=EH e2
  obtain⟨ia,rfl⟩:=EH e3
  obtain rfl:=EG (l:=bs) zaa
  exact qH s lo hA1 ia ya yb yc hi hk (hR.hm hA1 zao) (hR.im ia zao)
 ·have e:some ((2:Nat),(1:Nat),(1:Nat),(1:Int))=some (hs.length,az.length,is.length,n):=hsh
  simp only[Option.some.injEq,Prod.mk.injEq] at e
  obtain⟨e1,e2,e3,e4⟩:=e
  obtain⟨hA1,hB1,rfl⟩:=MO e1
  obtain⟨⟨ya,yb,yc⟩,rfl⟩:=EH e2
  obtain⟨ia,rfl⟩:=EH e3
  obtain⟨ba,rfl⟩:=EH (l:=bs) zaa;exact qI s lo hA1 hB1 ia ya yb yc ba hi hk (hR.hm hA1 zao) (hR.hm hB1 zao) (hR.im ia zao) (hR.bm ba zao) (hA.2 _ _ rfl)
 ·have e:some ((2:Nat),(1:Nat),(2:Nat),(0:Int))=some (hs.length,az.length,is.length,n):=hsh
  simp only[Option.some.injEq,Prod.mk.injEq] at e
  obtain⟨e1,e2,e3,e4⟩:=e
  obtain⟨hA1,hB1,rfl⟩:=MO e1
  obtain⟨⟨ya,yb,yc⟩,rfl⟩:=EH e2
  obtain⟨ia,ib,rfl⟩:=MO e3
  obtain rfl:=EG (l:=bs) zaa
  exact qJ s lo hA1 hB1 ia ib ya yb yc hi hk (hR.hm hA1 zao) (hR.hm hB1 zao) (hR.im ia zao) (hR.im ib zao) (hA.2 _ _ rfl)
 ·have e:some ((2:Nat),(1:Nat),(0:Nat),(0:Int))=some (hs.length,az.length,is.length,n):=hsh
  simp only[Option.some.injEq,Prod.mk.injEq] at e
  obtain⟨e1,e2,e3,e4⟩:=e
  obtain⟨hA1,hB1,rfl⟩:=MO e1
  obtain⟨⟨ya,yb,yc⟩,rfl⟩:=EH e2
  obtain rfl:=EG e3
  obtain rfl:=EG (l:=bs) zaa
  exact qK s lo hA1 hB1 ya yb yc hi hk (hR.hm hA1 zao) (hR.hm hB1 zao) (hA.2 _ _ rfl)
 ·have e:some ((2:Nat),(1:Nat),(0:Nat),(1:Int))=some (hs.length,az.length,is.length,n):=hsh
  simp only[Option.some.injEq,Prod.mk.injEq] at e
  obtain⟨e1,e2,e3,e4⟩:=e
  obtain⟨hA1,hB1,rfl⟩:=MO e1
  obtain⟨⟨ya,yb,yc⟩,rfl⟩:=EH e2
  obtain rfl:=EG e3
  obtain⟨ba,rfl⟩:=EH (l:=bs) zaa;exact qL s lo hA1 hB1 ya yb yc ba hi hk (hR.hm hA1 zao) (hR.hm hB1 zao) (hR.bm ba zao) (hA.2 _ _ rfl)
 ·have e:some ((2:Nat),(1:Nat),(0:Nat),(1:Int))=some (hs.length,az.length,is.length,n):=hsh
  simp only[Option.some.injEq,Prod.mk.injEq] at e
  obtain⟨e1,e2,e3,e4⟩:=e
  obtain⟨hA1,hB1,rfl⟩:=MO e1
  obtain⟨⟨ya,yb,yc⟩,rfl⟩:=EH e2
  obtain rfl:=EG e3
  obtain⟨ba,rfl⟩:=EH (l:=bs) zaa;exact qM s lo hA1 hB1 ya yb yc ba hi hk (hR.hm hA1 zao) (hR.hm hB1 zao) (hR.bm ba zao) (hA.2 _ _ rfl)
 ·have e:some ((2:Nat),(1:Nat),(0:Nat),(0:Int))=some (hs.length,az.length,is.length,n):=hsh
  simp only[Option.some.injEq,Prod.mk.injEq] at e
  obtain⟨e1,e2,e3,e4⟩:=e
  obtain⟨hA1,hB1,rfl⟩:=MO e1
  obtain⟨⟨ya,yb,yc⟩,rfl⟩:=EH e2
  obtain rfl:=EG e3
  obtain rfl:=EG (l:=bs) zaa
  exact qN s lo hA1 hB1 ya yb yc hi hk (hR.hm hA1 zao) (hR.hm hB1 zao) (hA.2 _ _ rfl)
 ·have e:some ((2:Nat),(1:Nat),(0:Nat),(0:Int))=some (hs.length,az.length,is.length,n):=hsh
  simp only[Option.some.injEq,Prod.mk.injEq] at e
  obtain⟨e1,e2,e3,e4⟩:=e
  obtain⟨hA1,hB1,rfl⟩:=MO e1
  obtain⟨⟨ya,yb,yc⟩,rfl⟩:=EH e2
  obtain rfl:=EG e3
  obtain rfl:=EG (l:=bs) zaa
  exact qO s lo hA1 hB1 ya yb yc hi hk (hR.hm hA1 zao) (hR.hm hB1 zao) (hA.2 _ _ rfl)
 ·have e:some ((1:Nat),(1:Nat),(0:Nat),(1:Int))=some (hs.length,az.length,is.length,n):=hsh
  simp only[Option.some.injEq,Prod.mk.injEq] at e
  obtain⟨e1,e2,e3,e4⟩:=e
  obtain⟨hA1,rfl⟩:=EH e1
  obtain⟨⟨ya,yb,yc⟩,rfl⟩:=EH e2
  obtain rfl:=EG e3
  obtain⟨ba,rfl⟩:=EH (l:=bs) zaa;exact qP s lo hA1 ya yb yc ba hi hk (hR.hm hA1 zao) (hR.bm ba zao) ((hA.1 _ rfl).2.2 rfl)
 ·have e:some ((1:Nat),(1:Nat),(0:Nat),(0:Int))=some (hs.length,az.length,is.length,n):=hsh
  simp only[Option.some.injEq,Prod.mk.injEq] at e
  obtain⟨e1,e2,e3,e4⟩:=e
  obtain⟨hA1,rfl⟩:=EH e1
  obtain⟨⟨ya,yb,yc⟩,rfl⟩:=EH e2
  obtain rfl:=EG e3
  obtain rfl:=EG (l:=bs) zaa
  exact qQ s lo hA1 ya yb yc hi hk (hR.hm hA1 zao)
 ·have e:some ((1:Nat),(1:Nat),(0:Nat),(0:Int))=some (hs.length,az.length,is.length,n):=hsh
  simp only[Option.some.injEq,Prod.mk.injEq] at e
  obtain⟨e1,e2,e3,e4⟩:=e
  obtain⟨hA1,rfl⟩:=EH e1
  obtain⟨⟨ya,yb,yc⟩,rfl⟩:=EH e2
  obtain rfl:=EG e3
  obtain rfl:=EG (l:=bs) zaa
  exact qR s lo hA1 ya yb yc hi hk (hR.hm hA1 zao)
 ·have e:some ((1:Nat),(1:Nat),(3:Nat),(0:Int))=some (hs.length,az.length,is.length,n):=hsh
  simp only[Option.some.injEq,Prod.mk.injEq] at e
  obtain⟨e1,e2,e3,e4⟩:=e
  obtain⟨hA1,rfl⟩:=EH e1
  obtain⟨⟨ya,yb,yc⟩,rfl⟩:=EH e2
  obtain⟨ia,ib,ic,rfl⟩:=aI e3
  obtain rfl:=EG (l:=bs) zaa
  exact qU s lo hA1 ia ib ic ya yb yc hi hk (hR.hm hA1 zao) (hR.im ia zao) (hR.im ib zao) (hR.im ic zao)
theorem aJ(hi:Kp a k s)(hk:k<=900)(hR:Rok c hs az is bs):Ah E0 (.call 206 [av s,rq c hs az is bs] []) fun r=>∃ b:Bool,(b=true->alw s c hs)/\r=some (.ret (.b b) []):=by
 obtain⟨n,hsh,_⟩:=hR.sh
 obtain⟨_,h2,h3,h4⟩:=A1m hsh
 dsimp only at h2 h3 h4
 rcases(by omega:0=hs.length\/1=hs.length\/2=hs.length) with h|h|h
 ·obtain rfl:=EG h
  exact⟨true,fun _=>⟨fun h e=>(by cases e),fun h g e=>(by cases e)⟩,oV s c az is bs hi zaa⟩
 ·obtain⟨x,rfl⟩:=EH h;obtain⟨b,hb,e⟩:=oW s c x az is bs hi (h3 rfl);exact⟨b,fun q=>⟨fun h e=>(by cases e;exact hb q),fun h g e=>(by cases e)⟩,e⟩
 ·obtain⟨x,y,rfl⟩:=MO h;obtain⟨b,hb,e⟩:=oZ s c x y az is bs hi (h4 rfl);exact⟨b,fun q=>⟨fun h e=>(by cases e),fun h g e=>(by cases e;exact hb q)⟩,e⟩
theorem UW(hi:Kp a k s)(hR:Rok c hs az is bs)(hz:0<az.length)(hlo:0<=lo/\lo<=4):Ah E0 (.call 207 [av s,.i lo,rq c hs az is bs] []) fun r=>∃(t:MS) (e:Int),(Kp a k t)/\r=some (.ret (.tup [av t,.i e]) []):=by
 obtain⟨n,hsh,_⟩:=hR.sh
 have h1:=(A1m hsh).1
 dsimp only at h1
 match hs,az,hR,hz,h1 with
 | h::hs,(y1,y2,y3)::az,hR,_,_=>exact kL s lo c h hs y1 y2 y3 az is bs hi hR.few hlo (hR.am (y1,y2,y3) List.mem_cons_self)
 | [],_::_,_,_,h1=>simp at h1
theorem RY(hi:Kp a k s)(hk:k<=900)(hR:Rok c hs az is bs)(hz:0<az.length):Ah E0 (.call 209 [av s,rq c hs az is bs] []) fun r=>∃(t:MS) (ns:List (List UInt8)),(Kp a (k+1) t)/\r=some (.ret (.tup [av t,.sl (.sl .u8) ns]) []):=by
 match az,hR,hz with
 | (y1,y2,y3)::az,hR,_=>exact dh s c hs y1 y2 y3 az is bs hi hk hR.few (hR.am (y1,y2,y3) List.mem_cons_self)
theorem qX(hi:Kp a k s)(hk:k<=890)(hf:Few hs az is bs):Ah E0 (.call 158 [av s,.i lo,rq c hs az is bs] []) fun r=>∃(t:MS) (e:Int) (is':List Int) (bs' ns':List (List UInt8)),Kp a (k+2) t/\r=some (.ret (.tup [av t,rp e is' bs' ns']) []):=by
 have hkk:=hi.kk
 refine CU fun P hP=>tw ?_
 obtain⟨e0,h0_1,yy0⟩:=kV c hs az is bs A8;refine Am yy0 ?_
 rcases AX e0 0 with hc1|hc1
 ·refine tw ?_;rw[BA ..];refine tw ?_;exact hP _ ⟨s,e0,[],[],[],clo,rfl⟩
 subst hc1
 replace h0_1:=h0_1 rfl
 refine tw ?_
 rcases AY lo 0 with hc2|hc2
 ·refine tw ?_;rw[BA ..];refine tw ?_;exact hP _ ⟨s,13,[],[],[],clo,rfl⟩
 refine tw ?_
 rcases AY 4 lo with hc3|hc3
 ·refine tw ?_;rw[BA ..];refine tw ?_;exact hP _ ⟨s,13,[],[],[],clo,rfl⟩
 refine tw ?_
 rcases AX c 1 with hc4|hc4
 ·refine tw ?_
  rcases bo (s.st) with hc5|hc5
  ·rw[hc5];refine tw ?_;obtain⟨b6,h6_1,yy6⟩:=aJ {s with st:=true} c hs az is bs za1 A8 A8;refine Am yy6 ?_
   rcases bo b6 with rfl|rfl
   ·replace h6_1:=h6_1 rfl
    refine tw ?_
    rcases AY 0 (↑az.length) with hc8|hc8
    ·refine tw ?_;obtain⟨t9,e9_1,h9_2,yy9⟩:=UW {s with st:=true} lo c hs az is bs za1 A8 A8 A8;refine Am yy9 ?_
     rcases AX e9_1 0 with hc10|hc10
     ·refine tw ?_;rw[BA ..];refine tw ?_;exact hP _ ⟨t9,e9_1,[],[],[],clo,rfl⟩
     subst hc10;refine tw ?_;obtain⟨t11,e11_1,is'11_2,bs'11_3,h11_4,yy11⟩:=OX {s with st:=true} lo c hs az is bs za1 A8 A8 A8;refine Am yy11 ?_
     rcases AL e11_1 0 with hc12|hc12
     ·subst hc12;refine tw ?_;obtain⟨t13,ns13_1,h13_2,yy13⟩:=RY t11 c hs az is bs h11_4 A8 A8 A8;refine Am yy13 ?_;exact hP _ ⟨t13,0,is'11_2,bs'11_3,ns13_1,clo,rfl⟩
     refine tw ?_;exact hP _ ⟨t11,e11_1,is'11_2,bs'11_3,[],clo,rfl⟩
    refine tw ?_;obtain⟨t14,e14_1,is'14_2,bs'14_3,h14_4,yy14⟩:=OX {s with st:=true} lo c hs az is bs za1 A8 A8 A8;refine Am yy14 ?_
    rcases AL e14_1 0 with hc15|hc15
    ·subst hc15;refine tw ?_;exact hP _ ⟨t14,0,is'14_2,bs'14_3,[],clo,rfl⟩
    refine tw ?_;exact hP _ ⟨t14,e14_1,is'14_2,bs'14_3,[],clo,rfl⟩
   refine tw ?_;rw[BA ..];refine tw ?_;refine hP _ ⟨{s with st:=true},7,[],[],[],?_,rfl⟩;exact(Kp.st_ hi zat).up zaa
  rw[hc5];refine tw ?_;rw[BA ..];refine tw ?_;refine hP _ ⟨{s with st:=false},28,[],[],[],?_,rfl⟩;exact(Kp.st_ hi zat).up zaa
 subst hc4;refine tw ?_;obtain⟨b16,h16_1,yy16⟩:=aJ s 1 hs az is bs hi A8 A8;refine Am yy16 ?_
 rcases bo b16 with rfl|rfl
 ·replace h16_1:=h16_1 rfl
  refine tw ?_
  rcases AY 0 (↑az.length) with hc18|hc18
  ·refine tw ?_;obtain⟨t19,e19_1,h19_2,yy19⟩:=UW s lo 1 hs az is bs hi A8 A8 A8;refine Am yy19 ?_
   rcases AX e19_1 0 with hc20|hc20
   ·refine tw ?_;rw[BA ..];refine tw ?_;exact hP _ ⟨t19,e19_1,[],[],[],clo,rfl⟩
   subst hc20;refine tw ?_;obtain⟨t21,e21_1,is'21_2,bs'21_3,h21_4,yy21⟩:=OX s lo 1 hs az is bs hi A8 A8 A8;refine Am yy21 ?_
   rcases AL e21_1 0 with hc22|hc22
   ·subst hc22;refine tw ?_;obtain⟨t23,ns23_1,h23_2,yy23⟩:=RY t21 1 hs az is bs h21_4 A8 A8 A8;refine Am yy23 ?_;exact hP _ ⟨t23,0,is'21_2,bs'21_3,ns23_1,clo,rfl⟩
   refine tw ?_;exact hP _ ⟨t21,e21_1,is'21_2,bs'21_3,[],clo,rfl⟩
  refine tw ?_;obtain⟨t24,e24_1,is'24_2,bs'24_3,h24_4,yy24⟩:=OX s lo 1 hs az is bs hi A8 A8 A8;refine Am yy24 ?_
  rcases AL e24_1 0 with hc25|hc25
  ·subst hc25;refine tw ?_;exact hP _ ⟨t24,0,is'24_2,bs'24_3,[],clo,rfl⟩
  refine tw ?_;exact hP _ ⟨t24,e24_1,is'24_2,bs'24_3,[],clo,rfl⟩
 refine tw ?_;rw[BA ..];refine tw ?_;exact hP _ ⟨s,7,[],[],[],clo,rfl⟩
end
end Go.Proofs.YtnhgnfdbdflhcaaGreatDoor
