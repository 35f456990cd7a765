/-
  Own texts, laid together for this claim: contracts of functions of the program and its references, used by the statements of this seat.
-/
import Derived.Test.YtnhgnfdbdflhcaaGreatDoorMtab
import Derived.Test.YtnhgnfdbdflhcaaGreatDoorMtae
import Derived.Test.YtnhgnfdbdflhcaaGreatDoorMtaf
import Derived.Test.YtnhgnfdbdflhcaaGreatDoorMtah
import Derived.Test.YtnhgnfdbdflhcaaGreatDoorMtai
import Derived.Test.YtnhgnfdbdflhcaaGreatDoorMtaj
import Derived.Test.YtnhgnfdbdflhcaaGreatDoorMtas
import Derived.Test.YtnhgnfdbdflhcaaGreatDoorMtav
import Derived.Test.YtnhgnfdbdflhcaaGreatDoorMtax
import Derived.Test.YtnhgnfdbdflhcaaGreatDoorMtbb
import Derived.Test.YtnhgnfdbdflhcaaGreatDoorMtbd
import Derived.Test.YtnhgnfdbdflhcaaGreatDoorMtbe
import Derived.Test.YtnhgnfdbdflhcaaGreatDoorMtbg
import Derived.Test.YtnhgnfdbdflhcaaGreatDoorMtbk
set_option linter.all false
set_option maxHeartbeats 40000000
set_option maxRecDepth 100000
namespace Go.Ax
open Go Go.Eng Go.RowKit
theorem pY{l:List (El Gp)}{i j n:Nat}(h:aV l)(hij:i<=j):aV (BM (BM [] (l.take i)) ((l.drop j).take n)):=by
 rw[Ag,Ag,List.nil_append]
 refine⟨by have:=h.1;simp;omega,fun y hy=>?_⟩
 rcases List.mem_append.1 hy with hy|hy
 ·exact h.2 y (List.mem_of_mem_take hy)
 ·exact h.2 y (List.mem_of_mem_drop (List.mem_of_mem_take hy))
theorem Kp.clear{a k:Int}{s:MS}(h:Kp a k s)(hk:k<=900){x0 x1 R x2 x3:List UInt8}(f0:x0.length=32)(f1:x1.length=32)(fR:R.length=32)(f2:x2.length<=32)(f3:x3.length<=32):Kp a (k+1) {s with sd:=[x0,R,x1],au:=[x2,[],x3,[]],ix:=[],l1:=0,l2:=5,l3:=100,l4:=0,l5:=0,l6:=1000,dr:=s.dr+1,ss:=BZ 3 (0,[],[],0,0,0,0,false),ob:=BZ 3 ((0,0,0,[],[]),([],[],[]),0),rl:=[],wl:=[]}:=by
 have h0:=h.kk
 have hd:=h.dr
 have h3:=A3W (n:=3) (x:=((0,[],[],0,0,0,0,false):El sesT)) (p:=Gz) zal ⟨by decide,by decide⟩
 have h4:=A3W (n:=3) (x:=(((0,0,0,[],[]),([],[],[]),0):El objT)) (p:=FZ) zal ⟨by decide,by decide,by decide,by decide,by decide,by decide,by decide⟩
 have e3:∀ {n:Nat},(n:Int)=3->n=3:=fun h=>zaa
 exact {h.up (k':=k+1) zaa with sdl:=rfl,sdm:=(by simp only[List.forall_mem_cons,List.not_mem_nil,false_implies,implies_true,and_true];exact⟨f0,fR,f1⟩),aul:=rfl,aum:=(by simp only[List.forall_mem_cons,List.not_mem_nil,false_implies,implies_true,and_true,List.length_nil];exact⟨f2,by decide,f3,by decide⟩),ixl:=zam,ixm:=zam,lk:=(show O7 0 5 100 0 0 1000 from by unfold O7;decide),dr:=zay,ssl:=e3 h3.1,ssm:=h3.2,obl:=e3 h4.1,obm:=h4.2,rl:=(by simp only[List.length_nil];omega),wl:=(by simp only[List.length_nil];omega)}
end Go.Ax
namespace Go.Proofs.YtnhgnfdbdflhcaaGreatDoor
open Go Go.Ax Go.Eng
variable {a k:Int}(s:MS)(h i1 g:Int)(hs:List Int)(i2:Int)(is:List Int)(bb:List UInt8)(az:List (El AY))(bs:List (List UInt8))
section
attribute [local irreducible] Cc Dn D7 DU DD BA Dp F7 FY FD Ez Ci CS DK DV and' DW DL C9 BR Bh CB CG BG BI Aw BC Dq Fh Dt ER DX Bl CE Bv Bz Bi Az Bg BK Bj BO Du Bc DF BZ BM Cj Di fits Dv Dk Ac Am BH
attribute [local irreducible] Dw CJ Be nameB EL Eh Ar ET E8 Ea ES F8 BV GX Eg Fv FU EE Fa Ej Ho I5 En
theorem pR(hi:Kp a k s)(hk:k<=900)(h1:0<=i1/\i1<=1099511627776):Ah E0 (.call 256 [av s,rq 16 hs az [i1] bs] []) fun r=>∃(t:MS) (e:Int) (is':List Int) (bs':List (List UInt8)),Kp a (k+1) t/\r=some (.ret (.tup [av t,rp e is' bs' []]) []):=by
 refine CU fun P hP=>tw ?_
 obtain(⟨t0,h0_1,⟨h0_2,h0_3,h0_4⟩,yy0⟩|⟨t0_5,h0_6,e0_7,h0_8,yy0⟩):=uQ s i1 hi A7
 ·refine Aq yy0 ?_;obtain⟨e1,c1_1,n1_2,d1_3,u1_4,l1_5,m1_6,t1_7,b1_8,⟨h1_9,h1_10,h1_11⟩,yy1⟩:=Iy t0 h0_1 h0_2 A7;refine Aq yy1 ?_;exact hP _ ⟨t0,0,[h0_1],[n1_2],A7,rfl⟩
 refine Aq yy0 ?_;rw[BL ..];refine tw ?_;exact hP _ ⟨s,e0_7,[],[],clo,rfl⟩
theorem pU(i3 i4 i5 i6:Int)(hs:List Int)(az:List (El AY))(bs:List (List UInt8))(hi:Kp a k s)(hk:k<=900)(h1:0<=i1/\i1<=1099511627776)(hb:bs.length<=8)(hm:∀ x∈bs,x.length<=2000):Ah E0 (.call 256 [av s,rq 17 hs az [i1,i2,i3,i4,i5,i6] bs] []) fun r=>∃(t:MS) (e:Int) (is':List Int) (bs':List (List UInt8)),Kp a (k+1) t/\r=some (.ret (.tup [av t,rp e is' bs' []]) []):=by
 refine CU fun P hP=>tw ?_
 obtain⟨t0,e0_1,is'0_2,bs'0_3,h0_4,yy0⟩:=jb s i1 i2 i3 i4 i5 i6 hs az bs hi A7 A7 A7 A7;refine Aq yy0 ?_;exact hP _ ⟨t0,e0_1,is'0_2,bs'0_3,A7,rfl⟩
theorem pV(y1:Int)(y2 y3 b1:List UInt8)(hi:Kp a k s)(hk:k<=900)(h1:0<=i1/\i1<=1099511627776)(hb:b1.length<=1024):Ah E0 (.call 256 [av s,rq 18 [h] [(y1,y2,y3)] [i1,i2] [b1]] []) fun r=>∃(t:MS) (e:Int) (is':List Int) (bs':List (List UInt8)),Kp a (k+1) t/\r=some (.ret (.tup [av t,rp e is' bs' []]) []):=by
 have hup:=hi.up (k':=k+1) zau
 refine CU fun P hP=>tw ?_
 rcases AL i1 y1 with hc0|hc0
 ·subst hc0;refine tw ?_;rw[BL ..];refine tw ?_;exact hP _ ⟨s,8,[],[],A7,rfl⟩
 refine tw ?_;obtain⟨l1,h1_1,yy1⟩:=U9 s h hup;refine Aq yy1 ?_
 obtain(⟨t2,h2_1,yy2⟩|⟨t2_2,e2_3,h2_4,yy2⟩):=jP s i1 l1 b1 i2 hup A7 A7 A7
 ·refine Aq yy2 ?_
  obtain(⟨h3_0,yy3⟩|⟨h3_1,yy3⟩):=Eb s t2 0
  ·refine Aq yy3 ?_;exact hP _ ⟨t2,0,[],[],A7,rfl⟩
  refine Aq yy3 ?_;exact hP _ ⟨s,0,[],[],A7,rfl⟩
 refine Aq yy2 ?_
 obtain(⟨h4_0,yy4⟩|⟨h4_1,yy4⟩):=Eb s t2_2 e2_3
 ·refine Aq yy4 ?_;exact hP _ ⟨t2_2,0,[],[],A7,rfl⟩
 refine Aq yy4 ?_;exact hP _ ⟨s,e2_3,[],[],A7,rfl⟩
theorem pW(b1 b2 b3:List UInt8)(hi:Kp a k s)(hk:k<=900)(h1:0<=i1/\i1<=1099511627776)(hb1:b1.length<=1024)(hb2:b2.length<=1024)(hb3:b3.length<=1024):Ah E0 (.call 256 [av s,rq 19 hs az [i1] [b1,b2,b3]] []) fun r=>∃(t:MS) (e:Int) (is':List Int) (bs':List (List UInt8)),Kp a (k+1) t/\r=some (.ret (.tup [av t,rp e is' bs' []]) []):=by
 have hup:=hi.up (k':=k+1) zau
 have hdl:=ik b1
 refine CU fun P hP=>tw ?_
 (rw[X4 b1 zaa];generalize F8 b1=D at *;obtain⟨⟨qk,qa,qt,qo,qu⟩,er⟩:=D;dsimp only[PI] at *)
 refine tw ?_
 rcases AX er 0 with hc0|hc0
 ·refine tw ?_;rw[BL ..];refine tw ?_;exact hP _ ⟨s,er,[],[],A7,rfl⟩
 subst hc0;refine tw ?_
 obtain(⟨t1,h1_1,yy1⟩|⟨t1_2,e1_3,h1_4,yy1⟩):=bC s i1 qk qa qt qo qu b2 b3 hup A7 A7 A7 A7 A7
 ·refine Aq yy1 ?_
  obtain(⟨h2_0,yy2⟩|⟨h2_1,yy2⟩):=Eb s t1 0
  ·refine Aq yy2 ?_;exact hP _ ⟨t1,0,[],[],A7,rfl⟩
  refine Aq yy2 ?_;exact hP _ ⟨s,0,[],[],A7,rfl⟩
 refine Aq yy1 ?_
 obtain(⟨h3_0,yy3⟩|⟨h3_1,yy3⟩):=Eb s t1_2 e1_3
 ·refine Aq yy3 ?_;exact hP _ ⟨t1_2,0,[],[],A7,rfl⟩
 refine Aq yy3 ?_;exact hP _ ⟨s,e1_3,[],[],A7,rfl⟩
theorem pX(hi:Kp a k s)(hk:k<=900)(h1:0<=i1/\i1<=1099511627776):Ah E0 (.call 256 [av s,rq 20 hs az [i1] bs] []) fun r=>∃(t:MS) (e:Int) (is':List Int) (bs':List (List UInt8)),Kp a (k+1) t/\r=some (.ret (.tup [av t,rp e is' bs' []]) []):=by
 have hup:=hi.up (k':=k+1) zau
 refine CU fun P hP=>tw ?_
 obtain⟨e0,c0_1,n0_2,d0_3,u0_4,l0_5,m0_6,t0_7,b0_8,⟨h0_9,h0_10,h0_11⟩,yy0⟩:=Iy s i1 hup A7;refine Aq yy0 ?_
 rcases AX e0 0 with hc1|hc1
 ·refine tw ?_;rw[BL ..];refine tw ?_;exact hP _ ⟨s,8,[],[],A7,rfl⟩
 subst hc1
 replace h0_9:=h0_9 rfl
 refine tw ?_
 rcases AL c0_1 1 with hc2|hc2
 ·subst hc2;refine tw ?_;rw[BL ..];refine tw ?_;exact hP _ ⟨s,8,[],[],A7,rfl⟩
 refine tw ?_;exact hP _ ⟨s,0,[],[d0_3],A7,rfl⟩
theorem A0h(i3 i4:Int)(az:List (El AY))(b1 b2:List UInt8)(hi:Kp a k s)(hk:k<=900):Ah E0 (.call 257 [av s,rq 21 [h] az [i1,i2,i3,i4] [b1,b2]] []) fun r=>∃(t:MS) (e:Int) (is':List Int) (bs':List (List UInt8)),Kp a (k+1) t/\r=some (.ret (.tup [av t,rp e is' bs' []]) []):=by
 have hup:=hi.up (k':=k+1) zau
 have hxl:=hi.ixl
 have hxm:=hi.ixm
 refine CU fun P hP=>tw ?_
 obtain⟨x0,m0,g0⟩:=EY (l:=[i1,i2,i3,i4]) (i:=3) zah;rw[g0];refine tw ?_
 obtain(⟨d1,h1_1,yy1⟩|⟨e1_2,h1_3,yy1⟩):=A0b i1 i2 i3 x0 b1 b2
 ·refine Aq yy1 ?_;rw[Et (hl:=A7) (hx:=A7) ..];refine tw ?_
  rcases DJ 0 (Lu (Cc 256 i1) s.ix) with hc2|hc2
  ·refine tw ?_;rw[BL ..];refine tw ?_;exact hP _ ⟨s,21,[],[],A7,rfl⟩
  refine tw ?_
  rcases DJ 6 (↑s.ix.length) with hc3|hc3
  ·refine tw ?_;rw[BL ..];refine tw ?_;exact hP _ ⟨s,25,[],[],A7,rfl⟩
  refine tw ?_;refine hP _ ⟨{s with ix:=BM (BM [] s.ix) [(i1,i2,i3,x0,b2,b1,false,d1)]},0,[],[],?_,rfl⟩;exact {hup with ixl:=(zD hi.ixs zav zav).1,ixm:=(zD hi.ixs zav zav).2}
 refine Aq yy1 ?_;rw[BL ..];refine tw ?_;exact hP _ ⟨s,e1_2,[],[],A7,rfl⟩
theorem Pn(l:List Int)(n:Int)(hl:l.length<=100000):∀(q:Nat) (j:Int) (o:List Int),0<=j->j+q=l.length->(o.length:Int)<=j->Ah E0 (.loop 295 0 0 1 [(0,.sl .i64 l),(1,.i n),(5,.nm 0),(6,.i j)] [(0,some (.row 3 .i64 o))]) fun r=>∃ o:List Int,(o.length<=l.length)/\r=some (.fin (.exit 0) 0 [(5,.sl .i64 o)] [])
 | 0,j,o,h0,hj,ho=>by
  refine CU fun P hP=>?_
  refine tw ?_;exact hP _ ⟨o,A7,rfl⟩
 | q+1,j,o,h0,hj,ho=>by
  have ih:=fun o=>Pn l n hl q (j+1) o zaa zaa
  refine CU fun P hP=>?_
  refine tw ?_;obtain⟨x0,m0,g0⟩:=EY (l:=l) (i:=j) zaa;rw[g0];refine tw ?_
  rcases AX x0 n with hc1|hc1
  ·refine tw ?_;rw[g0];refine tw ?_;exact hP _ (ih _ (by first|omega|(rw[Ag,List.length_append];simp;omega)))
  subst hc1;refine tw ?_;exact hP _ (ih _ (by first|omega|(rw[Ag,List.length_append];simp;omega)))
theorem Tc(l:List Int)(n:Int)(hl:l.length<=100000):Ah E0 (.call 295 [.sl .i64 l,.i n] []) fun r=>∃ o:List Int,(o.length<=l.length)/\r=some (.ret (.sl .i64 o) []):=by
 refine CU fun P hP=>tw ?_
 obtain⟨o0,h0_1,yy0⟩:=Pn l n A7 (Int.toNat (↑l.length-(0))) 0 [] A7 zaa A7;refine Aq yy0 ?_;exact hP _ ⟨o0,A7,rfl⟩
theorem aW(l:List Int)(n:Int)(hl:l.length<=100000):Ah E0 (.call 296 [.sl .i64 l,.i n] []) fun r=>∃ o:List Int,(o.length<=l.length+1)/\r=some (.ret (.sl .i64 o) []):=by
 refine CU fun P hP=>tw ?_
 obtain⟨b0,yy0⟩:=Kw l n A7;refine Aq yy0 ?_
 rcases bo b0 with rfl|rfl
 ·refine tw ?_;exact hP _ ⟨l,A7,rfl⟩
 refine tw ?_;exact hP _ ⟨BM (BM [] l) [n],A7,rfl⟩
end
section
attribute [local irreducible] Cc Dn D7 DU DD BA Dp F7 FY FD Ez Ci CS DK DV and' DW DL C9 BR Bh CB CG BG BI Aw BC Dq Fh Dt ER DX Bl CE Bv Bz Bi Az Bg BK Bj BO Du Bc DF BZ BM Cj Di fits Dv Dk Ac Am BH
attribute [local irreducible] Dw CJ Be nameB EL Eh Ar ET E8 Ea ES F8 BV GX Eg Fv FU EE Fa Ej Ho I5 En
theorem pg(hi:Kp a k s)(hk:k<=900)(h1:0<=i1/\i1<=1099511627776):Ah E0 (.call 258 [av s,rq 22 [h] az [i1] bs] []) fun r=>∃(t:MS) (e:Int) (is':List Int) (bs':List (List UInt8)),Kp a (k+1) t/\r=some (.ret (.tup [av t,rp e is' bs' []]) []):=by
 have hup:=hi.up (k':=k+1) zau
 have hxl:=hi.ixl
 have hxm:=hi.ixm
 have hrl:=hi.rl
 have hwl:=hi.wl
 have hkk:=hi.kk
 have hx:=JL (256+i1) s.ix
 refine CU fun P hP=>tw ?_
 rw[Et (hl:=A7) (hx:=A7) ..];refine tw ?_
 rcases AZ (Lu (256+i1) s.ix) 0 with hc0|hc0
 ·refine tw ?_;rw[BL ..];refine tw ?_;exact hP _ ⟨s,7,[],[],A7,rfl⟩
 refine tw ?_;obtain⟨o1,h1_1,yy1⟩:=Tc s.rl i1 A7;refine Aq yy1 ?_;obtain⟨o2,h2_1,yy2⟩:=Tc s.wl i1 A7;refine Aq yy2 ?_;refine hP _ ⟨{s with ix:=BM (BM [] (List.take (Lu (256+i1) s.ix).toNat s.ix)) (List.take (Bj s.ix-(Lu (256+i1) s.ix+1)).toNat (List.drop (Lu (256+i1) s.ix+1).toNat s.ix)),rl:=o1,wl:=o2},0,[],[],?_,rfl⟩;exact {hup with ixl:=(pY hi.ixs zaa).1,ixm:=(pY hi.ixs zaa).2,rl:=zay,wl:=zay}
theorem ut(i1:Int)(bb:List UInt8)(az:List (El AY))(hi:Kp a k s)(hk:k<=900)(hz:0<=Lu g s.ix)(h1:0<=i1/\i1<=1099511627776)(hb:bb.length<=1024):Ah E0 (.call 263 [av s,rq 23 [h,g] az [i1] [bb]] []) fun r=>∃(t:MS) (e:Int) (is':List Int) (bs':List (List UInt8)),Kp a (k+1) t/\r=some (.ret (.tup [av t,rp e is' bs' []]) []):=by
 have hup:=hi.up (k':=k+1) zau
 have hxl:=hi.ixl
 have hxm:=hi.ixm
 have hrl:=hi.rl
 have hwl:=hi.wl
 have hkk:=hi.kk
 refine CU fun P hP=>tw ?_
 rw[Et (hl:=A7) (hx:=A7) ..];refine tw ?_
 have q0:=JL (g) (s.ix)
 obtain⟨⟨x0a,x0b,x0c,x0d,x0e,x0f,x0g,x0h⟩,f0,g0⟩:=Dc hxm (i:=Lu g s.ix) A7;simp only[Gh,GY,Gz,FZ,CZ,Df,Dh,DC] at f0;rw[g0];refine tw ?_;obtain⟨b1,yy1⟩:=Kw s.wl x0a A7;refine Aq yy1 ?_
 rcases bo b1 with rfl|rfl
 ·refine tw ?_;rw[BL ..];refine tw ?_;exact hP _ ⟨s,23,[],[],A7,rfl⟩
 refine tw ?_
 obtain(⟨w'3,d'3_1,h3_2,yy3⟩|⟨e3_3,h3_4,yy3⟩):=oH x0a x0b x0c x0d x0e x0f x0g x0h i1 bb A7 A7 A7
 ·refine Aq yy3 ?_
  have q4:=JL (g) (s.ix)
  obtain⟨x4,m4,g4⟩:=EY (l:=BM [] s.ix) (i:=Lu g s.ix) zah
  obtain⟨x4a,x4b,x4c,x4d,x4e,x4f,x4g,x4h⟩:=x4;rw[g4];refine tw ?_;refine hP _ ⟨{s with ix:=Bc (BM [] s.ix) (Lu g s.ix) (x0a,x0b,x0c,x0d,x0e,x0f,w'3,d'3_1)},0,[],[],?_,rfl⟩;exact {hup with ixl:=(Nv hi.ixs zav).1,ixm:=(Nv hi.ixs zav).2}
 refine Aq yy3 ?_;rw[BL ..];refine tw ?_;exact hP _ ⟨s,e3_3,[],[],A7,rfl⟩
theorem uu(i1 i2:Int)(bs:List (List UInt8))(az:List (El AY))(hi:Kp a k s)(hk:k<=900)(hz:0<=Lu g s.ix)(h1:0<=i1/\i1<=1099511627776)(h2:0<=i2/\i2<=1099511627776):Ah E0 (.call 263 [av s,rq 24 [h,g] az [i1,i2] bs] []) fun r=>∃(t:MS) (e:Int) (is':List Int) (bs':List (List UInt8)),Kp a (k+1) t/\r=some (.ret (.tup [av t,rp e is' bs' []]) []):=by
 have hup:=hi.up (k':=k+1) zau
 have hxl:=hi.ixl
 have hxm:=hi.ixm
 have hrl:=hi.rl
 have hwl:=hi.wl
 have hkk:=hi.kk
 refine CU fun P hP=>tw ?_
 rw[Et (hl:=A7) (hx:=A7) ..];refine tw ?_
 have q0:=JL (g) (s.ix)
 obtain⟨⟨x0a,x0b,x0c,x0d,x0e,x0f,x0g,x0h⟩,f0,g0⟩:=Dc hxm (i:=Lu g s.ix) A7;simp only[Gh,GY,Gz,FZ,CZ,Df,Dh,DC] at f0;rw[g0];refine tw ?_;obtain⟨b1,yy1⟩:=Kw s.rl x0a A7;refine Aq yy1 ?_
 rcases bo b1 with rfl|rfl
 ·refine tw ?_;rw[BL ..];refine tw ?_;exact hP _ ⟨s,23,[],[],A7,rfl⟩
 refine tw ?_;obtain⟨l3,e3_1,yy3⟩:=uG x0a x0b x0c x0d x0e x0f x0g x0h i1 i2 A7 A7 A7;refine Aq yy3 ?_
 rcases AX e3_1 0 with hc4|hc4
 ·refine tw ?_;rw[BL ..];refine tw ?_;exact hP _ ⟨s,e3_1,[],[],A7,rfl⟩
 subst hc4;refine tw ?_;exact hP _ ⟨s,0,[],[l3],A7,rfl⟩
theorem uw(az:List (El AY))(hi:Kp a k s)(hk:k<=900)(hz:0<=Lu g s.ix):Ah E0 (.call 263 [av s,rq 25 [h,g] az is bs] []) fun r=>∃(t:MS) (e:Int) (is':List Int) (bs':List (List UInt8)),Kp a (k+1) t/\r=some (.ret (.tup [av t,rp e is' bs' []]) []):=by
 have hup:=hi.up (k':=k+1) zau
 have hxl:=hi.ixl
 have hxm:=hi.ixm
 have hrl:=hi.rl
 have hwl:=hi.wl
 have hkk:=hi.kk
 refine CU fun P hP=>tw ?_
 rw[Et (hl:=A7) (hx:=A7) ..];refine tw ?_
 have q0:=JL (g) (s.ix)
 obtain⟨⟨x0a,x0b,x0c,x0d,x0e,x0f,x0g,x0h⟩,f0,g0⟩:=Dc hxm (i:=Lu g s.ix) A7;simp only[Gh,GY,Gz,FZ,CZ,Df,Dh,DC] at f0;rw[g0];refine tw ?_;obtain⟨b1,yy1⟩:=Kw s.wl x0a A7;refine Aq yy1 ?_
 rcases bo b1 with rfl|rfl
 ·refine tw ?_;rw[BL ..];refine tw ?_;exact hP _ ⟨s,23,[],[],A7,rfl⟩
 refine tw ?_
 obtain(⟨w'3,d'3_1,v3_2,h3_3,yy3⟩|⟨e3_4,h3_5,yy3⟩):=uH x0a x0b x0c x0d x0e x0f x0g x0h s.mc A7
 ·refine Aq yy3 ?_
  have q4:=JL (g) (s.ix)
  obtain⟨x4,m4,g4⟩:=EY (l:=BM [] s.ix) (i:=Lu g s.ix) zah
  obtain⟨x4a,x4b,x4c,x4d,x4e,x4f,x4g,x4h⟩:=x4;rw[g4];refine tw ?_;refine hP _ ⟨{s with mc:=v3_2,ix:=Bc (BM [] s.ix) (Lu g s.ix) (x0a,x0b,x0c,x0d,x0e,x0f,w'3,d'3_1)},0,[],[],?_,rfl⟩;exact {hup with ixl:=(Nv hi.ixs zav).1,ixm:=(Nv hi.ixs zav).2}
 refine Aq yy3 ?_;rw[BL ..];refine tw ?_;exact hP _ ⟨s,e3_4,[],[],A7,rfl⟩
theorem uy(hi:Kp a k s)(hk:k<=900)(hz:0<=Lu g s.ix)(hb:bb.length<=1024):Ah E0 (.call 263 [av s,rq 26 [h,g] az is [bb]] []) fun r=>∃(t:MS) (e:Int) (is':List Int) (bs':List (List UInt8)),Kp a (k+1) t/\r=some (.ret (.tup [av t,rp e is' bs' []]) []):=by
 have hup:=hi.up (k':=k+1) zau
 have hxl:=hi.ixl
 have hxm:=hi.ixm
 have hrl:=hi.rl
 have hwl:=hi.wl
 have hkk:=hi.kk
 refine CU fun P hP=>tw ?_
 rw[Et (hl:=A7) (hx:=A7) ..];refine tw ?_
 have q0:=JL (g) (s.ix)
 obtain⟨⟨x0a,x0b,x0c,x0d,x0e,x0f,x0g,x0h⟩,f0,g0⟩:=Dc hxm (i:=Lu g s.ix) A7;simp only[Gh,GY,Gz,FZ,CZ,Df,Dh,DC] at f0;rw[g0];refine tw ?_;obtain⟨b1,yy1⟩:=Kw s.wl x0a A7;refine Aq yy1 ?_
 rcases bo b1 with rfl|rfl
 ·refine tw ?_;rw[BL ..];refine tw ?_;exact hP _ ⟨s,23,[],[],A7,rfl⟩
 refine tw ?_
 obtain(⟨w'3,d'3_1,h3_2,yy3⟩|⟨e3_3,h3_4,yy3⟩):=uI x0a x0b x0c x0d x0e x0f x0g x0h bb A7
 ·refine Aq yy3 ?_
  have q4:=JL (g) (s.ix)
  obtain⟨x4,m4,g4⟩:=EY (l:=BM [] s.ix) (i:=Lu g s.ix) zah
  obtain⟨x4a,x4b,x4c,x4d,x4e,x4f,x4g,x4h⟩:=x4;rw[g4];refine tw ?_;refine hP _ ⟨{s with ix:=Bc (BM [] s.ix) (Lu g s.ix) (x0a,x0b,x0c,x0d,x0e,x0f,w'3,d'3_1)},0,[],[],?_,rfl⟩;exact {hup with ixl:=(Nv hi.ixs zav).1,ixm:=(Nv hi.ixs zav).2}
 refine Aq yy3 ?_;rw[BL ..];refine tw ?_;exact hP _ ⟨s,e3_3,[],[],A7,rfl⟩
theorem uz(hi:Kp a k s)(hk:k<=900)(hz:0<=Lu g s.ix)(hb:bb.length<=1024):Ah E0 (.call 263 [av s,rq 27 [h,g] az is [bb]] []) fun r=>∃(t:MS) (e:Int) (is':List Int) (bs':List (List UInt8)),Kp a (k+1) t/\r=some (.ret (.tup [av t,rp e is' bs' []]) []):=by
 have hup:=hi.up (k':=k+1) zau
 have hxl:=hi.ixl
 have hxm:=hi.ixm
 have hrl:=hi.rl
 have hwl:=hi.wl
 have hkk:=hi.kk
 refine CU fun P hP=>tw ?_
 rw[Et (hl:=A7) (hx:=A7) ..];refine tw ?_
 have q0:=JL (g) (s.ix)
 obtain⟨⟨x0a,x0b,x0c,x0d,x0e,x0f,x0g,x0h⟩,f0,g0⟩:=Dc hxm (i:=Lu g s.ix) A7;simp only[Gh,GY,Gz,FZ,CZ,Df,Dh,DC] at f0;rw[g0];refine tw ?_;obtain⟨b1,yy1⟩:=Kw s.wl x0a A7;refine Aq yy1 ?_
 rcases bo b1 with rfl|rfl
 ·refine tw ?_;rw[BL ..];refine tw ?_;exact hP _ ⟨s,23,[],[],A7,rfl⟩
 refine tw ?_
 obtain(⟨w'3,d'3_1,h3_2,yy3⟩|⟨e3_3,h3_4,yy3⟩):=jI x0a x0b x0c x0d x0e x0f x0g x0h bb A7 A7
 ·refine Aq yy3 ?_
  have q4:=JL (g) (s.ix)
  obtain⟨x4,m4,g4⟩:=EY (l:=BM [] s.ix) (i:=Lu g s.ix) zah
  obtain⟨x4a,x4b,x4c,x4d,x4e,x4f,x4g,x4h⟩:=x4;rw[g4];refine tw ?_;refine hP _ ⟨{s with ix:=Bc (BM [] s.ix) (Lu g s.ix) (x0a,x0b,x0c,x0d,x0e,x0f,w'3,d'3_1)},0,[],[],?_,rfl⟩;exact {hup with ixl:=(Nv hi.ixs zav).1,ixm:=(Nv hi.ixs zav).2}
 refine Aq yy3 ?_;rw[BL ..];refine tw ?_;exact hP _ ⟨s,e3_3,[],[],A7,rfl⟩
theorem vC(az:List (El AY))(hi:Kp a k s)(hk:k<=900)(hz:0<=Lu g s.ix):Ah E0 (.call 263 [av s,rq 28 [h,g] az is bs] []) fun r=>∃(t:MS) (e:Int) (is':List Int) (bs':List (List UInt8)),Kp a (k+1) t/\r=some (.ret (.tup [av t,rp e is' bs' []]) []):=by
 have hup:=hi.up (k':=k+1) zau
 have hxl:=hi.ixl
 have hxm:=hi.ixm
 have hrl:=hi.rl
 have hwl:=hi.wl
 have hkk:=hi.kk
 refine CU fun P hP=>tw ?_
 rw[Et (hl:=A7) (hx:=A7) ..];refine tw ?_
 have q0:=JL (g) (s.ix)
 obtain⟨⟨x0a,x0b,x0c,x0d,x0e,x0f,x0g,x0h⟩,f0,g0⟩:=Dc hxm (i:=Lu g s.ix) A7;simp only[Gh,GY,Gz,FZ,CZ,Df,Dh,DC] at f0;rw[g0];refine tw ?_;obtain⟨o1,h1_1,yy1⟩:=aW s.rl x0a A7;refine Aq yy1 ?_;refine hP _ ⟨{s with rl:=o1},0,[],[],?_,rfl⟩;exact {hup with rl:=zay}
theorem vF(az:List (El AY))(hi:Kp a k s)(hk:k<=900)(hz:0<=Lu g s.ix):Ah E0 (.call 263 [av s,rq 29 [h,g] az is bs] []) fun r=>∃(t:MS) (e:Int) (is':List Int) (bs':List (List UInt8)),Kp a (k+1) t/\r=some (.ret (.tup [av t,rp e is' bs' []]) []):=by
 have hup:=hi.up (k':=k+1) zau
 have hxl:=hi.ixl
 have hxm:=hi.ixm
 have hrl:=hi.rl
 have hwl:=hi.wl
 have hkk:=hi.kk
 refine CU fun P hP=>tw ?_
 rw[Et (hl:=A7) (hx:=A7) ..];refine tw ?_
 have q0:=JL (g) (s.ix)
 obtain⟨⟨x0a,x0b,x0c,x0d,x0e,x0f,x0g,x0h⟩,f0,g0⟩:=Dc hxm (i:=Lu g s.ix) A7;simp only[Gh,GY,Gz,FZ,CZ,Df,Dh,DC] at f0;rw[g0];refine tw ?_;obtain⟨o1,h1_1,yy1⟩:=aW s.wl x0a A7;refine Aq yy1 ?_;refine hP _ ⟨{s with wl:=o1},0,[],[],?_,rfl⟩;exact {hup with wl:=zay}
theorem pq(hi:Kp a k s)(hk:k<=900):Ah E0 (.call 260 [av s] []) fun r=>∃(t:MS) (e:Int) (is':List Int) (bs':List (List UInt8)),Kp a (k+1) t/\r=some (.ret (.tup [av t,rp e is' bs' []]) []):=by
 have hup:=hi.up (k':=k+1) zau
 have hsl:=hi.sdl
 have hal:=hi.aul
 have hen:=hi.en
 have hdr:=hi.dr
 have hkk:=hi.kk
 have hR:(Nl s.en s.re s.rs s.dr 32).length=32:=zbP
 refine CU fun P hP=>tw ?_
 rw[aK _ _ _ _ _ _ _ _ _ _ _ _ _ _ _ _ _ _ _ _ _ _ _ _ _ _ _ _ _ _ _ zaa];refine tv ?_;obtain⟨x0,f0,g0⟩:=Dc hup.sdm (i:=0) A7;rw[g0];refine tv ?_;obtain⟨x1,f1,g1⟩:=Dc hup.sdm (i:=2) A7;rw[g1];refine tw ?_;obtain⟨x2,f2,g2⟩:=Dc hup.aum (i:=0) A7;rw[g2];refine tw ?_;obtain⟨x3,f3,g3⟩:=Dc hup.aum (i:=2) A7;rw[g3];refine tw ?_;rw[dm];refine tw ?_;refine hP _ ⟨{s with sd:=[x0,Nl s.en s.re s.rs s.dr 32,x1],au:=[x2,[],x3,[]],ix:=[],l1:=0,l2:=5,l3:=100,l4:=0,l5:=0,l6:=1000,dr:=s.dr+1,ss:=BZ 3 (0,[],[],0,0,0,0,false),ob:=BZ 3 ((0,0,0,[],[]),([],[],[]),0),rl:=[],wl:=[]},0,[],[],?_,rfl⟩;exact hi.clear hk zav zav hR zav zav
theorem jc(is:List Int)(hi:Kp a k s)(hk:k<=900)(hh:0<=h/\h<=3)(hb:bb.length<=1024):Ah E0 (.call 259 [av s,rq 30 [h] az is [bb]] []) fun r=>∃(t:MS) (e:Int) (is':List Int) (bs':List (List UInt8)),Kp a (k+1) t/\r=some (.ret (.tup [av t,rp e is' bs' []]) []):=by
 have hup:=hi.up (k':=k+1) zau
 have hal:=hi.aul
 have hset:bb.length<=32->(Bc (BM [] s.au) h bb).length=4/\∀ x∈Bc (BM [] s.au) h bb,x.length<=32:=fun hb=>by
  rw[Ag,List.nil_append]
  obtain⟨h1,h2⟩:=dS (i:=h) (p:=fun x:List UInt8=>x.length<=32) hi.aum hb;exact⟨h1.trans hal,h2⟩
 refine CU fun P hP=>tw ?_
 rcases AZ 32 (↑bb.length) with hc0|hc0
 ·refine tw ?_;rw[BL ..];refine tw ?_;exact hP _ ⟨s,4,[],[],A7,rfl⟩
 refine tw ?_;obtain⟨x1,m1,g1⟩:=EY (l:=BM [] s.au) (i:=h) zah;rw[g1];refine tw ?_;refine hP _ ⟨{s with au:=Bc (BM [] s.au) h bb},0,[],[],?_,rfl⟩;exact {hup with aul:=(hset zaa).1,aum:=(hset zaa).2}
end
end Go.Proofs.YtnhgnfdbdflhcaaGreatDoor
