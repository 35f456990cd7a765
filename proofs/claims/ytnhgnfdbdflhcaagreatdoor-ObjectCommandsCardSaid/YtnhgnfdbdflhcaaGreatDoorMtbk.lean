/-
  Own texts, laid together for this claim: contracts of functions of the program and its references, used by the statements of this seat.
-/
import Derived.Test.YtnhgnfdbdflhcaaGreatDoorMtab
import Derived.Test.YtnhgnfdbdflhcaaGreatDoorMtae
import Derived.Test.YtnhgnfdbdflhcaaGreatDoorMtaf
import Derived.Test.YtnhgnfdbdflhcaaGreatDoorMtah
import Derived.Test.YtnhgnfdbdflhcaaGreatDoorMtai
import Derived.Test.YtnhgnfdbdflhcaaGreatDoorMtaj
import Derived.Test.YtnhgnfdbdflhcaaGreatDoorMtav
import Derived.Test.YtnhgnfdbdflhcaaGreatDoorMtay
import Derived.Test.YtnhgnfdbdflhcaaGreatDoorMtba
import Derived.Test.YtnhgnfdbdflhcaaGreatDoorMtbc
import Derived.Test.YtnhgnfdbdflhcaaGreatDoorMtbd
import Derived.Test.YtnhgnfdbdflhcaaGreatDoorMtbe
import Derived.Test.YtnhgnfdbdflhcaaGreatDoorMtbg
set_option linter.all false
set_option maxHeartbeats 40000000
set_option maxRecDepth 100000
namespace Go.Ax
open Go Go.Eng Go.RowKit
theorem Kp.rb_{a k:Int}{s:MS}{c:List (List (List UInt8))}(h:Kp a k s)(hk:k<=900)(hr:OW a c)(hn:s.rb≠[]->c≠[]):Kp a (k+1) {s with rb:=c,ru:=s.ru+1}:={h.up (k':=k+1) (by have:=h.kk;omega) with rb:=hr,ru:=(by show 0<=s.ru+1/\s.ru+1<=k+1;have:=h.ru;omega),st:=fun h1 h2=>hn (h.st h1 h2)}
def aV(l:List (El Gp)):Prop:=l.length<=6/\∀ x∈l,Gh x
theorem Kp.ixs{a k:Int}{s:MS}(h:Kp a k s):aV s.ix:=⟨h.ixl,h.ixm⟩
theorem zD{l:List (El Gp)}{x:El Gp}(h:aV l)(hl:(l.length:Int)<6)(hx:Gh x):aV (BM (BM [] l) [x]):=by
 rw[Ag,Ag,List.nil_append]
 refine⟨by simp;omega,fun y hy=>?_⟩
 rcases List.mem_append.1 hy with hy|hy
 ·exact h.2 y hy
 ·obtain rfl:=List.mem_singleton.1 hy;exact hx
theorem Nv{l:List (El Gp)}{i:Int}{x:El Gp}(h:aV l)(hx:Gh x):aV (Bc (BM [] l) i x):=by
 rw[Ag,List.nil_append]
 obtain⟨h1,h2⟩:=dS (i:=i) h.2 hx;exact⟨by rw[h1];exact h.1,h2⟩
end Go.Ax
namespace Go.Proofs.YtnhgnfdbdflhcaaGreatDoor
open Go Go.Ax Go.Eng
variable {a k:Int}
section
attribute [local irreducible] Cc Dn D7 DU DD BA Dp F7 FY FD Ez Ci CS DK DV and' DW DL C9 BR Bh CB CG BG BI Aw BC Dq Fh Dt ER DX Bl CE Bv Bz Bi Az Bg BK Bj BO Du Bc DF BZ BM Cj Di fits Dv Dk Ac Am BH
attribute [local irreducible] Dw CJ Be nameB EL Eh Ar ET E8 Ea ES F8 BV GX Eg Fv FU EE Fa Ej Ho I5 En
theorem ul(s:MS)(c:Int)(az:List (El AY))(is:List Int)(bs:List (List UInt8))(hi:Kp a k s)(hk:k<=900):Ah E0 (.call 206 [av s,rq c [] az is bs] []) fun r=>r=some (.ret (.b true) []):=by
 refine CU fun P hP=>tw ?_
 exact hP _ rfl
theorem uo(s:MS)(c h:Int)(az:List (El AY))(is:List Int)(bs:List (List UInt8))(hi:Kp a k s)(hc:c=9\/c=10\/c=11\/c=13\/c=14\/c=15\/c=18\/c=21\/c=22\/c=30\/c=31\/c=32\/c=33):Ah E0 (.call 206 [av s,rq c [h] az is bs] []) fun r=>∃ b:Bool,(b=true->(c=9->0<=h/\h<=2)/\(c=10\/c=11\/c=13\/c=14\/c=15->0<=Jl h s.ob)/\(c=30->0<=h/\h<=3))/\r=some (.ret (.b b) []):=by
 have hol:=hi.obl
 have hxl:=hi.ixl
 have hxm:=hi.ixm
 refine CU fun P hP=>tw ?_
 rcases AL c 9 with hc0|hc0
 ·subst hc0;refine tw ?_
  rcases DJ 0 h with hc1|hc1
  ·refine tw ?_
   refine hP _ ⟨Ez h 2,?_,rfl⟩;(intro hz;simp only[Dz,EU,decide_eq_true_eq,Bool.false_eq_true] at hz<;>omega)
  refine tw ?_
  refine hP _ ⟨false,?_,rfl⟩;(intro hz;simp only[Dz,EU,decide_eq_true_eq,Bool.false_eq_true] at hz<;>omega)
 refine tw ?_
 rcases AL c 10 with hc2|hc2
 ·subst hc2;refine tw ?_;rw[Eu (hl:=A7) ..];refine tw ?_
  refine hP _ ⟨Ez 0 (Jl h s.ob),?_,rfl⟩;(intro hz;simp only[Dz,EU,decide_eq_true_eq,Bool.false_eq_true] at hz<;>omega)
 refine tw ?_
 rcases AL c 11 with hc3|hc3
 ·subst hc3;refine tw ?_;rw[Eu (hl:=A7) ..];refine tw ?_
  refine hP _ ⟨Ez 0 (Jl h s.ob),?_,rfl⟩;(intro hz;simp only[Dz,EU,decide_eq_true_eq,Bool.false_eq_true] at hz<;>omega)
 refine tw ?_
 rcases AL c 13 with hc4|hc4
 ·subst hc4;refine tw ?_;rw[Eu (hl:=A7) ..];refine tw ?_
  refine hP _ ⟨Ez 0 (Jl h s.ob),?_,rfl⟩;(intro hz;simp only[Dz,EU,decide_eq_true_eq,Bool.false_eq_true] at hz<;>omega)
 refine tw ?_
 rcases AL c 14 with hc5|hc5
 ·subst hc5;refine tw ?_;rw[Eu (hl:=A7) ..];refine tw ?_
  refine hP _ ⟨Ez 0 (Jl h s.ob),?_,rfl⟩;(intro hz;simp only[Dz,EU,decide_eq_true_eq,Bool.false_eq_true] at hz<;>omega)
 refine tw ?_
 rcases AL c 15 with hc6|hc6
 ·subst hc6;refine tw ?_;rw[Eu (hl:=A7) ..];refine tw ?_
  refine hP _ ⟨Ez 0 (Jl h s.ob),?_,rfl⟩;(intro hz;simp only[Dz,EU,decide_eq_true_eq,Bool.false_eq_true] at hz<;>omega)
 refine tw ?_
 rcases AL c 18 with hc7|hc7
 ·subst hc7;refine tw ?_;obtain⟨b8,yy8⟩:=jB s h hi;refine Aq yy8 ?_;exact hP _ ⟨b8,A7,rfl⟩
 refine tw ?_
 rcases AL c 21 with hc9|hc9
 ·subst hc9;refine tw ?_
  rcases AL h 1 with hc10|hc10
  ·subst hc10;refine tw ?_;exact hP _ ⟨true,A7,rfl⟩
  refine tw ?_;exact hP _ ⟨F7 h 2,A7,rfl⟩
 refine tw ?_
 rcases AL c 22 with hc11|hc11
 ·subst hc11;refine tw ?_
  rcases AL h 1 with hc12|hc12
  ·subst hc12;refine tw ?_;exact hP _ ⟨true,A7,rfl⟩
  refine tw ?_;exact hP _ ⟨F7 h 2,A7,rfl⟩
 refine tw ?_
 rcases AL c 30 with hc13|hc13
 ·subst hc13;refine tw ?_
  rcases DJ 0 h with hc14|hc14
  ·refine tw ?_
   refine hP _ ⟨Ez h 3,?_,rfl⟩;(intro hz;simp only[Dz,EU,decide_eq_true_eq,Bool.false_eq_true] at hz<;>omega)
  refine tw ?_
  refine hP _ ⟨false,?_,rfl⟩;(intro hz;simp only[Dz,EU,decide_eq_true_eq,Bool.false_eq_true] at hz<;>omega)
 refine tw ?_
 rcases AL c 31 with hc15|hc15
 ·subst hc15;refine tw ?_
  rcases AL h 2 with hc16|hc16
  ·subst hc16;refine tw ?_;exact hP _ ⟨true,A7,rfl⟩
  refine tw ?_;exact hP _ ⟨F7 h 3,A7,rfl⟩
 refine tw ?_
 rcases AL c 32 with hc17|hc17
 ·subst hc17;refine tw ?_;exact hP _ ⟨F7 h 3,A7,rfl⟩
 refine tw ?_;exact hP _ ⟨F7 h 3,A7,rfl⟩
theorem uq(s:MS)(c h h2:Int)(az:List (El AY))(is:List Int)(bs:List (List UInt8))(hi:Kp a k s)(hc:23<=c/\c<=29):Ah E0 (.call 206 [av s,rq c [h,h2] az is bs] []) fun r=>∃ b:Bool,(b=true->0<=Lu h2 s.ix)/\r=some (.ret (.b b) []):=by
 have hol:=hi.obl
 have hxl:=hi.ixl
 have hxm:=hi.ixm
 refine CU fun P hP=>tw ?_
 rw[Et (hl:=A7) (hx:=A7) ..];refine tw ?_
 rcases DJ 0 (Lu h2 s.ix) with hc0|hc0
 ·refine tw ?_
  rcases AL h 1 with hc1|hc1
  ·subst hc1;refine tw ?_;exact hP _ ⟨true,A7,rfl⟩
  refine tw ?_;exact hP _ ⟨F7 h h2,A7,rfl⟩
 refine tw ?_
 refine hP _ ⟨false,?_,rfl⟩;(intro hz;simp only[Dz,EU,decide_eq_true_eq,Bool.false_eq_true] at hz<;>omega)
variable (sd au:List (List UInt8))(en:List UInt8)(ac re rs ck:Int)(od:Bool)(sb:List (List (List UInt8)))(su mc:Int)(ix:List (El Gp))(l1 l2 l3 l4 l5 l6:Int)(ks:List (El J8))(st sp:Bool)(rb:List (List (List UInt8)))(ru vc:Int)(sf:Bool)(dr:Int)(ss:List (El sesT))(ob:List (El objT))(rl wl:List Int)
theorem BL(e:Int):Y E0 (.call 205 [(sX sd au en ac re rs ck od sb su mc ix l1 l2 l3 l4 l5 l6 ks st sp rb ru vc sf dr ss ob rl wl),.i e] [])=some (.ret (.tup [(sX sd au en ac re rs ck od sb su mc ix l1 l2 l3 l4 l5 l6 ks st sp rb ru vc sf dr ss ob rl wl),.agg [.i e,.sl .i64 [],.sl (.sl .u8) [],.sl (.sl .u8) []]]) []):=by
 exact tq rfl
theorem Eb(s t:MS)(e:Int):Ah E0 (.call 251 [av s,av t,.i e] []) fun r=>(e=0/\r=some (.ret (.tup [av t,rp 0 [] [] []]) []))\/(e≠0/\r=some (.ret (.tup [av s,rp e [] [] []]) [])):=by
 refine CU fun P hP=>tw ?_
 rcases AX e 0 with hc0|hc0
 ·refine tw ?_;rw[BL ..];refine tw ?_;exact hP _ (Or.inr ⟨A7,rfl⟩)
 subst hc0;refine tw ?_;exact hP _ (Or.inl ⟨A7,rfl⟩)
theorem pI(s:MS)(hi:Kp a k s)(hk:k<=900):Ah E0 (.call 253 [av s] []) fun r=>∃(t:MS) (e:Int) (is':List Int) (bs':List (List UInt8)),Kp a (k+1) t/\r=some (.ret (.tup [av t,rp e is' bs' []]) []):=by
 have hup:=hi.up (k':=k+1) zau
 refine CU fun P hP=>tw ?_
 rcases bo (s.sf) with hc0|hc0
 ·rw[hc0];refine tw ?_;refine hP _ ⟨{s with sf:=true},0,[s.vc,s.re,s.rs,1],[],?_,rfl⟩;exact Kp.sf_ hup
 rw[hc0];refine tw ?_;refine hP _ ⟨{s with sf:=false},0,[s.vc,s.re,s.rs,0],[],?_,rfl⟩;exact Kp.sf_ hup
theorem pJ(s:MS)(lo i1 i2:Int)(hs:List Int)(az:List (El AY))(bs:List (List UInt8))(hi:Kp a k s)(hk:k<=900):Ah E0 (.call 254 [av s,.i lo,rq 5 hs az [i1,i2] bs] []) fun r=>∃(t:MS) (e:Int) (is':List Int) (bs':List (List UInt8)),Kp a (k+1) t/\r=some (.ret (.tup [av t,rp e is' bs' []]) []):=by
 have hup:=hi.up (k':=k+1) zau
 have hrb:=hi.rb
 have hru:=hi.ru
 refine CU fun P hP=>tw ?_
 obtain⟨l0,e0_1,yy0⟩:=uN a s.rb s.ru i1 i2 hrb;refine Aq yy0 ?_
 rcases AX e0_1 0 with hc1|hc1
 ·refine tw ?_;rw[BL ..];refine tw ?_;exact hP _ ⟨s,e0_1,[],[],A7,rfl⟩
 subst hc1;refine tw ?_;exact hP _ ⟨s,0,[s.ru],[l0],A7,rfl⟩
theorem pK(s:MS)(lo i1:Int)(hs:List Int)(az:List (El AY))(b1 b2:List UInt8)(hi:Kp a k s)(hk:k<=900)(h1:b1.length<=1024)(h2:b2.length<=1024):Ah E0 (.call 254 [av s,.i lo,rq 6 hs az [i1] [b1,b2]] []) fun r=>∃(t:MS) (e:Int) (is':List Int) (bs':List (List UInt8)),Kp a (k+1) t/\r=some (.ret (.tup [av t,rp e is' bs' []]) []):=by
 have hup:=hi.up (k':=k+1) zau
 have hrb:=hi.rb
 have hru:=hi.ru
 refine CU fun P hP=>tw ?_
 obtain(⟨c0,⟨h0_1,h0_2⟩,yy0⟩|⟨e0_3,h0_4,yy0⟩):=oK a s.rb s.ru lo i1 [b1,b2] hrb A7 A7
 ·refine Aq yy0 ?_;refine hP _ ⟨{s with rb:=c0,ru:=s.ru+1},0,[],[],?_,rfl⟩;exact Kp.rb_ hi hk zav zav
 refine Aq yy0 ?_;rw[BL ..];refine tw ?_;exact hP _ ⟨s,e0_3,[],[],A7,rfl⟩
theorem pM(s:MS)(lo i1:Int)(hs:List Int)(az:List (El AY))(b1:List UInt8)(hi:Kp a k s)(hk:k<=900)(h1:b1.length<=1024):Ah E0 (.call 254 [av s,.i lo,rq 7 hs az [i1] [b1]] []) fun r=>∃(t:MS) (e:Int) (is':List Int) (bs':List (List UInt8)),Kp a (k+1) t/\r=some (.ret (.tup [av t,rp e is' bs' []]) []):=by
 have hup:=hi.up (k':=k+1) zau
 have hrb:=hi.rb
 have hru:=hi.ru
 refine CU fun P hP=>tw ?_
 obtain⟨l0,h0_1,yy0⟩:=eF a s.rb s.ru b1 hrb A7;refine Aq yy0 ?_
 obtain(⟨c1,⟨h1_1,h1_2⟩,yy1⟩|⟨e1_3,h1_4,yy1⟩):=uK a s.rb s.ru lo i1 b1 hrb A7
 ·refine Aq yy1 ?_;refine hP _ ⟨{s with rb:=c1,ru:=s.ru+1},0,[],l0,?_,rfl⟩;exact Kp.rb_ hi hk zav zav
 refine Aq yy1 ?_;rw[BL ..];refine tw ?_;exact hP _ ⟨s,e1_3,[],[],A7,rfl⟩
theorem pO(s:MS)(lo i1:Int)(hs:List Int)(az:List (El AY))(bs:List (List UInt8))(hi:Kp a k s)(hk:k<=900):Ah E0 (.call 254 [av s,.i lo,rq 8 hs az [i1] bs] []) fun r=>∃(t:MS) (e:Int) (is':List Int) (bs':List (List UInt8)),Kp a (k+1) t/\r=some (.ret (.tup [av t,rp e is' bs' []]) []):=by
 have hup:=hi.up (k':=k+1) zau
 have hrb:=hi.rb
 have hru:=hi.ru
 refine CU fun P hP=>tw ?_
 obtain(⟨c0,⟨h0_1,h0_2⟩,yy0⟩|⟨e0_3,h0_4,yy0⟩):=uM a s.rb s.ru lo i1 hrb
 ·refine Aq yy0 ?_;refine hP _ ⟨{s with rb:=c0,ru:=s.ru+1},0,[],[],?_,rfl⟩;exact Kp.rb_ hi hk zav zav
 refine Aq yy0 ?_;rw[BL ..];refine tw ?_;exact hP _ ⟨s,e0_3,[],[],A7,rfl⟩
theorem jb(s:MS)(i1 i2 i3 i4 i5 i6:Int)(hs:List Int)(az:List (El AY))(bs:List (List UInt8))(hi:Kp a k s)(hk:k<=900)(h1:0<=i1/\i1<=1099511627776)(hb:bs.length<=8)(hm:∀ x∈bs,x.length<=2000):Ah E0 (.call 291 [av s,rq 17 hs az [i1,i2,i3,i4,i5,i6] bs] []) fun r=>∃(t:MS) (e:Int) (is':List Int) (bs':List (List UInt8)),Kp a (k+1) t/\r=some (.ret (.tup [av t,rp e is' bs' []]) []):=by
 have hup:=hi.up (k':=k+1) zau
 have hxl:=hi.ixl
 have hxm:=hi.ixm
 have hax:SN [] [] [] [] bs:=⟨by simp,by simp,by simp,by simp,by omega,hm⟩
 refine CU fun P hP=>tw ?_
 obtain⟨x0,m0,g0⟩:=EY (l:=[i1,i2,i3,i4,i5,i6]) (i:=3) zah;rw[g0];refine tw ?_;obtain⟨x1,m1,g1⟩:=EY (l:=[i1,i2,i3,i4,i5,i6]) (i:=4) zah;rw[g1];refine tw ?_;obtain⟨x2,m2,g2⟩:=EY (l:=[i1,i2,i3,i4,i5,i6]) (i:=5) zah;rw[g2];refine tw ?_
 rcases AL i2 1 with hc3|hc3
 ·subst hc3;refine tw ?_
  rcases AX (↑bs.length) 1 with hc4|hc4
  ·refine tw ?_;rw[BL ..];refine tw ?_;exact hP _ ⟨s,1,[],[],A7,rfl⟩
  refine tw ?_;obtain⟨x5,f5,g5⟩:=Dc hm (i:=0) A7;rw[g5];refine tw ?_
  obtain(⟨t6,h6_1,yy6⟩|⟨t6_2,e6_3,h6_4,yy6⟩):=ML s i1 1 i3 x0 x5 x1 x2 [] [] [] [] hup A7 (by(refine⟨?_,?_,?_,?_,?_,?_⟩<;>first|omega|(simp;done)|assumption))
  ·refine Aq yy6 ?_
   obtain(⟨h7_0,yy7⟩|⟨h7_1,yy7⟩):=Eb s t6 0
   ·refine Aq yy7 ?_;exact hP _ ⟨t6,0,[],[],A7,rfl⟩
   refine Aq yy7 ?_;exact hP _ ⟨s,0,[],[],A7,rfl⟩
  refine Aq yy6 ?_
  obtain(⟨h8_0,yy8⟩|⟨h8_1,yy8⟩):=Eb s t6_2 e6_3
  ·refine Aq yy8 ?_;exact hP _ ⟨t6_2,0,[],[],A7,rfl⟩
  refine Aq yy8 ?_;exact hP _ ⟨s,e6_3,[],[],A7,rfl⟩
 refine tw ?_
 rcases AL i2 4 with hc9|hc9
 ·subst hc9;refine tw ?_
  rcases AX (↑bs.length) 1 with hc10|hc10
  ·refine tw ?_;rw[BL ..];refine tw ?_;exact hP _ ⟨s,1,[],[],A7,rfl⟩
  refine tw ?_;rw[Et (hl:=A7) (hx:=A7) ..];refine tw ?_
  rcases AZ (Lu x1 s.ix) 0 with hc11|hc11
  ·refine tw ?_;rw[BL ..];refine tw ?_;exact hP _ ⟨s,7,[],[],A7,rfl⟩
  refine tw ?_;obtain⟨l12,h12_1,yy12⟩:=U9 s x1 hup;refine Aq yy12 ?_;obtain⟨x13,f13,g13⟩:=Dc hm (i:=0) A7;rw[g13];refine tw ?_
  obtain(⟨t14,h14_1,yy14⟩|⟨t14_2,e14_3,h14_4,yy14⟩):=ML s i1 4 i3 x0 [] x1 x2 x13 l12 [] [] hup A7 (by(refine⟨?_,?_,?_,?_,?_,?_⟩<;>first|omega|(simp;done)|assumption))
  ·refine Aq yy14 ?_
   obtain(⟨h15_0,yy15⟩|⟨h15_1,yy15⟩):=Eb s t14 0
   ·refine Aq yy15 ?_;exact hP _ ⟨t14,0,[],[],A7,rfl⟩
   refine Aq yy15 ?_;exact hP _ ⟨s,0,[],[],A7,rfl⟩
  refine Aq yy14 ?_
  obtain(⟨h16_0,yy16⟩|⟨h16_1,yy16⟩):=Eb s t14_2 e14_3
  ·refine Aq yy16 ?_;exact hP _ ⟨t14_2,0,[],[],A7,rfl⟩
  refine Aq yy16 ?_;exact hP _ ⟨s,e14_3,[],[],A7,rfl⟩
 refine tw ?_
 rcases AX i2 8 with hc17|hc17
 ·refine tw ?_
  rcases AZ 0 (↑bs.length) with hc18|hc18
  ·refine tw ?_;rw[BL ..];refine tw ?_;exact hP _ ⟨s,1,[],[],A7,rfl⟩
  refine tw ?_
  obtain(⟨t19,h19_1,yy19⟩|⟨t19_2,e19_3,h19_4,yy19⟩):=ML s i1 i2 i3 x0 [] x1 x2 [] [] [] [] hup A7 (by(refine⟨?_,?_,?_,?_,?_,?_⟩<;>first|omega|(simp;done)|assumption))
  ·refine Aq yy19 ?_
   obtain(⟨h20_0,yy20⟩|⟨h20_1,yy20⟩):=Eb s t19 0
   ·refine Aq yy20 ?_;exact hP _ ⟨t19,0,[],[],A7,rfl⟩
   refine Aq yy20 ?_;exact hP _ ⟨s,0,[],[],A7,rfl⟩
  refine Aq yy19 ?_
  obtain(⟨h21_0,yy21⟩|⟨h21_1,yy21⟩):=Eb s t19_2 e19_3
  ·refine Aq yy21 ?_;exact hP _ ⟨t19_2,0,[],[],A7,rfl⟩
  refine Aq yy21 ?_;exact hP _ ⟨s,e19_3,[],[],A7,rfl⟩
 subst hc17;refine tw ?_
 obtain(⟨t22,h22_1,yy22⟩|⟨t22_2,e22_3,h22_4,yy22⟩):=ML s i1 8 i3 x0 [] x1 x2 [] [] [] bs hup A7 A7
 ·refine Aq yy22 ?_
  obtain(⟨h23_0,yy23⟩|⟨h23_1,yy23⟩):=Eb s t22 0
  ·refine Aq yy23 ?_;exact hP _ ⟨t22,0,[],[],A7,rfl⟩
  refine Aq yy23 ?_;exact hP _ ⟨s,0,[],[],A7,rfl⟩
 refine Aq yy22 ?_
 obtain(⟨h24_0,yy24⟩|⟨h24_1,yy24⟩):=Eb s t22_2 e22_3
 ·refine Aq yy24 ?_;exact hP _ ⟨t22_2,0,[],[],A7,rfl⟩
 refine Aq yy24 ?_;exact hP _ ⟨s,e22_3,[],[],A7,rfl⟩
end
section
attribute [local irreducible] Cc Dn D7 DU DD BA Dp F7 FY FD Ez Ci CS DK DV and' DW DL C9 BR Bh CB CG BG BI Aw BC Dq Fh Dt ER DX Bl CE Bv Bz Bi Az Bg BK Bj BO Du Bc DF BZ BM Cj Di fits Dv Dk Ac Am BH
attribute [local irreducible] Dw CJ Be nameB EL Eh Ar ET E8 Ea ES F8 BV GX Eg Fv FU EE Fa Ej Ho I5 En
theorem Bf{hs:List Int}{az:List (El AY)}{is:List Int}{bs:List (List UInt8)}(h1:hs.length<=10:=by first|omega|(simp;done))(h2:az.length<=10:=by first|omega|(simp;done))(h3:∀ x∈az,x.2.1.length<=1000/\x.2.2.length<=1000:=by first|(simp;done)|(intro x hx;obtain rfl:=List.mem_singleton.1 hx;exact⟨by assumption,by assumption⟩))(h4:is.length<=10:=by first|omega|(simp;done))(h5:bs.length<=10:=by first|omega|(simp;done))(h6:∀ x∈bs,x.length<=2000:=by first|assumption|(simp;done)|(simp only[List.forall_mem_cons,List.not_mem_nil,false_implies,implies_true,and_true];(repeat' apply And.intro)<;>first|omega|(rw[AP];decide)|(rw[List.length_take];omega)|(simp;omega))|(intro x hx;exact Nat.le_trans ((by assumption:∀ x∈_,List.length x<=32) x hx) zal)|(intro x hx;exact Nat.le_trans ((by assumption:∀ x∈_,List.length x<=1000) x hx) zal)):Few hs az is bs:=⟨h1,h2,h3,h4,h5,h6⟩
theorem FX(n m:Int)(hm:1<=m/\m<=1000000000000):Y E0 (.call 20 [.i n,.i m] [])=some (.ret (.i (n%m)) []):=by
 have hb:=YL n hm.1
 refine tq ?_
 rcases AZ (DD n m) 0 with hc0|hc0
 ·refine tp ?_;rw[Au zaa,mW hm.1 zaa]
 refine tq ?_;rw[mV hm.1 zaa]
theorem wM(n:Int)(b:List UInt8)(hn:0<=n/\n<=3)(hb:b.length<=1000):Ah E0 (.loop 73 0 0 1 [(0,AV.i n),(1,AV.sl Ty.u8 b),(5,AV.nm 0),(6,AV.i 0)] [(0,some (Rs.row 22 Ty.u8.sl (BZ 2 [])))]) fun r=>∃ l:List (List UInt8),(l.length=2/\∀ x∈l,x.length<=32)/\r=some (.fin (.exit 0) 0 [(5,.sl (.sl .u8) l)] []):=by
 refine CU fun P hP=>?_
 refine tw ?_
 rcases AL (BA BinOp.and (CS n (Bl 0).toNat) 1) 1 with hc0|hc0
 ·refine tw ?_;obtain⟨x1,m1,g1⟩:=EY (l:=Cj (BZ 20 0) b) (i:=Bj (Cj (BZ 20 0) b)-1) zah;rw[g1];refine tw ?_;rw[g1];refine tw ?_;obtain⟨x2,m2,g2⟩:=EY (l:=BZ 2 []) (i:=0) zah;rw[g2];refine tw ?_;refine tw ?_
  rcases AL (BA BinOp.and (CS n (Bl 1).toNat) 1) 1 with hc3|hc3
  ·refine tw ?_;obtain⟨x4,m4,g4⟩:=EY (l:=Cj (BZ 32 0) b) (i:=Bj (Cj (BZ 32 0) b)-1) zah;rw[g4];refine tw ?_;rw[g4];refine tw ?_;obtain⟨x5,m5,g5⟩:=EY (l:=Bc (BZ 2 []) 0 (Bc (Cj (BZ 20 0) b) (Bj (Cj (BZ 20 0) b)-1) (DL BinOp.xor x1 (ER 0)))) (i:=1) zah;rw[g5];refine tw ?_;refine tw ?_
   refine hP _ ⟨Bc (Bc (BZ 2 []) 0 (Bc (Cj (BZ 20 0) b) (Bj (Cj (BZ 20 0) b)-1) (DL BinOp.xor x1 (ER 0)))) 1 (Bc (Cj (BZ 32 0) b) (Bj (Cj (BZ 32 0) b)-1) (DL BinOp.xor x4 (ER 1))),?_,rfl⟩;(show Xw _;(repeat'(first|exact dg0|refine dgS ?_ ?_))<;>(simp only[LL]<;>omega))
  refine tw ?_;refine tw ?_
  refine hP _ ⟨Bc (BZ 2 []) 0 (Bc (Cj (BZ 20 0) b) (Bj (Cj (BZ 20 0) b)-1) (DL BinOp.xor x1 (ER 0))),?_,rfl⟩;(show Xw _;(repeat'(first|exact dg0|refine dgS ?_ ?_))<;>(simp only[LL]<;>omega))
 refine tw ?_;refine tw ?_
 rcases AL (BA BinOp.and (CS n (Bl 1).toNat) 1) 1 with hc6|hc6
 ·refine tw ?_;obtain⟨x7,m7,g7⟩:=EY (l:=Cj (BZ 32 0) b) (i:=Bj (Cj (BZ 32 0) b)-1) zah;rw[g7];refine tw ?_;rw[g7];refine tw ?_;obtain⟨x8,m8,g8⟩:=EY (l:=BZ 2 []) (i:=1) zah;rw[g8];refine tw ?_;refine tw ?_
  refine hP _ ⟨Bc (BZ 2 []) 1 (Bc (Cj (BZ 32 0) b) (Bj (Cj (BZ 32 0) b)-1) (DL BinOp.xor x7 (ER 1))),?_,rfl⟩;(show Xw _;(repeat'(first|exact dg0|refine dgS ?_ ?_))<;>(simp only[LL]<;>omega))
 refine tw ?_;refine tw ?_
 refine hP _ ⟨BZ 2 [],?_,rfl⟩;(show Xw _;(repeat'(first|exact dg0|refine dgS ?_ ?_))<;>(simp only[LL]<;>omega))
theorem qA(n:Int)(b:List UInt8)(hn:0<=n/\n<=3)(hb:b.length<=1000):Ah E0 (.call 73 [.i n,.sl .u8 b] []) fun r=>∃ l:List (List UInt8),(l.length=2/\∀ x∈l,x.length<=32)/\r=some (.ret (.sl (.sl .u8) l) []):=by
 refine CU fun P hP=>tw ?_
 obtain⟨l0,⟨h0_1,h0_2⟩,yy0⟩:=wM n b A7 A7;refine Aq yy0 ?_;exact hP _ ⟨l0,clo,rfl⟩
end
end Go.Proofs.YtnhgnfdbdflhcaaGreatDoor
