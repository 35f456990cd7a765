/-
  Own texts, laid together for this claim: contracts of functions of the program and its references, used by the statements of this seat.
-/
import Derived.Test.YtnhgnfdbdflhcaaGreatDoorMtab
import Derived.Test.YtnhgnfdbdflhcaaGreatDoorMtae
import Derived.Test.YtnhgnfdbdflhcaaGreatDoorMtaf
import Derived.Test.YtnhgnfdbdflhcaaGreatDoorMtah
import Derived.Test.YtnhgnfdbdflhcaaGreatDoorMtai
import Derived.Test.YtnhgnfdbdflhcaaGreatDoorMtaj
import Derived.Test.YtnhgnfdbdflhcaaGreatDoorMtao
import Derived.Test.YtnhgnfdbdflhcaaGreatDoorMtau
import Derived.Test.YtnhgnfdbdflhcaaGreatDoorMtav
import Derived.Test.YtnhgnfdbdflhcaaGreatDoorMtbc
import Derived.Test.YtnhgnfdbdflhcaaGreatDoorMtbd
import Derived.Test.YtnhgnfdbdflhcaaGreatDoorMtbf
import Derived.Test.YtnhgnfdbdflhcaaGreatDoorMtbg
set_option linter.all false
set_option maxHeartbeats 40000000
set_option maxRecDepth 100000
namespace Go.Ax
open Go Go.Eng Go.RowKit
variable {a:Int}{α:Type}{k:Int}{l:List α}{s:MS}
theorem Kp.ob_{l:List (El objT)}(h:Kp a k s)(hl:TR l):Kp a k {s with ob:=l}:={h with obl:=hl.1,obm:=hl.2}
theorem Kp.ks_{l:List (El J8)}(h:Kp a k s)(hl:aT l):Kp a k {s with ks:=l}:={h with ksl:=hl.1,ksm:=hl.2}
theorem Kp.obs(h:Kp a k s):TR s.ob:=⟨h.obl,h.obm⟩
theorem Kp.kss(h:Kp a k s):aT s.ks:=⟨h.ksl,h.ksm⟩
def A8D(c n0 n1 n2 n3:Int):Prop:=∃ a b d,shp c=some (a,b,d,n3)/\n0=(a:Nat)/\n1=(b:Nat)/\n2=(d:Nat)
theorem YP{p:α->Prop}(h:∀ i:Int,0<=i->∀ x,BO l i=some x->p x):∀ x∈l,p x:=by
 intro x hx
 obtain⟨n,hn,rfl⟩:=List.mem_iff_getElem.1 hx;exact h n zaa _ (Fe hn)
theorem jZ{p:α->Prop}{j:Int}{x0:α}(g:BO l j=some x0)(hx:p x0)(h:∀ i:Int,j+1<=i->∀ x,BO l i=some x->p x):∀ i:Int,j<=i->∀ x,BO l i=some x->p x:=by
 intro i hi x hg
 by_cases hij:i=j
 ·subst hij;rw[g] at hg;cases hg;exact hx
 ·exact h i zaa x hg
theorem ja{p:α->Prop}{j:Int}(hj:(l.length:Int)<=j):∀ i:Int,j<=i->∀ x,BO l i=some x->p x:=by
 intro i hi x hg
 rw[A0A (.inr zaa)] at hg
 cases hg
theorem A7O{c:Int}{hs:List Int}{az:List (El AY)}{is:List Int}{bs:List (List UInt8)}{n0 n1 n2 n3:Int}(hf:Few hs az is bs)(h:A8D c n0 n1 n2 n3)(e0:(hs.length:Int)=n0)(e1:(az.length:Int)=n1)(e2:(is.length:Int)=n2)(e3:(bs.length:Int)=n3\/n3 = -1/\0<=(bs.length:Int)/\(bs.length:Int)<=8)(h0:∀ i:Int,0<=i->∀ x,BO hs i=some x->0<=x/\x<=65535)(h1:∀ i:Int,0<=i->∀ x,BO az i=some x->(0:Int)<=x.1/\(x.1:Int)<=65535)(h2:∀ i:Int,0<=i->∀ x,BO is i=some x->0<=x/\x<=1099511627776)(h3:∀ x∈bs,x.length<=1024):Rok c hs az is bs:=by
 obtain⟨a,b,d,hq,rfl,rfl,rfl⟩:=h
 obtain rfl:hs.length=a:=zaa
 obtain rfl:az.length=b:=zaa
 obtain rfl:is.length=d:=zaa
 exact⟨hf,⟨n3,hq,by omega⟩,YP h0,YP h1,YP h2,h3⟩
end Go.Ax
namespace Go.Proofs.YtnhgnfdbdflhcaaGreatDoor
open Go Go.Ax Go.Eng
variable {a k:Int}(s:MS)(c h:Int)(hs:List Int)(i1:Int)(az:List (El AY))(is:List Int)(bs:List (List UInt8))
section
attribute [local irreducible] Cc Dn D7 DU DD BA Dp F7 FY FD Ez Ci CS DK DV and' DW DL C9 BR Bh CB CG BG BI Aw BC Dq Fh Dt ER DX Bl CE Bv Bz Bi Az Bg BK Bj BO Du Bc DF BZ BM Cj Di fits Dv Dk Ac Am BH
attribute [local irreducible] Dw CJ Be nameB EL Eh Ar ET E8 Ea ES F8 BV GX Eg Fv FU EE Fa Ej Ho I5
theorem zC(par:Sen)(en:List UInt8)(re rs dr k a t:Int)(o auth data:List UInt8):dr<=(Ho par en re rs dr k a t o auth data).1/\(Ho par en re rs dr k a t o auth data).1<=dr+1:=by
 unfold Ho
 dsimp only
 split
 ·exact⟨Int.le_refl _,by simp only;omega⟩
 ·exact⟨by simp only;omega,Int.le_refl _⟩
theorem bH(i2 i3:Int)(hs:List Int)(az:List (El AY))(o u d:List UInt8)(hi:Kp a k s)(hk:k<=900)(hz:0<=h/\h<=2)(hhs:hs.length<=100)(ho:o.length<=2000)(hd:d.length<=2000):Ah E0 (.call 60 [av s,rq c (h::hs) az [i1,i2,i3] [o,u,d]] []) fun r=>∃(t:MS) (e:Int) (is':List Int) (bs':List (List UInt8)),Kp a (k+1) t/\r=some (.ret (.tup [av t,rp e is' bs' []]) []):=by
 have hol:=hi.obl
 have hsl:=hi.sdl
 have hup:=hi.up (k':=k+1) zau
 exact⟨{s with ob:=(E8 s.sd s.ob h i1 i2 i3 o u d).1},(E8 s.sd s.ob h i1 i2 i3 o u d).2.err,(E8 s.sd s.ob h i1 i2 i3 o u d).2.ints,(E8 s.sd s.ob h i1 i2 i3 o u d).2.blobs,hup.ob_ (aU hi.obs),aJ _ _ _ _ _ _ _ _ _ _ _ _ _ _ _ _ _ _ _ _ _ _ _ _ _ _ _ _ _ _ _ _ _ _ _ _ _ _ _ _ zaa zaa (fun l hl=>by have:=hi.sdm l hl;omega) hhs zaa zaa zaa⟩
theorem jX(i2 i3:Int)(hs:List Int)(az:List (El AY))(o u d:List UInt8)(hi:Kp a k s)(hk:k<=900)(hz:0<=Jl h s.ob)(hhs:hs.length<=100)(ho:o.length<=2000)(hd:d.length<=2000):Ah E0 (.call 62 [av s,rq c (h::hs) az [i1,i2,i3] [o,u,d]] []) fun r=>∃(t:MS) (e:Int) (is':List Int) (bs':List (List UInt8)),Kp a (k+1) t/\r=some (.ret (.tup [av t,rp e is' bs' []]) []):=by
 obtain⟨x,hx,hmem,_⟩:=JZ hz
 obtain⟨⟨p1,p2,p3,p4,p5⟩,⟨s1,s2,s3⟩,hr⟩:=x
 have hb:=hi.obm _ hmem
 simp only[FZ,DC] at hb
 have hol:=hi.obl
 have hup:=hi.up (k':=k+1) zau
 have hen:=hi.en
 have hdr:=hi.dr
 by_cases h1:p1=1
 ·have hq:=zC ⟨s1,s2,s3⟩ s.en s.re s.rs s.dr i1 i2 i3 o u d
  exact⟨{s with dr:=(Ho ⟨s1,s2,s3⟩ s.en s.re s.rs s.dr i1 i2 i3 o u d).1},(Ho ⟨s1,s2,s3⟩ s.en s.re s.rs s.dr i1 i2 i3 o u d).2.err,(Ho ⟨s1,s2,s3⟩ s.en s.re s.rs s.dr i1 i2 i3 o u d).2.ints,(Ho ⟨s1,s2,s3⟩ s.en s.re s.rs s.dr i1 i2 i3 o u d).2.blobs,{hup with dr:=⟨Int.le_trans hdr.1 hq.1,Int.le_trans hq.2 zaa⟩},aN _ _ _ _ _ _ _ _ _ _ _ _ _ _ _ _ _ _ _ _ _ _ _ _ _ _ _ _ _ _ _ _ _ _ _ _ _ _ _ _ _ _ _ _ _ _ _ _ _ zaa hhs hx h1 zaa zaa zaa zaa zau⟩
 ·exact⟨s,19,[],[],hup,Vd _ _ _ _ _ _ _ _ _ _ _ _ _ _ _ _ _ _ _ _ _ _ _ _ _ _ _ _ _ _ _ _ _ _ _ _ _ _ _ _ _ _ _ _ _ zaa hhs hx h1⟩
theorem ug(o u:List UInt8)(hi:Kp a k s)(hk:k<=900)(hz:0<=Jl h s.ob)(hhs:hs.length<=100)(ho:o.length<=2000)(hd:u.length<=2000):Ah E0 (.call 64 [av s,rq c (h::hs) az is [o,u]] []) fun r=>∃(t:MS) (e:Int) (is':List Int) (bs':List (List UInt8)),Kp a (k+1) t/\r=some (.ret (.tup [av t,rp e is' bs' []]) []):=by
 obtain⟨x,hx,hmem,_⟩:=JZ hz
 obtain⟨⟨p1,p2,p3,p4,p5⟩,⟨s1,s2,s3⟩,hr⟩:=x
 have hb:=hi.obm _ hmem
 simp only[FZ,DC] at hb
 have hol:=hi.obl
 have hup:=hi.up (k':=k+1) zau
 by_cases h1:p1=1
 ·exact⟨{s with ob:=(I5 s.ob ⟨s1,s2,s3⟩ hr o u).1},(I5 s.ob ⟨s1,s2,s3⟩ hr o u).2.err,(I5 s.ob ⟨s1,s2,s3⟩ hr o u).2.ints,(I5 s.ob ⟨s1,s2,s3⟩ hr o u).2.blobs,hup.ob_ (zA hi.obs),oU _ _ _ _ _ _ _ _ _ _ _ _ _ _ _ _ _ _ _ _ _ _ _ _ _ _ _ _ _ _ _ _ _ _ _ _ _ _ _ _ _ _ _ _ _ _ zaa hhs hx h1 zaa zaa zaa⟩
 ·exact⟨s,19,[],[],hup,aO _ _ _ _ _ _ _ _ _ _ _ _ _ _ _ _ _ _ _ _ _ _ _ _ _ _ _ _ _ _ _ _ _ _ _ _ _ _ _ _ _ _ _ _ _ zaa hhs hx h1⟩
theorem jY(hi:Kp a k s)(hk:k<=900)(hz:0<=Jl h s.ob)(hhs:hs.length<=100):Ah E0 (.call 67 [av s,rq c (h::hs) az is bs] []) fun r=>∃(t:MS) (e:Int) (is':List Int) (bs':List (List UInt8)),Kp a (k+1) t/\r=some (.ret (.tup [av t,rp e is' bs' []]) []):=by
 obtain⟨x,hx,hmem,_⟩:=JZ hz
 obtain⟨⟨p1,p2,p3,p4,p5⟩,⟨s1,s2,s3⟩,hr⟩:=x
 have hb:=hi.obm _ hmem
 simp only[FZ,DC] at hb
 have hol:=hi.obl
 have hup:=hi.up (k':=k+1) zau
 by_cases h1:p1=3
 ·exact⟨s,0,[],[s3],hup,Ve _ _ _ _ _ _ _ _ _ _ _ _ _ _ _ _ _ _ _ _ _ _ _ _ _ _ _ _ _ _ _ _ _ _ _ _ _ _ _ _ _ _ _ _ _ zaa hhs hx h1 zaa⟩
 ·exact⟨s,19,[],[],hup,Vf _ _ _ _ _ _ _ _ _ _ _ _ _ _ _ _ _ _ _ _ _ _ _ _ _ _ _ _ _ _ _ _ _ _ _ _ _ _ _ _ _ _ _ _ _ zaa hhs hx h1⟩
theorem uh(m:List UInt8)(bs:List (List UInt8))(hi:Kp a k s)(hk:k<=900)(hz:0<=Jl h s.ob)(hhs:hs.length<=100)(hm:m.length<=2000)(hbs:bs.length<=100):Ah E0 (.call 69 [av s,rq c (h::hs) az is (m::bs)] []) fun r=>∃(t:MS) (e:Int) (is':List Int) (bs':List (List UInt8)),Kp a (k+1) t/\r=some (.ret (.tup [av t,rp e is' bs' []]) []):=by
 obtain⟨x,hx,hmem,_⟩:=JZ hz
 obtain⟨⟨p1,p2,p3,p4,p5⟩,⟨s1,s2,s3⟩,hr⟩:=x
 have hb:=hi.obm _ hmem
 simp only[FZ,DC] at hb
 have hol:=hi.obl
 have hup:=hi.up (k':=k+1) zau
 have hkl:=hi.ksl
 exact⟨{s with ks:=(Fa s.ks p1 p2 p3 p5 s2 m).1},(Fa s.ks p1 p2 p3 p5 s2 m).2.err,(Fa s.ks p1 p2 p3 p5 s2 m).2.ints,(Fa s.ks p1 p2 p3 p5 s2 m).2.blobs,hup.ks_ (oq hi.kss zaa zaa),ou _ _ _ _ _ _ _ _ _ _ _ _ _ _ _ _ _ _ _ _ _ _ _ _ _ _ _ _ _ _ _ _ _ _ _ _ _ _ _ _ _ _ _ _ _ _ zaa hhs hbs hx zaa zaa hi.ksm zaa zaa⟩
theorem oz(q0 q1:Int)(hs:List Int)(az:List (El AY))(m:List UInt8)(bs:List (List UInt8))(hi:Kp a k s)(hk:k<=900)(hz:0<=Jl h s.ob)(hhs:hs.length<=100)(hm:m.length<=2000)(hbs:bs.length<=100):Ah E0 (.call 15 [av s,rq c (h::hs) az [q0,q1] (m::bs)] []) fun r=>∃(t:MS) (e:Int) (is':List Int) (bs':List (List UInt8)),Kp a (k+1) t/\r=some (.ret (.tup [av t,rp e is' bs' []]) []):=by
 obtain⟨x,hx,hmem,_⟩:=JZ hz
 obtain⟨⟨p1,p2,p3,p4,p5⟩,⟨s1,s2,s3⟩,hr⟩:=x
 have hb:=hi.obm _ hmem
 simp only[FZ,DC] at hb
 have hol:=hi.obl
 have hup:=hi.up (k':=k+1) zau
 have hkl:=hi.ksl
 obtain⟨d,er,hd,hD⟩:=aC a s.rb s.ru q0 q1 hi.rb
 have hok:=eU (p1:=p1) (p2:=p2) (p3:=p3) (p5:=p5) (s2:=s2) (m:=m) (e:=er) (a:=⟨nameB ⟨p1,p2,p3,p4,p5⟩,m,s.re,s.rs,s.vc,s.sf,s.ru,q0,q1,d⟩) hi.kss zaa zaa
 have hv:=XA s.sd s.au s.en s.ac s.re s.rs s.ck s.od s.sb s.su s.mc s.ix s.l1 s.l2 s.l3 s.l4 s.l5 s.l6 s.ks s.st s.sp s.rb s.ru s.vc s.sf s.dr s.ss s.ob s.rl s.wl c h q0 q1 hs az m bs p1 p2 p3 p4 p5 s1 s2 s3 hr d er zaa hhs hbs hx zaa zaa hi.ksm zaa zaa zaa zaa zaa hD
 generalize Ej s.ks p1 p2 p3 p5 s2 m er ⟨nameB ⟨p1,p2,p3,p4,p5⟩,m,s.re,s.rs,s.vc,s.sf,s.ru,q0,q1,d⟩=Q at *
 exact⟨{s with ks:=Q.1},Q.2.err,Q.2.ints,Q.2.blobs,hup.ks_ hok,hv⟩
theorem pF(hs:List Int)(az:List (El AY))(is:List Int)(bs:List (List UInt8))(hi:Kp a k s)(hk:k<=900)(h1:0<=i1/\i1<=1099511627776)(hil:is.length<=100):Ah E0 (.call 66 [av s,rq c hs az (i1::is) bs] []) fun r=>∃(t:MS) (e:Int) (is':List Int) (bs':List (List UInt8)),Kp a (k+1) t/\r=some (.ret (.tup [av t,rp e is' bs' []]) []):=by
 have hol:=hi.obl
 have hsl:=PP i1 s.ob
 have hup:=hi.up (k':=k+1) zau
 refine CU fun P hP=>tw ?_
 rw[Eu (hl:=A7) ..];refine tw ?_
 rcases DJ 0 (Jl i1 s.ob) with hc0|hc0
 ·refine tw ?_;rw[YO (hl:=A7) (hk:=A7) ..];refine tw ?_;refine hP _ ⟨{s with ob:=s.ob.set (Jl i1 s.ob).toNat ((0,0,0,[],[]),([],[],[]),0)},0,[],[],?_,rfl⟩;exact hup.ob_ (jW hi.obs ⟨by decide,by decide,by decide,by decide,by decide,by decide,by decide⟩)
 refine tw ?_;obtain⟨e1,t1_1,h1_2,yy1⟩:=nS s i1 hup A7;refine Aq yy1 ?_
 rcases AX e1 0 with hc2|hc2
 ·refine tw ?_;rw[EQ ..];refine tw ?_;exact hP _ ⟨s,7,[],[],A7,rfl⟩
 subst hc2
 replace h1_2:=h1_2 rfl
 refine tw ?_;refine hP _ ⟨t1_1,0,[],[],?_,rfl⟩;exact h1_2.1
end
section
attribute [local irreducible] Cc Dn D7 DU DD BA Dp F7 FY FD Ez Ci CS DK DV and' DW DL C9 BR Bh CB CG BG BI Aw BC Dq Fh Dt ER DX Bl CE Bv Bz Bi Az Bg BK Bj BO Du Bc DF BZ BM Cj Di fits Dv Dk Ac Am BH
theorem BQ:Y E0 (.call 181 [] [])=some (.ret (.agg [.i (-2),.i 0,.i 0,.i 0,.i 0,.i 0,.i 1,.i 0,.i 0,.i 0,.i 1,.i 0,.i (-2),.i 0,.i 0,.i 0,.i 0,.i 0,.i 0,.i 0,.i 0,.i 0,.i 2,.i 0,.i 0,.i 0,.i 1,.i 2,.i 0,.i 0,.i 1,.i 1,.i 0,.i 0,.i 1,.i 0,.i 1,.i 1,.i 3,.i 3,.i 1,.i 1,.i 3,.i 3,.i 1,.i 1,.i 0,.i 2,.i 0,.i 0,.i 1,.i 0,.i 1,.i 1,.i 0,.i 0,.i 1,.i 1,.i 0,.i 1,.i 1,.i 1,.i 2,.i 1,.i 0,.i 0,.i 1,.i 0,.i 0,.i 0,.i 6,.i (-1),.i 1,.i 1,.i 2,.i 1,.i 0,.i 0,.i 1,.i 3,.i 0,.i 0,.i 1,.i 0,.i 1,.i 1,.i 4,.i 2,.i 1,.i 1,.i 1,.i 0,.i 2,.i 1,.i 1,.i 1,.i 2,.i 1,.i 2,.i 0,.i 2,.i 1,.i 0,.i 0,.i 2,.i 1,.i 0,.i 1,.i 2,.i 1,.i 0,.i 1,.i 2,.i 1,.i 0,.i 0,.i 2,.i 1,.i 0,.i 0,.i 1,.i 1,.i 0,.i 1,.i 1,.i 1,.i 0,.i 0,.i 1,.i 1,.i 0,.i 0,.i 1,.i 1,.i 3,.i 0]) []):=by
 rw[Ad]
 kernel_rfl
theorem pG:Ah E0 (.call 117 [.i c] []) fun r=>∃(n0 n1 n2 n3:Int) (b:Bool),(b=true->A8D c n0 n1 n2 n3)/\r=some (.ret (.tup [.agg [.i n0,.i n1,.i n2,.i n3],.b b]) []):=by
 refine CU fun P hP=>?_
 rcases(by omega:c=0\/c=1\/c=2\/c=3\/c=4\/c=5\/c=6\/c=7\/c=8\/c=9\/c=10\/c=11\/c=12\/c=13\/c=14\/c=15\/c=16\/c=17\/c=18\/c=19\/c=20\/c=21\/c=22\/c=23\/c=24\/c=25\/c=26\/c=27\/c=28\/c=29\/c=30\/c=31\/c=32\/c=33\/¬(0<=c/\c<34)) with rfl|rfl|rfl|rfl|rfl|rfl|rfl|rfl|rfl|rfl|rfl|rfl|rfl|rfl|rfl|rfl|rfl|rfl|rfl|rfl|rfl|rfl|rfl|rfl|rfl|rfl|rfl|rfl|rfl|rfl|rfl|rfl|rfl|rfl|hc
 ·refine tw ?_;rw[BQ];refine tw ?_;refine hP _ ⟨0,0,0,0,false,?_,rfl⟩;(intro h;exact absurd h zal)
 ·refine tw ?_;rw[BQ];refine tw ?_;refine hP _ ⟨0,0,1,0,true,?_,rfl⟩;(intro h;exact⟨_,_,_,rfl,rfl,rfl,rfl⟩)
 ·refine tw ?_;rw[BQ];refine tw ?_;refine hP _ ⟨0,0,1,0,true,?_,rfl⟩;(intro h;exact⟨_,_,_,rfl,rfl,rfl,rfl⟩)
 ·refine tw ?_;rw[BQ];refine tw ?_;refine hP _ ⟨0,0,0,0,false,?_,rfl⟩;(intro h;exact absurd h zal)
 ·refine tw ?_;rw[BQ];refine tw ?_;refine hP _ ⟨0,0,0,0,true,?_,rfl⟩;(intro h;exact⟨_,_,_,rfl,rfl,rfl,rfl⟩)
 ·refine tw ?_;rw[BQ];refine tw ?_;refine hP _ ⟨0,0,2,0,true,?_,rfl⟩;(intro h;exact⟨_,_,_,rfl,rfl,rfl,rfl⟩)
 ·refine tw ?_;rw[BQ];refine tw ?_;refine hP _ ⟨0,0,1,2,true,?_,rfl⟩;(intro h;exact⟨_,_,_,rfl,rfl,rfl,rfl⟩)
 ·refine tw ?_;rw[BQ];refine tw ?_;refine hP _ ⟨0,0,1,1,true,?_,rfl⟩;(intro h;exact⟨_,_,_,rfl,rfl,rfl,rfl⟩)
 ·refine tw ?_;rw[BQ];refine tw ?_;refine hP _ ⟨0,0,1,0,true,?_,rfl⟩;(intro h;exact⟨_,_,_,rfl,rfl,rfl,rfl⟩)
 ·refine tw ?_;rw[BQ];refine tw ?_;refine hP _ ⟨1,1,3,3,true,?_,rfl⟩;(intro h;exact⟨_,_,_,rfl,rfl,rfl,rfl⟩)
 ·refine tw ?_;rw[BQ];refine tw ?_;refine hP _ ⟨1,1,3,3,true,?_,rfl⟩;(intro h;exact⟨_,_,_,rfl,rfl,rfl,rfl⟩)
 ·refine tw ?_;rw[BQ];refine tw ?_;refine hP _ ⟨1,1,0,2,true,?_,rfl⟩;(intro h;exact⟨_,_,_,rfl,rfl,rfl,rfl⟩)
 ·refine tw ?_;rw[BQ];refine tw ?_;refine hP _ ⟨0,0,1,0,true,?_,rfl⟩;(intro h;exact⟨_,_,_,rfl,rfl,rfl,rfl⟩)
 ·refine tw ?_;rw[BQ];refine tw ?_;refine hP _ ⟨1,1,0,0,true,?_,rfl⟩;(intro h;exact⟨_,_,_,rfl,rfl,rfl,rfl⟩)
 ·refine tw ?_;rw[BQ];refine tw ?_;refine hP _ ⟨1,1,0,1,true,?_,rfl⟩;(intro h;exact⟨_,_,_,rfl,rfl,rfl,rfl⟩)
 ·refine tw ?_;rw[BQ];refine tw ?_;refine hP _ ⟨1,1,2,1,true,?_,rfl⟩;(intro h;exact⟨_,_,_,rfl,rfl,rfl,rfl⟩)
 ·refine tw ?_;rw[BQ];refine tw ?_;refine hP _ ⟨0,0,1,0,true,?_,rfl⟩;(intro h;exact⟨_,_,_,rfl,rfl,rfl,rfl⟩)
 ·refine tw ?_;rw[BQ];refine tw ?_;refine hP _ ⟨0,0,6,-1,true,?_,rfl⟩;(intro h;exact⟨_,_,_,rfl,rfl,rfl,rfl⟩)
 ·refine tw ?_;rw[BQ];refine tw ?_;refine hP _ ⟨1,1,2,1,true,?_,rfl⟩;(intro h;exact⟨_,_,_,rfl,rfl,rfl,rfl⟩)
 ·refine tw ?_;rw[BQ];refine tw ?_;refine hP _ ⟨0,0,1,3,true,?_,rfl⟩;(intro h;exact⟨_,_,_,rfl,rfl,rfl,rfl⟩)
 ·refine tw ?_;rw[BQ];refine tw ?_;refine hP _ ⟨0,0,1,0,true,?_,rfl⟩;(intro h;exact⟨_,_,_,rfl,rfl,rfl,rfl⟩)
 ·refine tw ?_;rw[BQ];refine tw ?_;refine hP _ ⟨1,1,4,2,true,?_,rfl⟩;(intro h;exact⟨_,_,_,rfl,rfl,rfl,rfl⟩)
 ·refine tw ?_;rw[BQ];refine tw ?_;refine hP _ ⟨1,1,1,0,true,?_,rfl⟩;(intro h;exact⟨_,_,_,rfl,rfl,rfl,rfl⟩)
 ·refine tw ?_;rw[BQ];refine tw ?_;refine hP _ ⟨2,1,1,1,true,?_,rfl⟩;(intro h;exact⟨_,_,_,rfl,rfl,rfl,rfl⟩)
 ·refine tw ?_;rw[BQ];refine tw ?_;refine hP _ ⟨2,1,2,0,true,?_,rfl⟩;(intro h;exact⟨_,_,_,rfl,rfl,rfl,rfl⟩)
 ·refine tw ?_;rw[BQ];refine tw ?_;refine hP _ ⟨2,1,0,0,true,?_,rfl⟩;(intro h;exact⟨_,_,_,rfl,rfl,rfl,rfl⟩)
 ·refine tw ?_;rw[BQ];refine tw ?_;refine hP _ ⟨2,1,0,1,true,?_,rfl⟩;(intro h;exact⟨_,_,_,rfl,rfl,rfl,rfl⟩)
 ·refine tw ?_;rw[BQ];refine tw ?_;refine hP _ ⟨2,1,0,1,true,?_,rfl⟩;(intro h;exact⟨_,_,_,rfl,rfl,rfl,rfl⟩)
 ·refine tw ?_;rw[BQ];refine tw ?_;refine hP _ ⟨2,1,0,0,true,?_,rfl⟩;(intro h;exact⟨_,_,_,rfl,rfl,rfl,rfl⟩)
 ·refine tw ?_;rw[BQ];refine tw ?_;refine hP _ ⟨2,1,0,0,true,?_,rfl⟩;(intro h;exact⟨_,_,_,rfl,rfl,rfl,rfl⟩)
 ·refine tw ?_;rw[BQ];refine tw ?_;refine hP _ ⟨1,1,0,1,true,?_,rfl⟩;(intro h;exact⟨_,_,_,rfl,rfl,rfl,rfl⟩)
 ·refine tw ?_;rw[BQ];refine tw ?_;refine hP _ ⟨1,1,0,0,true,?_,rfl⟩;(intro h;exact⟨_,_,_,rfl,rfl,rfl,rfl⟩)
 ·refine tw ?_;rw[BQ];refine tw ?_;refine hP _ ⟨1,1,0,0,true,?_,rfl⟩;(intro h;exact⟨_,_,_,rfl,rfl,rfl,rfl⟩)
 ·refine tw ?_;rw[BQ];refine tw ?_;refine hP _ ⟨1,1,3,0,true,?_,rfl⟩;(intro h;exact⟨_,_,_,rfl,rfl,rfl,rfl⟩)
 ·refine tw ?_;rw[BQ];refine tw ?_
  rcases AZ c 0 with hc0|hc0
  ·refine tw ?_;refine hP _ ⟨0,0,0,0,false,?_,rfl⟩;(intro h;exact absurd h zal)
  refine tw ?_;refine hP _ ⟨0,0,0,0,false,?_,rfl⟩;(intro h;exact absurd h zal)
theorem ui(w n:Int):Ah E0 (.call 118 [.i w,.i n] []) fun r=>∃ b:Bool,(b=true->n=w\/w = -1/\0<=n/\n<=8)/\r=some (.ret (.b b) []):=by
 refine CU fun P hP=>tw ?_
 rcases AL n w with hc0|hc0
 ·subst hc0;refine tw ?_;exact hP _ ⟨true,A7,rfl⟩
 refine tw ?_
 rcases AL w (-1) with hc1|hc1
 ·subst hc1;refine tw ?_
  rcases DJ 0 n with hc2|hc2
  ·refine tw ?_
   refine hP _ ⟨Ez n 8,?_,rfl⟩;(intro hz;simp only[Dz,EU,decide_eq_true_eq,Bool.false_eq_true] at hz<;>omega)
  refine tw ?_
  refine hP _ ⟨false,?_,rfl⟩;(intro hz;simp only[Dz,EU,decide_eq_true_eq,Bool.false_eq_true] at hz<;>omega)
 refine tw ?_
 refine hP _ ⟨false,?_,rfl⟩;(intro hz;simp only[Dz,EU,decide_eq_true_eq,Bool.false_eq_true] at hz<;>omega)
theorem Vh:Ah E0 (.call 119 [.i h] []) fun r=>∃ b:Bool,(b=true->0<=h/\h<=65535)/\r=some (.ret (.b b) []):=by
 refine CU fun P hP=>tw ?_
 rcases DJ 0 h with hc0|hc0
 ·refine tw ?_
  refine hP _ ⟨Ez h 65535,?_,rfl⟩;(intro hz;simp only[Dz,EU,decide_eq_true_eq,Bool.false_eq_true] at hz<;>omega)
 refine tw ?_
 refine hP _ ⟨false,?_,rfl⟩;(intro hz;simp only[Dz,EU,decide_eq_true_eq,Bool.false_eq_true] at hz<;>omega)
theorem TS(c:Int)(hs:List Int)(az:List (El AY))(is:List Int)(bs:List (List UInt8))(hf:Few hs az is bs):∀(n:Nat) (j:Int) (b:List UInt8),0<=j->j+n=hs.length->5<=b.length->(b.length:Int)<=5+2*j->Ah E0 (.loop 182 0 0 2 [(1,.pa 0 0),(3,.nm 1),(4,.i j)] [(0,some (.var [.i c,.sl .i64 hs,.sl AY az,.sl .i64 is,.sl (.sl .u8) bs])),(1,some (.row 5 .u8 b))]) fun r=>∃ b:List UInt8,(5<=b.length/\b.length<=25)/\r=some (.fin (.exit 0) 2 [(1,.pa 0 0),(3,.nm 1)] [(0,some (.var [.i c,.sl .i64 hs,.sl AY az,.sl .i64 is,.sl (.sl .u8) bs])),(1,some (.row 5 .u8 b))])
 | 0,j,b,h0,hj,h5,hb=>by
  have hl:=hf.hl
  refine CU fun P hP=>?_
  refine tw ?_;exact hP _ ⟨b,A7,rfl⟩
 | n+1,j,b,h0,hj,h5,hb=>by
  have hl:=hf.hl
  have ih:=fun b=>TS c hs az is bs hf n (j+1) b zaa zaa
  refine CU fun P hP=>?_
  refine tw ?_;obtain⟨x0,m0,g0⟩:=EY (l:=hs) (i:=j) zaa;rw[g0];refine tw ?_;rw[CP _ _ _ A7];refine tw ?_;exact hP _ (ih _ zaT zaT)
theorem TU(c:Int)(hs:List Int)(az:List (El AY))(is:List Int)(bs:List (List UInt8))(hf:Few hs az is bs):∀(n:Nat) (j:Int) (b:List UInt8),0<=j->j+n=az.length->5<=b.length->(b.length:Int)<=25+2010*j->Ah E0 (.loop 182 1 0 2 [(1,.pa 0 0),(3,.nm 1),(5,.i j)] [(0,some (.var [.i c,.sl .i64 hs,.sl AY az,.sl .i64 is,.sl (.sl .u8) bs])),(1,some (.row 5 .u8 b))]) fun r=>∃ b:List UInt8,(5<=b.length/\b.length<=20125)/\r=some (.fin (.exit 2) 2 [(1,.pa 0 0),(3,.nm 1)] [(0,some (.var [.i c,.sl .i64 hs,.sl AY az,.sl .i64 is,.sl (.sl .u8) bs])),(1,some (.row 5 .u8 b))])
 | 0,j,b,h0,hj,h5,hb=>by
  have hl:=hf.al
  refine CU fun P hP=>?_
  refine tw ?_;exact hP _ ⟨b,A7,rfl⟩
 | n+1,j,b,h0,hj,h5,hb=>by
  have hl:=hf.al
  have hm:=hf.am
  have ih:=fun b=>TU c hs az is bs hf n (j+1) b zaa zaa
  refine CU fun P hP=>?_
  refine tw ?_;obtain⟨⟨x0a,x0b,x0c⟩,f0,g0⟩:=Dc hm (i:=j) A7;simp only[Gh,GY,Gz,FZ,CZ,Df,Dh,DC] at f0;rw[g0];refine tw ?_;rw[CP _ _ _ A7];refine tw ?_;rw[g0];refine tw ?_;rw[GM _ _ A7];refine tw ?_;rw[g0];refine tw ?_;rw[GM _ _ A7];refine tw ?_;exact hP _ (ih _ zaT zaT)
theorem TV(c:Int)(hs:List Int)(az:List (El AY))(is:List Int)(bs:List (List UInt8))(hf:Few hs az is bs):∀(n:Nat) (j:Int) (b:List UInt8),0<=j->j+n=is.length->5<=b.length->(b.length:Int)<=20125+8*j->Ah E0 (.loop 182 2 0 2 [(1,.pa 0 0),(3,.nm 1),(6,.i j)] [(0,some (.var [.i c,.sl .i64 hs,.sl AY az,.sl .i64 is,.sl (.sl .u8) bs])),(1,some (.row 5 .u8 b))]) fun r=>∃ b:List UInt8,(5<=b.length/\b.length<=20205)/\r=some (.fin (.exit 4) 2 [(1,.pa 0 0),(3,.nm 1)] [(0,some (.var [.i c,.sl .i64 hs,.sl AY az,.sl .i64 is,.sl (.sl .u8) bs])),(1,some (.row 5 .u8 b))])
 | 0,j,b,h0,hj,h5,hb=>by
  have hl:=hf.il
  refine CU fun P hP=>?_
  refine tw ?_;exact hP _ ⟨b,A7,rfl⟩
 | n+1,j,b,h0,hj,h5,hb=>by
  have hl:=hf.il
  have ih:=fun b=>TV c hs az is bs hf n (j+1) b zaa zaa
  refine CU fun P hP=>?_
  refine tw ?_;obtain⟨x0,m0,g0⟩:=EY (l:=is) (i:=j) zaa;rw[g0];refine tw ?_;rw[CP _ _ _ A7];refine tw ?_;exact hP _ (ih _ zaT zaT)
theorem TW(c:Int)(hs:List Int)(az:List (El AY))(is:List Int)(bs:List (List UInt8))(hf:Few hs az is bs):∀(n:Nat) (j:Int) (b:List UInt8),0<=j->j+n=bs.length->5<=b.length->(b.length:Int)<=20206+2004*j->Ah E0 (.loop 182 3 0 2 [(1,.pa 0 0),(3,.nm 1),(7,.i j)] [(0,some (.var [.i c,.sl .i64 hs,.sl AY az,.sl .i64 is,.sl (.sl .u8) bs])),(1,some (.row 5 .u8 b))]) fun r=>∃ b:List UInt8,(5<=b.length/\b.length<=40246)/\r=some (.fin (.exit 6) 1 [(3,.nm 0)] [(0,some (.row 5 .u8 b))])
 | 0,j,b,h0,hj,h5,hb=>by
  have hl:=hf.bl
  refine CU fun P hP=>?_
  refine tw ?_;exact hP _ ⟨b,A7,rfl⟩
 | n+1,j,b,h0,hj,h5,hb=>by
  have hl:=hf.bl
  have hm:=hf.bm
  have ih:=fun b=>TW c hs az is bs hf n (j+1) b zaa zaa
  refine CU fun P hP=>?_
  refine tw ?_;obtain⟨x0,f0,g0⟩:=Dc hm (i:=j) A7;rw[g0];refine tw ?_;rw[GM _ _ A7];refine tw ?_;exact hP _ (ih _ zaT zaT)
theorem uj(hf:Few hs az is bs):Ah E0 (.call 182 [rq c hs az is bs] []) fun r=>∃ l:List UInt8,(l.length<=100000)/\r=some (.ret (.sl .u8 l) []):=by
 refine CU fun P hP=>tw ?_
 obtain⟨b0,⟨h0_1,h0_2⟩,yy0⟩:=TS c hs az is bs A7 (Int.toNat (↑hs.length-(0))) 0 [UInt8.ofNat 83,UInt8.ofNat 87,UInt8.ofNat 0,UInt8.ofNat 0,ER c] A7 zaa A7 A7;refine Aq yy0 ?_;obtain⟨b1,⟨h1_1,h1_2⟩,yy1⟩:=TU c hs az is bs A7 (Int.toNat (↑az.length-(0))) 0 b0 A7 zaa A7 A7;refine Aq yy1 ?_;obtain⟨b2,⟨h2_1,h2_2⟩,yy2⟩:=TV c hs az is bs A7 (Int.toNat (↑is.length-(0))) 0 b1 A7 zaa A7 A7;refine Aq yy2 ?_;obtain⟨b3,⟨h3_1,h3_2⟩,yy3⟩:=TW c hs az is bs A7 (Int.toNat (↑bs.length-(0))) 0 (BM b2 [ER (Bj bs)]) A7 zaa A7 A7;refine Aq yy3 ?_;obtain⟨x4,m4,g4⟩:=EY (l:=b3) (i:=2) zaa;rw[g4];refine tw ?_;obtain⟨x5,m5,g5⟩:=EY (l:=Bc b3 2 (ER (CS (Bj b3) (UInt64.ofNat 8).toNat))) (i:=3) zaB;rw[g5];refine tw ?_;exact hP _ ⟨Bc (Bc b3 2 (ER (CS (Bj b3) (UInt64.ofNat 8).toNat))) 3 (ER (Bj b3)),A7,rfl⟩
theorem TY(c:Int)(hs:List Int)(az:List (El AY))(is:List Int)(bs:List (List UInt8))(hf:Few hs az is bs):∀(n:Nat) (j:Int),0<=j->j+n=az.length->Ah E0 (.loop 120 0 0 1 [(1,.pa 0 0),(3,.i j)] [(0,some (.var [.i c,.sl .i64 hs,.sl AY az,.sl .i64 is,.sl (.sl .u8) bs]))]) fun r=>r=some (.fin .ret 1 [(1,.pa 0 0),(2,.b true)] [(0,some (.var [.i c,.sl .i64 hs,.sl AY az,.sl .i64 is,.sl (.sl .u8) bs]))])\/r=some (.fin (.exit 0) 1 [(1,.pa 0 0)] [(0,some (.var [.i c,.sl .i64 hs,.sl AY az,.sl .i64 is,.sl (.sl .u8) bs]))])
 | 0,j,h0,hj=>by
  have hl:=hf.al
  refine CU fun P hP=>?_
  refine tw ?_;exact hP _ (Or.inr rfl)
 | n+1,j,h0,hj=>by
  have hl:=hf.al
  have hm:=hf.am
  have ih:=TY c hs az is bs hf n (j+1) zaa zaa
  refine CU fun P hP=>?_
  refine tw ?_;obtain⟨⟨x0a,x0b,x0c⟩,f0,g0⟩:=Dc hm (i:=j) A7;simp only[Gh,GY,Gz,FZ,CZ,Df,Dh,DC] at f0;rw[g0];refine tw ?_
  rcases AZ 128 (↑(List.length x0b)) with hc1|hc1
  ·refine tw ?_;exact hP _ (Or.inl rfl)
  refine tw ?_;rw[g0];refine tw ?_
  rcases AZ 128 (↑(List.length x0c)) with hc2|hc2
  ·refine tw ?_;exact hP _ (Or.inl rfl)
  refine tw ?_;exact hP _ ih
theorem TZ(c:Int)(hs:List Int)(az:List (El AY))(is:List Int)(bs:List (List UInt8))(hf:Few hs az is bs):∀(n:Nat) (j:Int),0<=j->j+n=bs.length->Ah E0 (.loop 120 1 0 1 [(1,.pa 0 0),(4,.i j)] [(0,some (.var [.i c,.sl .i64 hs,.sl AY az,.sl .i64 is,.sl (.sl .u8) bs]))]) fun r=>r=some (.fin .ret 1 [(1,.pa 0 0),(2,.b true)] [(0,some (.var [.i c,.sl .i64 hs,.sl AY az,.sl .i64 is,.sl (.sl .u8) bs]))])\/(∀ i:Int,j<=i->∀ x,BO bs i=some x->x.length<=1024)/\r=some (.fin (.exit 2) 1 [(1,.pa 0 0)] [(0,some (.var [.i c,.sl .i64 hs,.sl AY az,.sl .i64 is,.sl (.sl .u8) bs]))])
 | 0,j,h0,hj=>by
  have hl:=hf.bl
  refine CU fun P hP=>?_
  refine tw ?_;refine hP _ (Or.inr ⟨?_,rfl⟩);exact ja zaa
 | n+1,j,h0,hj=>by
  have hl:=hf.bl
  have hm:=hf.bm
  have ih:=TZ c hs az is bs hf n (j+1) zaa zaa
  refine CU fun P hP=>?_
  refine tw ?_;obtain⟨x0,f0,g0⟩:=Dc hm (i:=j) A7;rw[g0];refine tw ?_
  rcases AZ 1024 (↑x0.length) with hc1|hc1
  ·refine tw ?_;exact hP _ (Or.inl rfl)
  refine tw ?_;exact hP _ (ih.imp id fun h=>⟨jZ (p:=fun x:List UInt8=>x.length<=1024) zav zaa h.1,h.2⟩)
theorem uk(hf:Few hs az is bs):Ah E0 (.call 120 [rq c hs az is bs] []) fun r=>∃ b:Bool,(b=false->∀ x∈bs,x.length<=1024)/\r=some (.ret (.b b) []):=by
 refine CU fun P hP=>tw ?_
 obtain(yy0|yy0):=TY c hs az is bs A7 (Int.toNat (↑az.length-(0))) 0 A7 zaa
 ·refine Aq yy0 ?_;refine hP _ ⟨true,?_,rfl⟩;(intro h;cases h)
 refine Aq yy0 ?_
 obtain(yy1|⟨h1_0,yy1⟩):=TZ c hs az is bs A7 (Int.toNat (↑bs.length-(0))) 0 A7 zaa
 ·refine Aq yy1 ?_;refine hP _ ⟨true,?_,rfl⟩;(intro h;cases h)
 refine Aq yy1 ?_;obtain⟨l2,h2_1,yy2⟩:=uj c hs az is bs A7;refine Aq yy2 ?_;refine hP _ ⟨FD 2048 (Bj l2),?_,rfl⟩;exact fun _=>YP zav
theorem Vj(c:Int)(hs:List Int)(az:List (El AY))(is:List Int)(bs:List (List UInt8))(hf:Few hs az is bs):∀(n:Nat) (j:Int),0<=j->j+n=hs.length->Ah E0 (.loop 58 0 0 1 [(1,.pa 0 0),(5,.i j)] [(0,some (.var [.i c,.sl .i64 hs,.sl AY az,.sl .i64 is,.sl (.sl .u8) bs]))]) fun r=>(∃ e:Int,(e≠0)/\r=some (.fin .ret 1 [(1,.pa 0 0),(2,.i e)] [(0,some (.var [.i c,.sl .i64 hs,.sl AY az,.sl .i64 is,.sl (.sl .u8) bs]))]))\/(∀ i:Int,j<=i->∀ x,BO hs i=some x->0<=x/\x<=65535)/\r=some (.fin (.exit 0) 1 [(1,.pa 0 0)] [(0,some (.var [.i c,.sl .i64 hs,.sl AY az,.sl .i64 is,.sl (.sl .u8) bs]))])
 | 0,j,h0,hj=>by
  have hl:=hf.hl
  refine CU fun P hP=>?_
  refine tw ?_;refine hP _ (Or.inr ⟨?_,rfl⟩);exact ja zaa
 | n+1,j,h0,hj=>by
  have hl:=hf.hl
  have ih:=Vj c hs az is bs hf n (j+1) zaa zaa
  refine CU fun P hP=>?_
  refine tw ?_;obtain⟨x0,m0,g0⟩:=EY (l:=hs) (i:=j) zaa;rw[g0];refine tw ?_;obtain⟨b1,h1_1,yy1⟩:=Vh x0;refine Aq yy1 ?_
  rcases bo b1 with rfl|rfl
  ·replace h1_1:=h1_1 rfl
   refine tw ?_;exact hP _ (ih.imp id fun h=>⟨jZ zav za7 h.1,h.2⟩)
  refine tw ?_;exact hP _ (Or.inl ⟨1,A7,rfl⟩)
theorem Vk(c:Int)(hs:List Int)(az:List (El AY))(is:List Int)(bs:List (List UInt8))(hf:Few hs az is bs):∀(n:Nat) (j:Int),0<=j->j+n=az.length->Ah E0 (.loop 58 1 0 1 [(1,.pa 0 0),(6,.i j)] [(0,some (.var [.i c,.sl .i64 hs,.sl AY az,.sl .i64 is,.sl (.sl .u8) bs]))]) fun r=>(∃ e:Int,(e≠0)/\r=some (.fin .ret 1 [(1,.pa 0 0),(2,.i e)] [(0,some (.var [.i c,.sl .i64 hs,.sl AY az,.sl .i64 is,.sl (.sl .u8) bs]))]))\/(∀ i:Int,j<=i->∀ x,BO az i=some x->(0:Int)<=x.1/\(x.1:Int)<=65535)/\r=some (.fin (.exit 2) 1 [(1,.pa 0 0)] [(0,some (.var [.i c,.sl .i64 hs,.sl AY az,.sl .i64 is,.sl (.sl .u8) bs]))])
 | 0,j,h0,hj=>by
  have hl:=hf.al
  refine CU fun P hP=>?_
  refine tw ?_;refine hP _ (Or.inr ⟨?_,rfl⟩);exact ja zaa
 | n+1,j,h0,hj=>by
  have hl:=hf.al
  have ih:=Vk c hs az is bs hf n (j+1) zaa zaa
  refine CU fun P hP=>?_
  refine tw ?_;obtain⟨x0,m0,g0⟩:=EY (l:=az) (i:=j) zaa
  obtain⟨x0a,x0b,x0c⟩:=x0;rw[g0];refine tw ?_;obtain⟨b1,h1_1,yy1⟩:=Vh x0a;refine Aq yy1 ?_
  rcases bo b1 with rfl|rfl
  ·replace h1_1:=h1_1 rfl
   refine tw ?_;exact hP _ (ih.imp id fun h=>⟨jZ zav za7 h.1,h.2⟩)
  refine tw ?_;exact hP _ (Or.inl ⟨1,A7,rfl⟩)
theorem Vl(c:Int)(hs:List Int)(az:List (El AY))(is:List Int)(bs:List (List UInt8))(hf:Few hs az is bs):∀(n:Nat) (j:Int),0<=j->j+n=is.length->Ah E0 (.loop 58 2 0 1 [(1,.pa 0 0),(7,.i j)] [(0,some (.var [.i c,.sl .i64 hs,.sl AY az,.sl .i64 is,.sl (.sl .u8) bs]))]) fun r=>(∃ e:Int,(e≠0)/\r=some (.fin .ret 1 [(1,.pa 0 0),(2,.i e)] [(0,some (.var [.i c,.sl .i64 hs,.sl AY az,.sl .i64 is,.sl (.sl .u8) bs]))]))\/(∀ i:Int,j<=i->∀ x,BO is i=some x->0<=x/\x<=1099511627776)/\r=some (.fin (.exit 4) 1 [(1,.pa 0 0)] [(0,some (.var [.i c,.sl .i64 hs,.sl AY az,.sl .i64 is,.sl (.sl .u8) bs]))])
 | 0,j,h0,hj=>by
  have hl:=hf.il
  refine CU fun P hP=>?_
  refine tw ?_;refine hP _ (Or.inr ⟨?_,rfl⟩);exact ja zaa
 | n+1,j,h0,hj=>by
  have hl:=hf.il
  have ih:=Vl c hs az is bs hf n (j+1) zaa zaa
  refine CU fun P hP=>?_
  refine tw ?_;obtain⟨x0,m0,g0⟩:=EY (l:=is) (i:=j) zaa;rw[g0];refine tw ?_
  rcases AZ x0 0 with hc1|hc1
  ·refine tw ?_;exact hP _ (Or.inl ⟨1,A7,rfl⟩)
  refine tw ?_;rw[g0];refine tw ?_
  rcases AZ 1099511627776 x0 with hc2|hc2
  ·refine tw ?_;exact hP _ (Or.inl ⟨1,A7,rfl⟩)
  refine tw ?_;exact hP _ (ih.imp id fun h=>⟨jZ (p:=fun x:Int=>0<=x/\x<=1099511627776) zav za7 h.1,h.2⟩)
theorem Qv(hf:Few hs az is bs):Ah E0 (.call 58 [rq c hs az is bs] []) fun r=>∃ e:Int,(e=0->Rok c hs az is bs)/\r=some (.ret (.i e) []):=by
 refine CU fun P hP=>tw ?_
 obtain⟨n00,n10_1,n20_2,n30_3,b0_4,h0_5,yy0⟩:=pG c;refine Aq yy0 ?_
 rcases bo b0_4 with rfl|rfl
 ·replace h0_5:=h0_5 rfl
  refine tw ?_
  rcases AX (↑hs.length) n00 with hc2|hc2
  ·refine tw ?_;exact hP _ ⟨1,A7,rfl⟩
  subst hc2;refine tw ?_
  rcases AX (↑az.length) n10_1 with hc3|hc3
  ·refine tw ?_;exact hP _ ⟨1,A7,rfl⟩
  subst hc3;refine tw ?_
  rcases AX (↑is.length) n20_2 with hc4|hc4
  ·refine tw ?_;exact hP _ ⟨1,A7,rfl⟩
  subst hc4;refine tw ?_;obtain⟨b5,h5_1,yy5⟩:=ui n30_3 (Bj bs);refine Aq yy5 ?_
  rcases bo b5 with rfl|rfl
  ·replace h5_1:=h5_1 rfl
   refine tw ?_
   obtain(⟨e7,h7_1,yy7⟩|⟨h7_2,yy7⟩):=Vj c hs az is bs A7 (Int.toNat (↑hs.length-(0))) 0 A7 zaa
   ·refine Aq yy7 ?_;exact hP _ ⟨e7,A7,rfl⟩
   refine Aq yy7 ?_
   obtain(⟨e8,h8_1,yy8⟩|⟨h8_2,yy8⟩):=Vk c hs az is bs A7 (Int.toNat (↑az.length-(0))) 0 A7 zaa
   ·refine Aq yy8 ?_;exact hP _ ⟨e8,A7,rfl⟩
   refine Aq yy8 ?_
   obtain(⟨e9,h9_1,yy9⟩|⟨h9_2,yy9⟩):=Vl c hs az is bs A7 (Int.toNat (↑is.length-(0))) 0 A7 zaa
   ·refine Aq yy9 ?_;exact hP _ ⟨e9,A7,rfl⟩
   refine Aq yy9 ?_;obtain⟨b10,h10_1,yy10⟩:=uk c hs az is bs A7;refine Aq yy10 ?_
   rcases bo b10 with rfl|rfl
   ·refine tw ?_;exact hP _ ⟨4,A7,rfl⟩
   replace h10_1:=h10_1 rfl
   refine tw ?_;refine hP _ ⟨0,?_,rfl⟩;exact fun _=>A7O hf zav zaa zaa zaa (by simp only[BB] at *;omega) zav zav zav zav
  refine tw ?_;exact hP _ ⟨1,A7,rfl⟩
 refine tw ?_;exact hP _ ⟨6,A7,rfl⟩
end
end Go.Proofs.YtnhgnfdbdflhcaaGreatDoor
