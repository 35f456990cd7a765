/-
  Own texts, laid together for this claim: contracts of functions of the program and its references, used by the statements of this seat.
-/
import Derived.Test.YtnhgnfdbdflhcaaGreatDoorMtab
import Derived.Test.YtnhgnfdbdflhcaaGreatDoorMtae
import Derived.Test.YtnhgnfdbdflhcaaGreatDoorMtaf
import Derived.Test.YtnhgnfdbdflhcaaGreatDoorMtah
import Derived.Test.YtnhgnfdbdflhcaaGreatDoorMtai
import Derived.Test.YtnhgnfdbdflhcaaGreatDoorMtaj
import Derived.Test.YtnhgnfdbdflhcaaGreatDoorMtau
import Derived.Test.YtnhgnfdbdflhcaaGreatDoorMtbd
import Derived.Test.YtnhgnfdbdflhcaaGreatDoorMtbf
import Derived.Test.YtnhgnfdbdflhcaaGreatDoorMtbg
import Derived.Test.YtnhgnfdbdflhcaaGreatDoorMtbh
import Derived.Test.YtnhgnfdbdflhcaaGreatDoorMtbi
import Derived.Test.YtnhgnfdbdflhcaaGreatDoorMtbj
import Derived.Test.YtnhgnfdbdflhcaaGreatDoorMtbl
import Derived.Test.YtnhgnfdbdflhcaaGreatDoorMtbq
set_option linter.all false
set_option maxHeartbeats 40000000
set_option maxRecDepth 100000
namespace Go.Proofs.YtnhgnfdbdflhcaaGreatDoor
open Go Go.Ax Go.Eng
variable {a k:Int}
section
attribute [local irreducible] Cc Dn D7 DU DD BA Dp F7 FY FD Ez Ci CS DK DV and' DW DL C9 BR Bh CB CG BG BI Aw BC Dq Fh Dt ER DX Bl CE Bv Bz Bi Az Bg BK Bj BO Du Bc DF BZ BM Cj Di fits Dv Dk Ac Am BH
attribute [local irreducible] Dw CJ Be nameB EL Eh Ar ET E8 Ea ES F8 BV GX Eg Fv FU EE
abbrev Both(fp fr:Nat)(s:MS)(q:AV)(a k:Int):Prop:=∃(t:MS) (e:Int) (is:List Int) (bs:List (List UInt8)),Kp a k t/\okR is bs/\Y E0 (.call fp [av s,q] [])=some (.ret (.tup [av t,rp e is bs []]) [])/\Y E0 (.call fr [av s,q] [])=some (.ret (.tup [av t,rp e is bs []]) [])
theorem wW(s:MS)(c h i1 i2 i3:Int)(hs:List Int)(az:List (El AY))(o u d:List UInt8)(hi:Kp a k s)(hk:k<=900)(hz:0<=h/\h<=2)(hhs:hs.length<=100)(ho:o.length<=2000)(hd:d.length<=2000):Both 8 60 s (rq c (h::hs) az [i1,i2,i3] [o,u,d]) a (k+1):=by
 have hol:=hi.obl
 have hsl:=hi.sdl
 have hup:=hi.up (k':=k+1) zau
 exact⟨{s with ob:=(E8 s.sd s.ob h i1 i2 i3 o u d).1},(E8 s.sd s.ob h i1 i2 i3 o u d).2.err,_,_,hup.ob_ (aU hi.obs),A0z (sd:=s.sd) (ob:=s.ob) (h:=h) (k:=i1) (a:=i2) (t:=i3) (auth:=u) (d:=d) (o:=o) zaa,VY s.sd s.au s.en s.ac s.re s.rs s.ck s.od s.sb s.su s.mc s.ix s.l1 s.l2 s.l3 s.l4 s.l5 s.l6 s.ks s.st s.sp s.rb s.ru s.vc s.sf s.dr s.ss s.ob s.rl s.wl _ _ _ _ _ _ _ _ _ _ zaa zaa (fun l hl=>by have:=hi.sdm l hl;omega) hhs zaa zaa,aJ s.sd s.au s.en s.ac s.re s.rs s.ck s.od s.sb s.su s.mc s.ix s.l1 s.l2 s.l3 s.l4 s.l5 s.l6 s.ks s.st s.sp s.rb s.ru s.vc s.sf s.dr s.ss s.ob s.rl s.wl _ _ _ _ _ _ _ _ _ _ zaa zaa (fun l hl=>by have:=hi.sdm l hl;omega) hhs zaa zaa zaa⟩
theorem A11(s:MS)(c h i1 i2 i3:Int)(hs:List Int)(az:List (El AY))(o u d:List UInt8)(hi:Kp a k s)(hk:k<=900)(hz:0<=Jl h s.ob)(hhs:hs.length<=100)(ho:o.length<=2000)(hd:d.length<=2000):Both 61 62 s (rq c (h::hs) az [i1,i2,i3] [o,u,d]) a (k+1):=by
 obtain⟨x,hx,hmem,_⟩:=JZ hz
 obtain⟨⟨p1,p2,p3,p4,p5⟩,⟨s1,s2,s3⟩,hr⟩:=x
 have hb:=hi.obm _ hmem
 simp only[FZ,DC] at hb
 have hol:=hi.obl
 have hup:=hi.up (k':=k+1) zau
 have hen:=hi.en
 have hdr:=hi.dr
 have hkk:=hi.kk
 by_cases h1:p1=1
 ·have hq:=zC ⟨s1,s2,s3⟩ s.en s.re s.rs s.dr i1 i2 i3 o u d
  exact⟨{s with dr:=(Ho ⟨s1,s2,s3⟩ s.en s.re s.rs s.dr i1 i2 i3 o u d).1},(Ho ⟨s1,s2,s3⟩ s.en s.re s.rs s.dr i1 i2 i3 o u d).2.err,_,_,{hup with dr:=⟨Int.le_trans hdr.1 hq.1,Int.le_trans hq.2 zaa⟩},A46 (par:=⟨s1,s2,s3⟩) (en:=s.en) (re:=s.re) (rs:=s.rs) (dr:=s.dr) (k:=i1) (a:=i2) (t:=i3) (auth:=u) (d:=d) (o:=o) zaa,uZ s.sd s.au s.en s.ac s.re s.rs s.ck s.od s.sb s.su s.mc s.ix s.l1 s.l2 s.l3 s.l4 s.l5 s.l6 s.ks s.st s.sp s.rb s.ru s.vc s.sf s.dr s.ss s.ob s.rl s.wl _ _ _ _ _ _ _ _ _ _ _ _ _ _ _ _ _ _ _ zaa hhs hx h1 zaa zaa zaa zaa zaa,aN s.sd s.au s.en s.ac s.re s.rs s.ck s.od s.sb s.su s.mc s.ix s.l1 s.l2 s.l3 s.l4 s.l5 s.l6 s.ks s.st s.sp s.rb s.ru s.vc s.sf s.dr s.ss s.ob s.rl s.wl _ _ _ _ _ _ _ _ _ _ _ _ _ _ _ _ _ _ _ zaa hhs hx h1 zaa zaa zaa zaa zaa⟩
 ·exact⟨s,19,[],[],hup,Vr,jV s.sd s.au s.en s.ac s.re s.rs s.ck s.od s.sb s.su s.mc s.ix s.l1 s.l2 s.l3 s.l4 s.l5 s.l6 s.ks s.st s.sp s.rb s.ru s.vc s.sf s.dr s.ss s.ob s.rl s.wl _ _ _ _ _ _ _ _ _ _ _ _ _ _ _ _ zaa hhs hx h1,Vd s.sd s.au s.en s.ac s.re s.rs s.ck s.od s.sb s.su s.mc s.ix s.l1 s.l2 s.l3 s.l4 s.l5 s.l6 s.ks s.st s.sp s.rb s.ru s.vc s.sf s.dr s.ss s.ob s.rl s.wl _ _ _ _ _ _ _ _ _ _ _ _ _ _ _ zaa hhs hx h1⟩
theorem A5h(s:MS)(c h:Int)(hs:List Int)(az:List (El AY))(is:List Int)(o u:List UInt8)(hi:Kp a k s)(hk:k<=900)(hz:0<=Jl h s.ob)(hhs:hs.length<=100)(ho:o.length<=2000)(hd:u.length<=2000):Both 63 64 s (rq c (h::hs) az is [o,u]) a (k+1):=by
 obtain⟨x,hx,hmem,_⟩:=JZ hz
 obtain⟨⟨p1,p2,p3,p4,p5⟩,⟨s1,s2,s3⟩,hr⟩:=x
 have hb:=hi.obm _ hmem
 simp only[FZ,DC] at hb
 have hol:=hi.obl
 have hup:=hi.up (k':=k+1) zau
 by_cases h1:p1=1
 ·exact⟨{s with ob:=(I5 s.ob ⟨s1,s2,s3⟩ hr o u).1},(I5 s.ob ⟨s1,s2,s3⟩ hr o u).2.err,_,_,hup.ob_ (zA hi.obs),A47 (ob:=s.ob) (par:=⟨s1,s2,s3⟩) (hier:=hr) (pub:=o) (priv:=u),A3v s.sd s.au s.en s.ac s.re s.rs s.ck s.od s.sb s.su s.mc s.ix s.l1 s.l2 s.l3 s.l4 s.l5 s.l6 s.ks s.st s.sp s.rb s.ru s.vc s.sf s.dr s.ss s.ob s.rl s.wl _ _ _ _ _ _ _ _ _ _ _ _ _ _ _ _ zaa hhs hx h1 zaa zaa zaa,oU s.sd s.au s.en s.ac s.re s.rs s.ck s.od s.sb s.su s.mc s.ix s.l1 s.l2 s.l3 s.l4 s.l5 s.l6 s.ks s.st s.sp s.rb s.ru s.vc s.sf s.dr s.ss s.ob s.rl s.wl _ _ _ _ _ _ _ _ _ _ _ _ _ _ _ _ zaa hhs hx h1 zaa zaa zaa⟩
 ·exact⟨s,19,[],[],hup,Vr,uf s.sd s.au s.en s.ac s.re s.rs s.ck s.od s.sb s.su s.mc s.ix s.l1 s.l2 s.l3 s.l4 s.l5 s.l6 s.ks s.st s.sp s.rb s.ru s.vc s.sf s.dr s.ss s.ob s.rl s.wl _ _ _ _ _ _ _ _ _ _ _ _ _ _ _ _ zaa hhs hx h1,aO s.sd s.au s.en s.ac s.re s.rs s.ck s.od s.sb s.su s.mc s.ix s.l1 s.l2 s.l3 s.l4 s.l5 s.l6 s.ks s.st s.sp s.rb s.ru s.vc s.sf s.dr s.ss s.ob s.rl s.wl _ _ _ _ _ _ _ _ _ _ _ _ _ _ _ zaa hhs hx h1⟩
theorem A12(s:MS)(c h:Int)(hs:List Int)(az:List (El AY))(is:List Int)(bs:List (List UInt8))(hi:Kp a k s)(hk:k<=900)(hz:0<=Jl h s.ob)(hhs:hs.length<=100):Both 24 67 s (rq c (h::hs) az is bs) a (k+1):=by
 obtain⟨x,hx,hmem,_⟩:=JZ hz
 obtain⟨⟨p1,p2,p3,p4,p5⟩,⟨s1,s2,s3⟩,hr⟩:=x
 have hb:=hi.obm _ hmem
 simp only[FZ,DC] at hb
 have hol:=hi.obl
 have hup:=hi.up (k':=k+1) zau
 by_cases h1:p1=3
 ·exact⟨s,0,[],[s3],hup,⟨by simp,by simp,by simp;omega⟩,VZ s.sd s.au s.en s.ac s.re s.rs s.ck s.od s.sb s.su s.mc s.ix s.l1 s.l2 s.l3 s.l4 s.l5 s.l6 s.ks s.st s.sp s.rb s.ru s.vc s.sf s.dr s.ss s.ob s.rl s.wl _ _ _ _ _ _ _ _ _ _ _ _ _ _ _ zaa hhs hx h1,Ve s.sd s.au s.en s.ac s.re s.rs s.ck s.od s.sb s.su s.mc s.ix s.l1 s.l2 s.l3 s.l4 s.l5 s.l6 s.ks s.st s.sp s.rb s.ru s.vc s.sf s.dr s.ss s.ob s.rl s.wl _ _ _ _ _ _ _ _ _ _ _ _ _ _ _ zaa hhs hx h1 zaa⟩
 ·exact⟨s,19,[],[],hup,Vr,jU s.sd s.au s.en s.ac s.re s.rs s.ck s.od s.sb s.su s.mc s.ix s.l1 s.l2 s.l3 s.l4 s.l5 s.l6 s.ks s.st s.sp s.rb s.ru s.vc s.sf s.dr s.ss s.ob s.rl s.wl _ _ _ _ _ _ _ _ _ _ _ _ _ _ _ zaa hhs hx h1,Vf s.sd s.au s.en s.ac s.re s.rs s.ck s.od s.sb s.su s.mc s.ix s.l1 s.l2 s.l3 s.l4 s.l5 s.l6 s.ks s.st s.sp s.rb s.ru s.vc s.sf s.dr s.ss s.ob s.rl s.wl _ _ _ _ _ _ _ _ _ _ _ _ _ _ _ zaa hhs hx h1⟩
theorem A5i(s:MS)(c h:Int)(hs:List Int)(az:List (El AY))(is:List Int)(m:List UInt8)(bs:List (List UInt8))(hi:Kp a k s)(hk:k<=900)(hz:0<=Jl h s.ob)(hhs:hs.length<=100)(hm:m.length<=2000)(hbs:bs.length<=100):Both 68 69 s (rq c (h::hs) az is (m::bs)) a (k+1):=by
 obtain⟨x,hx,hmem,_⟩:=JZ hz
 obtain⟨⟨p1,p2,p3,p4,p5⟩,⟨s1,s2,s3⟩,hr⟩:=x
 have hb:=hi.obm _ hmem
 simp only[FZ,DC] at hb
 have hol:=hi.obl
 have hup:=hi.up (k':=k+1) zau
 have hkl:=hi.ksl
 have hu:∀ x∈s.ks,0<=x.2/\x.2<=1000:=fun x hx=>(hi.ksm x hx).2
 have er:=ou s.sd s.au s.en s.ac s.re s.rs s.ck s.od s.sb s.su s.mc s.ix s.l1 s.l2 s.l3 s.l4 s.l5 s.l6 s.ks s.st s.sp s.rb s.ru s.vc s.sf s.dr s.ss s.ob s.rl s.wl c h hs az is m bs p1 p2 p3 p4 p5 s1 s2 s3 hr zaa hhs hbs hx zaa zaa hi.ksm zaa zaa
 refine⟨{s with ks:=(Fa s.ks p1 p2 p3 p5 s2 m).1},(Fa s.ks p1 p2 p3 p5 s2 m).2.err,_,_,hup.ks_ (oq hi.kss zaa zaa),A10 (p1:=p1) (p2:=p2) (p5:=p5) (s2:=s2) (m:=m) hi.kss (p3:=p3) zaa,?_,er⟩
 clear er
 unfold Fa
 by_cases h1:p1=2
 ·rw[if_neg (fun q=>q h1)]
  by_cases ha:BA .and p2 4=0
  ·rw[if_neg (fun q=>q ha)]
   by_cases hl:128<m.length
   ·rw[if_pos hl];exact wU s.sd s.au s.en s.ac s.re s.rs s.ck s.od s.sb s.su s.mc s.ix s.l1 s.l2 s.l3 s.l4 s.l5 s.l6 s.ks s.st s.sp s.rb s.ru s.vc s.sf s.dr s.ss s.ob s.rl s.wl c h hs az is m bs p1 p2 p3 p4 p5 s1 s2 s3 hr zaa hhs hbs hx h1 ha ⟨hl,by omega⟩
   ·rw[if_neg hl]
    by_cases he:(EE s.ks p5 p3).2.2=0
    ·rw[if_neg (fun q=>q he)];exact oQ s.sd s.au s.en s.ac s.re s.rs s.ck s.od s.sb s.su s.mc s.ix s.l1 s.l2 s.l3 s.l4 s.l5 s.l6 s.ks s.st s.sp s.rb s.ru s.vc s.sf s.dr s.ss s.ob s.rl s.wl c h hs az is m bs p1 p2 p3 p4 p5 s1 s2 s3 hr zaa hhs hbs hx h1 ha zaa zaa zaa hu zaa he
    ·rw[if_pos he];exact uU s.sd s.au s.en s.ac s.re s.rs s.ck s.od s.sb s.su s.mc s.ix s.l1 s.l2 s.l3 s.l4 s.l5 s.l6 s.ks s.st s.sp s.rb s.ru s.vc s.sf s.dr s.ss s.ob s.rl s.wl c h hs az is m bs p1 p2 p3 p4 p5 s1 s2 s3 hr zaa hhs hbs hx h1 ha zaa zaa zaa hu he
  ·rw[if_pos ha];exact uX s.sd s.au s.en s.ac s.re s.rs s.ck s.od s.sb s.su s.mc s.ix s.l1 s.l2 s.l3 s.l4 s.l5 s.l6 s.ks s.st s.sp s.rb s.ru s.vc s.sf s.dr s.ss s.ob s.rl s.wl c h hs az is m bs p1 p2 p3 p4 p5 s1 s2 s3 hr zaa hhs hx h1 ha
 ·rw[if_pos h1];exact uV s.sd s.au s.en s.ac s.re s.rs s.ck s.od s.sb s.su s.mc s.ix s.l1 s.l2 s.l3 s.l4 s.l5 s.l6 s.ks s.st s.sp s.rb s.ru s.vc s.sf s.dr s.ss s.ob s.rl s.wl c h hs az is m bs p1 p2 p3 p4 p5 s1 s2 s3 hr zaa hhs hx h1
theorem A48(s:MS)(c h q0 q1:Int)(hs:List Int)(az:List (El AY))(m:List UInt8)(bs:List (List UInt8))(hi:Kp a k s)(hk:k<=900)(hz:0<=Jl h s.ob)(hhs:hs.length<=100)(hm:m.length<=2000)(hbs:bs.length<=100)(d:List UInt8)(er:Int)(hd:d.length<=1000)(hP:Y E0 (.call 46 [.agg [.sl (.sl (.sl .u8)) s.rb,.i s.ru],.agg [.i q0,.i q1]] [])=some (.ret (.tup [.sl .u8 d,.i er]) []))(hR:Y E0 (.call 54 [.agg [.sl (.sl (.sl .u8)) s.rb,.i s.ru],.agg [.i q0,.i q1]] [])=some (.ret (.tup [.sl .u8 d,.i er]) [])):Both 13 15 s (rq c (h::hs) az [q0,q1] (m::bs)) a (k+1):=by
 obtain⟨x,hx,hmem,_⟩:=JZ hz
 obtain⟨⟨p1,p2,p3,p4,p5⟩,⟨s1,s2,s3⟩,hr⟩:=x
 have hb:=hi.obm _ hmem
 simp only[FZ,DC] at hb
 have hol:=hi.obl
 have hup:=hi.up (k':=k+1) zau
 have hkl:=hi.ksl
 have hu:∀ x∈s.ks,0<=x.2/\x.2<=1000:=fun x hx=>(hi.ksm x hx).2
 have er':=XA s.sd s.au s.en s.ac s.re s.rs s.ck s.od s.sb s.su s.mc s.ix s.l1 s.l2 s.l3 s.l4 s.l5 s.l6 s.ks s.st s.sp s.rb s.ru s.vc s.sf s.dr s.ss s.ob s.rl s.wl c h q0 q1 hs az m bs p1 p2 p3 p4 p5 s1 s2 s3 hr d er zaa hhs hbs hx zaa zaa hi.ksm zaa zaa zaa zaa zaa hR
 have hn:=Aa ⟨p1,p2,p3,p4,p5⟩
 have el:=SE ⟨nameB ⟨p1,p2,p3,p4,p5⟩,m,s.re,s.rs,s.vc,s.sf,s.ru,q0,q1,d⟩ zay zay zay
 refine⟨{s with ks:=(Ej s.ks p1 p2 p3 p5 s2 m er ⟨nameB ⟨p1,p2,p3,p4,p5⟩,m,s.re,s.rs,s.vc,s.sf,s.ru,q0,q1,d⟩).1},(Ej s.ks p1 p2 p3 p5 s2 m er ⟨nameB ⟨p1,p2,p3,p4,p5⟩,m,s.re,s.rs,s.vc,s.sf,s.ru,q0,q1,d⟩).2.err,_,_,hup.ks_ (eU hi.kss zaa zaa),wV (p1:=p1) (p2:=p2) (p5:=p5) (s2:=s2) (m:=m) (e:=er) (a:=⟨nameB ⟨p1,p2,p3,p4,p5⟩,m,s.re,s.rs,s.vc,s.sf,s.ru,q0,q1,d⟩) hi.kss (p3:=p3) zaa zaa,?_,er'⟩
 clear er'
 unfold Ej
 by_cases h1:p1=2
 ·rw[if_neg (fun q=>q h1)]
  by_cases ha:BA .and p2 4=0
  ·rw[if_pos ha];exact oZ s.sd s.au s.en s.ac s.re s.rs s.ck s.od s.sb s.su s.mc s.ix s.l1 s.l2 s.l3 s.l4 s.l5 s.l6 s.ks s.st s.sp s.rb s.ru s.vc s.sf s.dr s.ss s.ob s.rl s.wl c h hs az [q0,q1] m bs p1 p2 p3 p4 p5 s1 s2 s3 hr zaa hhs hx h1 ha
  ·rw[if_neg ha]
   by_cases hl:128<m.length
   ·rw[if_pos hl];exact qH s.sd s.au s.en s.ac s.re s.rs s.ck s.od s.sb s.su s.mc s.ix s.l1 s.l2 s.l3 s.l4 s.l5 s.l6 s.ks s.st s.sp s.rb s.ru s.vc s.sf s.dr s.ss s.ob s.rl s.wl c h hs az [q0,q1] m bs p1 p2 p3 p4 p5 s1 s2 s3 hr zaa hhs hbs hx h1 ha ⟨hl,by omega⟩
   ·rw[if_neg hl]
    by_cases hee:er=0
    ·subst hee
     rw[if_neg (fun q=>q rfl)]
     by_cases he:(EE s.ks p5 p3).2.2=0
     ·rw[if_neg (fun q=>q he)];exact Vg s.sd s.au s.en s.ac s.re s.rs s.ck s.od s.sb s.su s.mc s.ix s.l1 s.l2 s.l3 s.l4 s.l5 s.l6 s.ks s.st s.sp s.rb s.ru s.vc s.sf s.dr s.ss s.ob s.rl s.wl c h q0 q1 hs az m bs p1 p2 p3 p4 p5 s1 s2 s3 hr d zaa hhs hbs hx h1 ha zaa zaa zaa hu zaa zaa zaa he zaa hP
     ·rw[if_pos he];exact qJ s.sd s.au s.en s.ac s.re s.rs s.ck s.od s.sb s.su s.mc s.ix s.l1 s.l2 s.l3 s.l4 s.l5 s.l6 s.ks s.st s.sp s.rb s.ru s.vc s.sf s.dr s.ss s.ob s.rl s.wl c h q0 q1 hs az m bs p1 p2 p3 p4 p5 s1 s2 s3 hr d zaa hhs hbs hx h1 ha zaa zaa zaa hu zaa zaa zaa he zaa hP
    ·rw[if_pos hee];exact qI s.sd s.au s.en s.ac s.re s.rs s.ck s.od s.sb s.su s.mc s.ix s.l1 s.l2 s.l3 s.l4 s.l5 s.l6 s.ks s.st s.sp s.rb s.ru s.vc s.sf s.dr s.ss s.ob s.rl s.wl c h q0 q1 hs az m bs p1 p2 p3 p4 p5 s1 s2 s3 hr d er zaa hhs hbs hx h1 ha zaa hee hP
 ·rw[if_pos h1];exact oW s.sd s.au s.en s.ac s.re s.rs s.ck s.od s.sb s.su s.mc s.ix s.l1 s.l2 s.l3 s.l4 s.l5 s.l6 s.ks s.st s.sp s.rb s.ru s.vc s.sf s.dr s.ss s.ob s.rl s.wl c h hs az [q0,q1] m bs p1 p2 p3 p4 p5 s1 s2 s3 hr zaa hhs hx h1
end
section
attribute [local irreducible] Cc Dn D7 DU DD BA Dp F7 FY FD Ez Ci CS DK DV and' DW DL C9 BR Bh CB CG BG BI Aw BC Dq Fh Dt ER DX Bl CE Bv Bz Bi Az Bg BK Bj BO Du Bc DF BZ BM Cj Di fits Dv Dk Ac Am BH
attribute [local irreducible] Dw CJ Be nameB EL Eh Ar ET E8 Ea ES F8 BV GX Eg Fv FU EE
theorem A7P{α:Type}(x:α)(l:List α):Di (x::l)=false:=by rw[A1i];rfl
theorem A5j(x1 x4 x5 x6 x7:Int)(x2 x3:List UInt8)(x8:Bool)(l:List (El sesT))(hl:l.length<=1000):Y E0 (.call 242 [.sl sesT ((x1,x2,x3,x4,x5,x6,x7,x8)::l)] [])=some (.ret (.nm 0) [some (.row 171 sesT ((x1,x2,x3,x4,x5,x6,x7,x8)::l))]):=by
 refine tq ?_
 rw[A7P]
 conv=>lhs;whnf
 refine tq ?_
 simp only[NO];try with_reducible rfl
variable (sd au:List (List UInt8))(en:List UInt8)(ac re rs ck:Int)(od:Bool)(sb:List (List (List UInt8)))(su mc:Int)(ix:List (El Gp))(l1 l2 l3 l4 l5 l6:Int)(ks:List (El J8))(st sp:Bool)(rb:List (List (List UInt8)))(ru vc:Int)(sf:Bool)(dr:Int)(ss:List (El sesT))(ob:List (El objT))(rl wl:List Int)
theorem wX(h:Int)(hl:ss.length<=1000)(hh : -100000<=h/\h<=1099511627776)(hz:Xx h ss<0):Y E0 (.call 195 [(sX sd au en ac re rs ck od sb su mc ix l1 l2 l3 l4 l5 l6 ks st sp rb ru vc sf dr ss ob rl wl),.i h] [])=some (.ret (.tup [.i 0,seA 0 [] [] 0 0 0 0 false,.b false]) []):=by
 unfold Xx at hz
 by_cases h0:768<=h
 ·rw[if_pos h0] at hz
  by_cases h1:(h-768).toNat<ss.length
  ·rw[List.getElem?_eq_getElem h1] at hz
   have hg:BO ss (h-768)=some (ss[(h-768).toNat]'h1):=DZ zaa
   generalize ss[(h-768).toNat]'h1=x at *
   obtain⟨x1,x2,x3,x4,x5,x6,x7,x8⟩:=x
   dsimp only at hz
   by_cases h2:x1=0
   ·refine tq ?_
    rw[hg]
    conv=>lhs;whnf
    refine tq ?_
    with_reducible rfl
   ·rw[if_neg h2] at hz
    exfalso;omega
  ·refine tq ?_
   with_reducible rfl
 ·refine tq ?_
  with_reducible rfl
theorem wY(h:Int)(x1 x4 x5 x6 x7:Int)(x2 x3:List UInt8)(x8:Bool)(hl:ss.length<=1000)(hh:0<=h-768/\h-768<ss.length)(hg:BO ss (h-768)=some (x1,x2,x3,x4,x5,x6,x7,x8))(hz:x1≠0):Y E0 (.call 195 [(sX sd au en ac re rs ck od sb su mc ix l1 l2 l3 l4 l5 l6 ks st sp rb ru vc sf dr ss ob rl wl),.i h] [])=some (.ret (.tup [.i (h-768),seA x1 x2 x3 x4 x5 x6 x7 x8,.b true]) []):=by
 refine tq ?_
 rw[hg]
 conv=>lhs;whnf
 refine tq ?_
 rw[hg]
 conv=>lhs;whnf
 refine tq ?_
 with_reducible rfl
theorem A5k(k:Int)(y1 y4 y5 y6 y7:Int)(y2 y3:List UInt8)(y8:Bool)(hl:ss.length<=1000)(hk:0<=k/\k<ss.length):Y E0 (.call 196 [(sX sd au en ac re rs ck od sb su mc ix l1 l2 l3 l4 l5 l6 ks st sp rb ru vc sf dr ss ob rl wl),.i k,seA y1 y2 y3 y4 y5 y6 y7 y8] [])=some (.ret ((sX sd au en ac re rs ck od sb su mc ix l1 l2 l3 l4 l5 l6 ks st sp rb ru vc sf dr (Bc ss k (y1,y2,y3,y4,y5,y6,y7,y8)) ob rl wl)) []):=by
 obtain⟨⟨x1,x2,x3,x4,x5,x6,x7,x8⟩,l,rfl⟩:∃ x l,ss=x::l:=by cases ss with|nil=>simp at hk;omega|cons x l=>exact⟨x,l,rfl⟩
 rw[List.length_cons] at hl
 refine tq ?_
 rw[A5j _ _ _ _ _ _ _ _ _ zaa]
 conv=>lhs;whnf
 rw[Gw zaa]
 conv=>lhs;whnf
 rw[DZ zaa]
 conv=>lhs;whnf
theorem A49(k:Int)(y1 y4 y5 y6 y7:Int)(y2 y3:List UInt8)(y8:Bool)(hl:ss.length<=1000)(hk:0<=k/\k<ss.length):Y E0 (.call 198 [(sX sd au en ac re rs ck od sb su mc ix l1 l2 l3 l4 l5 l6 ks st sp rb ru vc sf dr ss ob rl wl),.i k,seA y1 y2 y3 y4 y5 y6 y7 y8] [])=some (.ret ((sX sd au en ac re rs ck od sb su mc ix l1 l2 l3 l4 l5 l6 ks st sp rb ru vc sf dr (Bc ss k (y1,y2,y3,y4,y5,y6,y7,y8)) ob rl wl)) []):=by
 refine tq ?_
 rw[DZ zaA]
 conv=>lhs;whnf
 try dsimp -iota -beta -eta -zeta only
 simp only[NO];try with_reducible rfl
theorem Xm(h:Int)(hl:ss.length<=1000)(hh : -100000<=h/\h<=1099511627776)(hz:Xx h ss<0):Y E0 (.call 134 [(sX sd au en ac re rs ck od sb su mc ix l1 l2 l3 l4 l5 l6 ks st sp rb ru vc sf dr ss ob rl wl),.i h] [])=some (.ret (.tup [.agg [.sl (.sl .u8) [],.sl (.sl .u8) [],.sl .u8 [],.i 0,.i 0,.i 0,.i 0,.b false,.sl (.sl (.sl .u8)) [],.i 0,.i 0,.sl Gp [],.i 0,.i 0,.i 0,.i 0,.i 0,.i 0,.sl J8 [],.b false,.b false,.sl (.sl (.sl .u8)) [],.i 0,.i 0,.b false,.i 0,.sl sesT [],.sl objT [],.sl .i64 [],.sl .i64 []],.i 8]) []):=by
 refine tq ?_
 rw[wX _ _ _ _ _ _ _ _ _ _ _ _ _ _ _ _ _ _ _ _ _ _ _ _ _ _ _ _ _ _ _ hl hh hz]
 exact tq rfl
theorem qL(h:Int)(x1 x4 x5 x6 x7:Int)(x2 x3:List UInt8)(x8:Bool)(hl:ss.length<=1000)(hh:0<=h-768/\h-768<ss.length)(hg:BO ss (h-768)=some (x1,x2,x3,x4,x5,x6,x7,x8))(hz:x1≠0):Y E0 (.call 134 [(sX sd au en ac re rs ck od sb su mc ix l1 l2 l3 l4 l5 l6 ks st sp rb ru vc sf dr ss ob rl wl),.i h] [])=some (.ret (.tup [(sX sd au en ac re rs ck od sb su mc ix l1 l2 l3 l4 l5 l6 ks st sp rb ru vc sf dr (Bc ss (h-768) ses0) ob rl wl),.i 0]) []):=by
 refine tq ?_
 rw[wY _ _ _ _ _ _ _ _ _ _ _ _ _ _ _ _ _ _ _ _ _ _ _ _ _ _ _ _ _ _ _ _ _ _ _ _ _ _ _ hl hh hg hz]
 refine tq ?_
 rw[A5k _ _ _ _ _ _ _ _ _ _ _ _ _ _ _ _ _ _ _ _ _ _ _ _ _ _ _ _ _ _ _ _ _ _ _ _ _ _ _ hl hh]
 refine tq ?_
 rfl
theorem qM(h:Int)(hl:ss.length<=1000)(hh : -100000<=h/\h<=1099511627776)(hz:Xx h ss<0):Y E0 (.call 135 [(sX sd au en ac re rs ck od sb su mc ix l1 l2 l3 l4 l5 l6 ks st sp rb ru vc sf dr ss ob rl wl),.i h] [])=some (.ret (.tup [.agg [.sl (.sl .u8) [],.sl (.sl .u8) [],.sl .u8 [],.i 0,.i 0,.i 0,.i 0,.b false,.sl (.sl (.sl .u8)) [],.i 0,.i 0,.sl Gp [],.i 0,.i 0,.i 0,.i 0,.i 0,.i 0,.sl J8 [],.b false,.b false,.sl (.sl (.sl .u8)) [],.i 0,.i 0,.b false,.i 0,.sl sesT [],.sl objT [],.sl .i64 [],.sl .i64 []],.i 8]) []):=by
 refine tq ?_
 rw[NQ (hl:=A7) (hh:=A7) ..]
 exact tq rfl
theorem qN(h:Int)(hl:ss.length<=1000)(hh : -100000<=h/\h<=1099511627776)(hz:0<=Xx h ss):Y E0 (.call 135 [(sX sd au en ac re rs ck od sb su mc ix l1 l2 l3 l4 l5 l6 ks st sp rb ru vc sf dr ss ob rl wl),.i h] [])=some (.ret (.tup [(sX sd au en ac re rs ck od sb su mc ix l1 l2 l3 l4 l5 l6 ks st sp rb ru vc sf dr (Bc ss (h-768) ses0) ob rl wl),.i 0]) []):=by
 have hq:=aH hz
 refine tq ?_
 rw[NQ (hl:=A7) (hh:=A7) ..]
 conv=>lhs;whnf
 rw[hq.1]
 refine tq ?_
 rw[A49 _ _ _ _ _ _ _ _ _ _ _ _ _ _ _ _ _ _ _ _ _ _ _ _ _ _ _ _ _ _ _ _ _ _ _ _ _ _ _ hl zaa]
 refine tq ?_
 rfl
theorem wZ(h:Int)(hl:ob.length<=1000)(hh : -1000000<=h/\h<=1099511627776)(hx:Dl ob h=none):Y E0 (.call 85 [(sX sd au en ac re rs ck od sb su mc ix l1 l2 l3 l4 l5 l6 ks st sp rb ru vc sf dr ss ob rl wl),.i h] [])=some (.ret (.tup [.agg [.i 0,.i 0,.i 0,.sl .u8 [],.sl .u8 [],.sl .u8 [],.sl .u8 [],.sl .u8 [],.i 0],.i 7]) []):=by
 by_cases h5:512<=h
 ·by_cases hb:h-512<ob.length
  ·rw[Dl,if_pos h5,List.getElem?_eq_getElem zaa] at hx
   have hg:BO ob (h-512)=some (ob[(h-512).toNat]'zaa):=DZ zaa
   simp only at hx
   generalize ob[(h-512).toNat]'zaa=x at *
   obtain⟨⟨k,a,t,o,u⟩,⟨y1,y2,y3⟩,hi⟩:=x
   split at hx
   ·rename_i hk
    simp only at hk
    subst hk
    refine tq ?_
    rw[hg]
    conv=>lhs;whnf
    refine tq ?_
    with_reducible rfl
   ·cases hx
  ·refine tq ?_
   with_reducible rfl
 ·refine tq ?_
  with_reducible rfl
theorem qO(c h:Int)(hs:List Int)(az:List (El AY))(is:List Int)(bs:List (List UInt8))(x1 x4 x5 x6 x7:Int)(x2 x3:List UInt8)(x8:Bool)(hl:ss.length<=1000)(his:is.length<=100)(hh:0<=h-768/\h-768<ss.length)(hg:BO ss (h-768)=some (x1,x2,x3,x4,x5,x6,x7,x8))(hz:x1≠0):Y E0 (.call 65 [(sX sd au en ac re rs ck od sb su mc ix l1 l2 l3 l4 l5 l6 ks st sp rb ru vc sf dr ss ob rl wl),rq c hs az (h::is) bs] [])=some (.ret (.tup [(sX sd au en ac re rs ck od sb su mc ix l1 l2 l3 l4 l5 l6 ks st sp rb ru vc sf dr (Bc ss (h-768) ses0) ob rl wl),rp 0 [] [] []]) []):=by
 refine tq ?_
 rw[NR (hl:=A7) ..]
 refine tq ?_
 rw[qL _ _ _ _ _ _ _ _ _ _ _ _ _ _ _ _ _ _ _ _ _ _ _ _ _ _ _ _ _ _ _ _ _ _ _ _ _ _ _ hl hh hg hz]
 exact tq rfl
theorem qP(c h:Int)(hs:List Int)(az:List (El AY))(is:List Int)(bs:List (List UInt8))(hl:ss.length<=1000)(hol:ob.length<=1000)(his:is.length<=100)(hh : -100000<=h/\h<=1099511627776)(hz:Xx h ss<0)(hx:Dl ob h=none):Y E0 (.call 65 [(sX sd au en ac re rs ck od sb su mc ix l1 l2 l3 l4 l5 l6 ks st sp rb ru vc sf dr ss ob rl wl),rq c hs az (h::is) bs] [])=some (.ret (.tup [(sX sd au en ac re rs ck od sb su mc ix l1 l2 l3 l4 l5 l6 ks st sp rb ru vc sf dr ss ob rl wl),rp 7 [] [] []]) []):=by
 refine tq ?_
 rw[NR (hl:=A7) ..]
 refine tq ?_
 rw[Xm _ _ _ _ _ _ _ _ _ _ _ _ _ _ _ _ _ _ _ _ _ _ _ _ _ _ _ _ _ _ _ hl hh hz]
 refine tq ?_
 rw[wZ _ _ _ _ _ _ _ _ _ _ _ _ _ _ _ _ _ _ _ _ _ _ _ _ _ _ _ _ _ _ _ hol zaa hx]
 refine tq ?_
 rw[F9 ..]
 exact tq rfl
theorem qQ(c h:Int)(hs:List Int)(az:List (El AY))(is:List Int)(bs:List (List UInt8))(p1 p2 p3:Int)(p4 p5 s1 s2 s3:List UInt8)(hr:Int)(hl:ss.length<=1000)(hol:ob.length<=1000)(his:is.length<=100)(hh : -100000<=h/\h<=1099511627776)(hz:Xx h ss<0)(hx:Dl ob h=some ((p1,p2,p3,p4,p5),(s1,s2,s3),hr))(hk:0<=h-512/\h-512<ob.length):Y E0 (.call 65 [(sX sd au en ac re rs ck od sb su mc ix l1 l2 l3 l4 l5 l6 ks st sp rb ru vc sf dr ss ob rl wl),rq c hs az (h::is) bs] [])=some (.ret (.tup [(sX sd au en ac re rs ck od sb su mc ix l1 l2 l3 l4 l5 l6 ks st sp rb ru vc sf dr ss (Bc ob (h-512) ((0,0,0,[],[]),([],[],[]),0)) rl wl),rp 0 [] [] []]) []):=by
 refine tq ?_
 rw[NR (hl:=A7) ..]
 refine tq ?_
 rw[Xm _ _ _ _ _ _ _ _ _ _ _ _ _ _ _ _ _ _ _ _ _ _ _ _ _ _ _ _ _ _ _ hl hh hz]
 refine tq ?_
 rw[H8 _ _ _ _ _ _ _ _ _ _ _ _ _ _ _ _ _ _ _ _ _ _ _ _ _ _ _ _ _ _ _ _ _ _ _ _ _ _ _ _ hol hx]
 refine tq ?_
 rw[A2n _ A7]
 conv=>lhs;whnf
 rw[CY zaa]
 rw[Gw zaa]
 conv=>lhs;whnf
 rw[DZ zaa]
 conv=>lhs;whnf
end
section
attribute [local irreducible] Cc Dn D7 DU DD BA Dp F7 FY FD Ez Ci CS DK DV and' DW DL C9 BR Bh CB CG BG BI Aw BC Dq Fh Dt ER DX Bl CE Bv Bz Bi Az Bg BK Bj BO Du Bc DF BZ BM Cj Di fits Dv Dk Ac Am BH
attribute [local irreducible] Dw CJ Be nameB EL Eh Ar ET E8 Ea ES F8 BV GX Eg Fv FU EE
variable (sd au:List (List UInt8))(en:List UInt8)(ac re rs ck:Int)(od:Bool)(sb:List (List (List UInt8)))(su mc:Int)(ix:List (El Gp))(l1 l2 l3 l4 l5 l6:Int)(ks:List (El J8))(st sp:Bool)(rb:List (List (List UInt8)))(ru vc:Int)(sf:Bool)(dr:Int)(ss:List (El sesT))(ob:List (El objT))(rl wl:List Int)
theorem qR(c h:Int)(hs:List Int)(az:List (El AY))(is:List Int)(bs:List (List UInt8))(hl:ss.length<=1000)(hol:ob.length<=1000)(his:is.length<=100)(hh : -100000<=h/\h<=1099511627776)(hz:0<=Xx h ss)(hx:Jl h ob<0):Y E0 (.call 66 [(sX sd au en ac re rs ck od sb su mc ix l1 l2 l3 l4 l5 l6 ks st sp rb ru vc sf dr ss ob rl wl),rq c hs az (h::is) bs] [])=some (.ret (.tup [(sX sd au en ac re rs ck od sb su mc ix l1 l2 l3 l4 l5 l6 ks st sp rb ru vc sf dr (Bc ss (h-768) ses0) ob rl wl),rp 0 [] [] []]) []):=by
 refine tq ?_
 rw[Eu _ _ _ _ _ _ _ _ _ _ _ _ _ _ _ _ _ _ _ _ _ _ _ _ _ _ _ _ _ _ _ hol]
 refine tq ?_
 rw[qN _ _ _ _ _ _ _ _ _ _ _ _ _ _ _ _ _ _ _ _ _ _ _ _ _ _ _ _ _ _ _ hl hh hz]
 exact tq rfl
theorem qU(c h:Int)(hs:List Int)(az:List (El AY))(is:List Int)(bs:List (List UInt8))(hl:ss.length<=1000)(hol:ob.length<=1000)(his:is.length<=100)(hh : -100000<=h/\h<=1099511627776)(hz:Xx h ss<0)(hx:Jl h ob<0):Y E0 (.call 66 [(sX sd au en ac re rs ck od sb su mc ix l1 l2 l3 l4 l5 l6 ks st sp rb ru vc sf dr ss ob rl wl),rq c hs az (h::is) bs] [])=some (.ret (.tup [(sX sd au en ac re rs ck od sb su mc ix l1 l2 l3 l4 l5 l6 ks st sp rb ru vc sf dr ss ob rl wl),rp 7 [] [] []]) []):=by
 refine tq ?_
 rw[Eu _ _ _ _ _ _ _ _ _ _ _ _ _ _ _ _ _ _ _ _ _ _ _ _ _ _ _ _ _ _ _ hol]
 refine tq ?_
 rw[qM _ _ _ _ _ _ _ _ _ _ _ _ _ _ _ _ _ _ _ _ _ _ _ _ _ _ _ _ _ _ _ hl hh hz]
 refine tq ?_
 rw[EQ ..]
 exact tq rfl
theorem qV(c h:Int)(hs:List Int)(az:List (El AY))(is:List Int)(bs:List (List UInt8))(hol:ob.length<=1000)(his:is.length<=100)(hx:0<=Jl h ob/\Jl h ob<ob.length):Y E0 (.call 66 [(sX sd au en ac re rs ck od sb su mc ix l1 l2 l3 l4 l5 l6 ks st sp rb ru vc sf dr ss ob rl wl),rq c hs az (h::is) bs] [])=some (.ret (.tup [(sX sd au en ac re rs ck od sb su mc ix l1 l2 l3 l4 l5 l6 ks st sp rb ru vc sf dr ss (ob.set (Jl h ob).toNat ((0,0,0,[],[]),([],[],[]),0)) rl wl),rp 0 [] [] []]) []):=by
 refine tq ?_
 rw[Eu _ _ _ _ _ _ _ _ _ _ _ _ _ _ _ _ _ _ _ _ _ _ _ _ _ _ _ _ _ _ _ hol]
 refine tq ?_
 rw[YO _ _ _ _ _ _ _ _ _ _ _ _ _ _ _ _ _ _ _ _ _ _ _ _ _ _ _ _ _ _ _ _ _ _ _ _ _ _ _ _ hol hx]
 exact tq rfl
theorem A7Q{h:Int}{l:List (El sesT)}(hz:0<=Xx h l):∃ x,BO l (h-768)=some x/\x.1≠0:=by
 have hq:=aH hz
 have hg:BO l (h-768)=some (l[(h-768).toNat]'zaa):=DZ zaa
 refine⟨_,hg,fun h0=>?_⟩
 unfold Xx at hz
 rw[if_pos zaa,List.getElem?_eq_getElem zaa] at hz
 simp only[h0,if_true] at hz
 omega
theorem A4A(s:MS)(c h:Int)(hs:List Int)(az:List (El AY))(is:List Int)(bs:List (List UInt8))(hi:Kp a k s)(hk:k<=900)(hh : -100000<=h/\h<=1099511627776)(his:is.length<=100):Both 65 66 s (rq c hs az (h::is) bs) a (k+1):=by
 have hol:=hi.obl
 have hsl:=hi.ssl
 have hup:=hi.up (k':=k+1) zau
 by_cases hx:0<=Jl h s.ob
 ·obtain⟨x,hx',hmem,_⟩:=JZ hx
  have hlt:=PP h s.ob
  have he:Jl h s.ob=h-512:=by unfold Jl at hx ⊢;split at hx<;>simp_all
  have hz:Xx h s.ss<0:=by unfold Xx;rw[if_neg zaa];decide
  obtain⟨⟨p1,p2,p3,p4,p5⟩,⟨s1,s2,s3⟩,hr⟩:=x
  have e1:=qQ s.sd s.au s.en s.ac s.re s.rs s.ck s.od s.sb s.su s.mc s.ix s.l1 s.l2 s.l3 s.l4 s.l5 s.l6 s.ks s.st s.sp s.rb s.ru s.vc s.sf s.dr s.ss s.ob s.rl s.wl c h hs az is bs p1 p2 p3 p4 p5 s1 s2 s3 hr zaa zaa his hh hz hx' zaa
  have e2:=qV s.sd s.au s.en s.ac s.re s.rs s.ck s.od s.sb s.su s.mc s.ix s.l1 s.l2 s.l3 s.l4 s.l5 s.l6 s.ks s.st s.sp s.rb s.ru s.vc s.sf s.dr s.ss s.ob s.rl s.wl c h hs az is bs zaa his zaa
  rw[GG,<-he] at e1
  exact⟨{s with ob:=s.ob.set (Jl h s.ob).toNat obj0},0,[],[],hup.ob_ (jW hi.obs ⟨by decide,by decide,by decide,by decide,by decide,by decide,by decide⟩),Vr,e1,e2⟩
 ·have hx0:Dl s.ob h=none:=by
   have hlt:=PP h s.ob
   unfold Jl at hx
   split at hx
   ·assumption
   ·rename_i hn
    exfalso
    cases hq:Dl s.ob h with
    | none=>exact hn hq
    | some y=>have:=(Qo hq).1;omega
  by_cases hz:0<=Xx h s.ss
  ·obtain⟨⟨x1,x2,x3,x4,x5,x6,x7,x8⟩,hg,h0⟩:=A7Q hz
   have hq:=aH hz
   have hm:=dS (i:=h-768) (x:=ses0) hi.ssm (by exact⟨by decide,by decide⟩)
   exact⟨{s with ss:=Bc s.ss (h-768) ses0},0,[],[],{hup with ssl:=hm.1.trans hsl,ssm:=hm.2},Vr,qO s.sd s.au s.en s.ac s.re s.rs s.ck s.od s.sb s.su s.mc s.ix s.l1 s.l2 s.l3 s.l4 s.l5 s.l6 s.ks s.st s.sp s.rb s.ru s.vc s.sf s.dr s.ss s.ob s.rl s.wl c h hs az is bs _ _ _ _ _ _ _ _ zaa his zaa hg h0,qR s.sd s.au s.en s.ac s.re s.rs s.ck s.od s.sb s.su s.mc s.ix s.l1 s.l2 s.l3 s.l4 s.l5 s.l6 s.ks s.st s.sp s.rb s.ru s.vc s.sf s.dr s.ss s.ob s.rl s.wl c h hs az is bs zaa zaa his hh hz zaa⟩
  ·exact⟨s,7,[],[],hup,Vr,qP s.sd s.au s.en s.ac s.re s.rs s.ck s.od s.sb s.su s.mc s.ix s.l1 s.l2 s.l3 s.l4 s.l5 s.l6 s.ks s.st s.sp s.rb s.ru s.vc s.sf s.dr s.ss s.ob s.rl s.wl c h hs az is bs zaa zaa his hh zaa hx0,qU s.sd s.au s.en s.ac s.re s.rs s.ck s.od s.sb s.su s.mc s.ix s.l1 s.l2 s.l3 s.l4 s.l5 s.l6 s.ks s.st s.sp s.rb s.ru s.vc s.sf s.dr s.ss s.ob s.rl s.wl c h hs az is bs zaa zaa his hh zaa zaa⟩
end
end Go.Proofs.YtnhgnfdbdflhcaaGreatDoor
