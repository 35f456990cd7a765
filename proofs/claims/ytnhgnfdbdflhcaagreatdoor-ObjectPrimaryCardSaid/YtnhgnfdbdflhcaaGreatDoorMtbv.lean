/-
  Own texts, laid together for this claim: contracts of functions of the program and its references, used by the statements of this seat.
-/
import Derived.Test.YtnhgnfdbdflhcaaGreatDoorMtab
import Derived.Test.YtnhgnfdbdflhcaaGreatDoorMtae
import Derived.Test.YtnhgnfdbdflhcaaGreatDoorMtaf
import Derived.Test.YtnhgnfdbdflhcaaGreatDoorMtah
import Derived.Test.YtnhgnfdbdflhcaaGreatDoorMtai
import Derived.Test.YtnhgnfdbdflhcaaGreatDoorMtaj
import Derived.Test.YtnhgnfdbdflhcaaGreatDoorMtas
import Derived.Test.YtnhgnfdbdflhcaaGreatDoorMtau
import Derived.Test.YtnhgnfdbdflhcaaGreatDoorMtaz
import Derived.Test.YtnhgnfdbdflhcaaGreatDoorMtbf
import Derived.Test.YtnhgnfdbdflhcaaGreatDoorMtbg
import Derived.Test.YtnhgnfdbdflhcaaGreatDoorMtbj
import Derived.Test.YtnhgnfdbdflhcaaGreatDoorMtbk
import Derived.Test.YtnhgnfdbdflhcaaGreatDoorMtbo
import Derived.Test.YtnhgnfdbdflhcaaGreatDoorMtbs
set_option linter.all false
set_option maxHeartbeats 40000000
set_option maxRecDepth 100000
namespace Go.Ax
open Go Go.Eng Go.RowKit
theorem A19{sd:List (List UInt8)}{ob:List (El objT)}{h k a t:Int}{o auth d:List UInt8}(ho:o.length<=50000):(E8 sd ob h k a t o auth d).2.ints.length<=1/\(E8 sd ob h k a t o auth d).2.blobs.length<=2/\∀ x∈(E8 sd ob h k a t o auth d).2.blobs,x.length<=100000:=by
 unfold E8
 split
 ·have hm:=KJ (secret:=ET (sd.getD h.toNat []) k a t o d) (auth:=auth) (data:=d) (p:=⟨k,a,t,o,[]⟩)
  have hn:=Aa (Be (ET (sd.getD h.toNat []) k a t o d) ⟨k,a,t,o,[]⟩ auth d).1
  generalize Be (ET (sd.getD h.toNat []) k a t o d) ⟨k,a,t,o,[]⟩ auth d=m at *
  dsimp only at hm ⊢
  have he:=Hf (p:=m.1) zaa zaa
  split
  ·simp
  ·unfold GX
   split
   ·simp only[List.length_cons,List.length_nil,List.mem_cons,List.not_mem_nil,or_false]
    refine⟨by omega,by omega,?_⟩
    rintro x (rfl|rfl)<;>omega
   ·simp
 ·simp
end Go.Ax
namespace Go.Proofs.YtnhgnfdbdflhcaaGreatDoor
open Go Go.Ax Go.Eng
section
attribute [local irreducible] Cc Dn D7 DU DD BA Dp F7 FY FD Ez Ci CS DK DV and' DW DL C9 BR Bh CB CG BG BI Aw BC Dq Fh Dt ER DX Bl CE Bv Bz Bi Az Bg BK Bj BO Du Bc DF BZ BM Cj Di fits Dv Dk Ac Am BH
attribute [local irreducible] Dw CJ Be nameB EL Eh Ar ET E8 Ea ES F8 BV GX Eg Fv FU EE Fa Ej Ho I5 En NE X7 NI Ig
theorem Oh(s:MS)(h k a t:Int)(o u d:List UInt8){A K:Int}(hi:Kp A K s)(ho:o.length<=1000)(hu:u.length<=1000)(hd:d.length<=1000):Ah E0 (.call 21 [av s,rq 9 [h] [(0,[],[])] [k,a,t] [o,u,d]] []) fun r=>∃ b:Bool,r=some (.ret (.b b) []):=by
 have hf:Few [h] [(0,[],[])] [k,a,t] [o,u,d]:=⟨by simp,by simp,by simp,by simp,by simp,by simp;omega⟩
 refine CU fun P hP=>tw ?_
 obtain⟨e0,h0_1,yy0⟩:=Qv 9 [h] [(0,[],[])] [k,a,t] [o,u,d] A7;refine Aq yy0 ?_
 rcases AX e0 0 with hc1|hc1
 ·refine tw ?_;exact hP _ ⟨false,rfl⟩
 subst hc1
 replace h0_1:=h0_1 rfl
 refine tw ?_
 rcases DJ 0 h with hc2|hc2
 ·refine tw ?_;exact hP _ ⟨Ez h 2,rfl⟩
 refine tw ?_;exact hP _ ⟨false,rfl⟩
theorem SH(s:MS)(h k a t:Int)(o u d:List UInt8){A K:Int}(hi:Kp A K s)(hk:K<=900)(hh:0<=h/\h<=2)(ho:o.length<=1000)(hu:u.length<=1000)(hd:d.length<=1000):Ah E0 (.call 22 [av s,rq 9 [h] [(0,[],[])] [k,a,t] [o,u,d]] []) fun r=>r=some (.ret (.b true) []):=by
 have hol:=hi.obl
 have hsl:=hi.sdl
 have hkk:=hi.kk
 have e1:=VY s.sd s.au s.en s.ac s.re s.rs s.ck s.od s.sb s.su s.mc s.ix s.l1 s.l2 s.l3 s.l4 s.l5 s.l6 s.ks s.st s.sp s.rb s.ru s.vc s.sf s.dr s.ss s.ob s.rl s.wl 9 h k a t [] [(0,[],[])] o u d zaa zaa (fun l hl=>by have:=hi.sdm l hl;omega) zam zaa zaa
 have e2:=aJ s.sd s.au s.en s.ac s.re s.rs s.ck s.od s.sb s.su s.mc s.ix s.l1 s.l2 s.l3 s.l4 s.l5 s.l6 s.ks s.st s.sp s.rb s.ru s.vc s.sf s.dr s.ss s.ob s.rl s.wl 9 h k a t [] [(0,[],[])] o u d zaa zaa (fun l hl=>by have:=hi.sdm l hl;omega) zam zaa zaa zaa
 have ha:=A19 (sd:=s.sd) (ob:=s.ob) (h:=h) (k:=k) (a:=a) (t:=t) (o:=o) (auth:=u) (d:=d) zaa
 have hk2:Kp A K {s with ob:=(E8 s.sd s.ob h k a t o u d).1}:=hi.ob_ (aU hi.obs)
 have e4:=Lp _ hk2
 generalize E8 s.sd s.ob h k a t o u d=R at *
 obtain⟨ob',e,is',bs'⟩:=R
 dsimp only[iZ] at *
 have e3:=IA e is' bs' [] zaa zaa (fun x hx=>by have:=ha.2.2 x hx;omega) zam zam
 refine CU fun P hP=>tw ?_
 rw[e1];refine tw ?_;rw[e2];refine tw ?_;rw[e3];refine tw ?_;rw[e4];refine tw ?_;exact hP _ rfl
theorem XE(ac:Int)(cs b:List UInt8)(h k a t:Int)(o u auth data:List UInt8)(v:Bool):Ah E0 (.call 4 [.i ac,.sl .u8 cs,.sl .u8 b,.i h,.agg [.i k,.i a,.i t,.sl .u8 o,.sl .u8 u],.sl .u8 auth,.sl .u8 data,.b v] []) fun r=>r=some (.ret (.b true) []):=by
 have hfew:=fun h=>mY (p:=⟨k,a,t,o,u⟩) h
 have hpub:=A5W k a t o u
 have hc:=Zk ⟨k,a,t,o,u⟩
 have hp:=aj ⟨k,a,t,o,u⟩
 generalize Ig ⟨k,a,t,o,u⟩=Q at *
 obtain⟨qk,qa,qt,qo,qu⟩:=Q
 dsimp only[PI] at *
 refine CU fun P hP=>tw ?_
 rw[PS];refine tw ?_
 rcases AZ 60 (↑b.length) with hc0|hc0
 ·refine tw ?_;exact hP _ rfl
 refine tw ?_
 rcases AZ 60 (↑auth.length) with hc1|hc1
 ·refine tw ?_;exact hP _ rfl
 refine tw ?_
 rcases AZ 200 (↑data.length) with hc2|hc2
 ·refine tw ?_;exact hP _ rfl
 refine tw ?_;rw[A5V ..];refine tw ?_
 rcases bo (NI {kind:=k,attr:=a,height:=t,policy:=o,unique:=u}) with hc3|hc3
 ·rw[hc3]
  replace hfew:=hfew hc3
  refine tw ?_;obtain⟨t4,⟨h4_1,h4_2⟩,yy4⟩:=XB ac cs b A7;refine Aq yy4 ?_
  rcases bo v with rfl|rfl
  ·refine tw ?_;rw[hpub];refine tw ?_
   rcases AZ 1 qt with hc6|hc6
   ·refine tw ?_
    rcases DJ qt 3 with hc7|hc7
    ·refine tw ?_;rw[FX _ _ A7];refine tw ?_;rw[Qr ..];refine tw ?_;obtain⟨b8,yy8⟩:=Oh t4 (h%3) qk qa 1 qo auth data h4_1 A7 A7 A7;refine Aq yy8 ?_
     rcases bo b8 with rfl|rfl
     ·refine tw ?_
      obtain yy10:=SH t4 (h%3) qk qa 1 qo auth data h4_1 A7 A7 A7 A7 A7
      refine Aq yy10 ?_;exact hP _ rfl
     refine tw ?_;exact hP _ rfl
    refine tw ?_;rw[FX _ _ A7];refine tw ?_;rw[Qr ..];refine tw ?_;obtain⟨b11,yy11⟩:=Oh t4 (h%3) qk qa qt qo auth data h4_1 A7 A7 A7;refine Aq yy11 ?_
    rcases bo b11 with rfl|rfl
    ·refine tw ?_
     obtain yy13:=SH t4 (h%3) qk qa qt qo auth data h4_1 A7 A7 A7 A7 A7
     refine Aq yy13 ?_;exact hP _ rfl
    refine tw ?_;exact hP _ rfl
   refine tw ?_;rw[FX _ _ A7];refine tw ?_;rw[Qr ..];refine tw ?_;obtain⟨b14,yy14⟩:=Oh t4 (h%3) qk qa qt qo auth data h4_1 A7 A7 A7;refine Aq yy14 ?_
   rcases bo b14 with rfl|rfl
   ·refine tw ?_
    obtain yy16:=SH t4 (h%3) qk qa qt qo auth data h4_1 A7 A7 A7 A7 A7
    refine Aq yy16 ?_;exact hP _ rfl
   refine tw ?_;exact hP _ rfl
  refine tw ?_
  rcases AZ 1 t with hc17|hc17
  ·refine tw ?_
   rcases DJ t 3 with hc18|hc18
   ·refine tw ?_;rw[FX _ _ A7];refine tw ?_;rw[Qr ..];refine tw ?_;obtain⟨b19,yy19⟩:=Oh t4 (h%3) k a 1 o auth data h4_1 A7 A7 A7;refine Aq yy19 ?_
    rcases bo b19 with rfl|rfl
    ·refine tw ?_
     obtain yy21:=SH t4 (h%3) k a 1 o auth data h4_1 A7 A7 A7 A7 A7
     refine Aq yy21 ?_;exact hP _ rfl
    refine tw ?_;exact hP _ rfl
   refine tw ?_;rw[FX _ _ A7];refine tw ?_;rw[Qr ..];refine tw ?_;obtain⟨b22,yy22⟩:=Oh t4 (h%3) k a t o auth data h4_1 A7 A7 A7;refine Aq yy22 ?_
   rcases bo b22 with rfl|rfl
   ·refine tw ?_
    obtain yy24:=SH t4 (h%3) k a t o auth data h4_1 A7 A7 A7 A7 A7
    refine Aq yy24 ?_;exact hP _ rfl
   refine tw ?_;exact hP _ rfl
  refine tw ?_;rw[FX _ _ A7];refine tw ?_;rw[Qr ..];refine tw ?_;obtain⟨b25,yy25⟩:=Oh t4 (h%3) k a t o auth data h4_1 A7 A7 A7;refine Aq yy25 ?_
  rcases bo b25 with rfl|rfl
  ·refine tw ?_
   obtain yy27:=SH t4 (h%3) k a t o auth data h4_1 A7 A7 A7 A7 A7
   refine Aq yy27 ?_;exact hP _ rfl
  refine tw ?_;exact hP _ rfl
 rw[hc3];refine tw ?_;exact hP _ rfl
theorem XF(ac:Int)(cs b:List UInt8)(h k a t:Int)(o u auth data:List UInt8)(v:Bool):Y E0 (.call 4 [.i ac,.sl .u8 cs,.sl .u8 b,.i h,.agg [.i k,.i a,.i t,.sl .u8 o,.sl .u8 u],.sl .u8 auth,.sl .u8 data,.b v] [])=some (.ret (.b true) []):=XE ac cs b h k a t o u auth data v
end
end Go.Proofs.YtnhgnfdbdflhcaaGreatDoor
