/- Own texts of this claim: contracts of functions. -/
import Derived.Test.YtlpkjhhfhannpaaGreatDoorBtbd
set_option linter.all false
set_option maxHeartbeats 40000000
set_option maxRecDepth 100000
namespace Go.Proofs.YtlpkjhhfhannpaaGreatDoor
open Go Go.Ax Go.Eng
attribute [local irreducible] CS Cj CP CW CQ BC Cm ED ES Dx EG CJ Bi Ce CX and' Cf CU BL Au BI BP BR Ag Ai AY Ae D5 EJ D6 DX Cb BZ BQ BM BO BJ AZ BK Aj Ak Ap D7 BB CV BU BF CO D8 Cc fits D9 Ci AC AQ Ah
theorem AAd{s u d:List UInt8}{p:Pub}:0<=(CY s p u d).2.2/\(CY s p u d).2.2<=20:=by
 unfold CY DI
 dsimp only
 repeat' split
 all_goals(try dsimp only);first|decide|omega
theorem A5j{s u d:List UInt8}{p:Pub}(h:(CY s p u d).2.2=0):(CY s p u d).1.policy.length<=32:=by
 unfold CY at h ⊢
 split at h
 ·rename_i hc;exact absurd h hc
 rename_i hc
 split at h
 ·cases h
 rename_i h1
 split at h
 ·cases h
 rename_i h2
 rw[if_neg hc,if_neg h1,if_neg h2]
 exact(AAE (Decidable.not_not.1 hc)).policy
theorem ACR{sd:List (List UInt8)}{ob ob2:List (El objT)}{h k a t e:Int}{o u d:List UInt8}{is:List Int}{bs:List (List UInt8)}(hl:ob.length<=10)(ho:o.length<=1024)(hp:Eo sd ob h k a t o u d=(ob2,⟨e,is,bs⟩)):rpG e is bs []:=by
 unfold Eo at hp
 split at hp
 ·have hm:=Yj (secret:=Ei (sd.getD h.toNat []) k a t o d) (auth:=u) (data:=d) (p:=⟨k,a,t,o,[]⟩)
  have hpol:=A5j (s:=Ei (sd.getD h.toNat []) k a t o d) (u:=u) (d:=d) (p:=⟨k,a,t,o,[]⟩)
  have he:=AAd (s:=Ei (sd.getD h.toNat []) k a t o d) (u:=u) (d:=d) (p:=⟨k,a,t,o,[]⟩)
  have hn:=DD (CY (Ei (sd.getD h.toNat []) k a t o d) ⟨k,a,t,o,[]⟩ u d).1
  generalize CY (Ei (sd.getD h.toNat []) k a t o d) ⟨k,a,t,o,[]⟩ u d=m at *
  dsimp only at hm hp
  have hl:=Js (p:=m.1) zaa zaa
  split at hp
  ·cases hp
   exact ww zaa
  ·rename_i hm0
   have hpl:=hpol (Decidable.not_not.1 hm0)
   unfold Io at hp
   split at hp
   ·cases hp
    refine⟨.inl rfl,by simp,by simp,by simp,?_,?_,by simp⟩
    ·intro x hx;simp at hx;omega
    ·simp only[List.mem_cons,List.not_mem_nil,or_false]
     rintro x (rfl|rfl)<;>omega
   ·cases hp
    exact ww zaj
 ·cases hp
  exact ww zaj
variable (b:List (List UInt8))(u:Int)(nn:List UInt8)
theorem AEY(h k a t:Int)(o v d:List UInt8)(hh:0<=h/\h<=2)(ho:o.length<=1024)(hd:d.length<=1024):Vk (.call 140 [tb b u,rq 9 [h] [(0,nn,[])] [k,a,t] [o,v,d]] []):=by
 obtain⟨ob2,⟨e,is,bs⟩,hp⟩:∃ ob2 r,Eo (Ad zen) noOb h k a t o v d=(ob2,r):=⟨_,_,rfl⟩
 exact⟨{Wx b u with ob:=ob2},e,is,bs,rfl,Um _ rfl (JF 1 zaj),ACR zat ho hp,dX (Ad zen) [[],[],[],[]] (BG zen BN [] 32) 2 1 0 0 false 0 0 [] 0 5 100 0 0 1000 [] true false [[],b] u 0 true 0 noSs noOb [] [] h k a t [(0,nn,[])] o v d zat (by rw[Ol];decide) (ay _) zaa zaa e is bs ob2 hp⟩
theorem AAe(s n:Int)(x y:List UInt8)(hs:0<=s/\s<=1099511627776):Y E0 (.call 202 [tb b u,.i s,.sl .u8 x,.sl .u8 y,.i n] [])=some (.ret (.tup [zS,.i 8]) []):=by
 have k:=ZV b u s hs
 refine tq ?_
 rw[k]
 exact tq rfl
theorem ACS(h s n:Int)(x:List UInt8)(hh:0<=h/\h<=3)(hs:0<=s/\s<=1099511627776):Vk (.call 140 [tb b u,rq 18 [h] [(0,nn,[])] [s,n] [x]] []):=by
 refine rP (b:=b) (u:=u) (e:=8) zaj ?_
 have k:=AAe b u s n (MW h) x hs
 have k2:=rM b u h hh
 have kd:=Qx b u 8 zaj
 have kf:=Eu (Ad zen) [[],[],[],[]] (BG zen BN [] 32) 2 1 0 0 false 0 0 [] 0 5 100 0 0 1000 [] true false [[],b] u 0 true 0 noSs noOb [] [] 8
 by_cases h0:s=0
 ·subst h0
  refine tq ?_
  refine tq ?_
  with_reducible rfl
 ·refine tq ?_
  rw[k2]
  refine tq ?_
  rw[k]
  refine tq ?_
  rw[kd]
  exact tq rfl
theorem AAf(h:Int)(x:List UInt8)(hx:32<x.length):Y E0 (.call 205 [tb b u,rq 30 [h] [(0,nn,[])] [] [x]] [])=some (.ret (.tup [tb b u,Hr 4 [] [] []]) []):=by
 have kf:=Eu (Ad zen) [[],[],[],[]] (BG zen BN [] 32) 2 1 0 0 false 0 0 [] 0 5 100 0 0 1000 [] true false [[],b] u 0 true 0 noSs noOb [] [] 4
 refine tq ?_
 refine tq ?_
 with_reducible rfl
theorem AAg(h:Int)(x:List UInt8)(hx:32<x.length):Vk (.call 140 [tb b u,rq 30 [h] [(0,nn,[])] [] [x]] []):=by
 refine rP (b:=b) (u:=u) (e:=4) zaj ?_
 have k:=AAf b u nn h x hx
 refine tq ?_
 rw[k]
 exact tq rfl
theorem AAh:Y E0 (.call 205 [tb b u,rq 32 [3] [(0,nn,[])] [] []] [])=some (.ret (.tup [tb b u,Hr 0 [] [] []]) []):=by
 refine tq ?_
 refine tq ?_
 with_reducible rfl
theorem ACT:Vk (.call 140 [tb b u,rq 32 [3] [(0,nn,[])] [] []] []):=by
 refine⟨Wx b u,0,[],[],rfl,Rz b u,jS,?_⟩
 have k:=AAh b u nn
 refine tq ?_
 rw[k]
 exact tq rfl
theorem A5k(x y z:Int)(hb:x<1\/100<x\/y<0\/1048576<y\/z<0\/1048576<z):Y E0 (.call 273 [.agg [.i 0,.i 5,.i 100,.i 0,.i 0,.i 1000],.i x,.i y,.i z] [])=some (.ret (.tup [.agg [.i 0,.i 0,.i 0,.i 0,.i 0,.i 0],.i 1]) []):=by
 refine tq ?_
 rcases Bc x 1 with hc0|hc0
 ·
  rw[Dl zaa]
  conv=>lhs;whnf
 rw[Fv zaa]
 conv=>lhs;whnf
 refine tq ?_
 rcases Bc 100 x with hc1|hc1
 ·
  rw[Dl zaa]
  conv=>lhs;whnf
 rw[Fv zaa]
 conv=>lhs;whnf
 refine tq ?_
 rcases Bc y 0 with hc2|hc2
 ·
  rw[Dl zaa]
  conv=>lhs;whnf
 rw[Fv zaa]
 conv=>lhs;whnf
 refine tq ?_
 rcases Bc 1048576 y with hc3|hc3
 ·
  rw[Dl zaa]
  conv=>lhs;whnf
 rw[Fv zaa]
 conv=>lhs;whnf
 refine tq ?_
 rcases Bc z 0 with hc4|hc4
 ·
  rw[Dl zaa]
  conv=>lhs;whnf
 rw[Fv zaa]
 conv=>lhs;whnf
 refine tq ?_
 with_reducible rfl
theorem A5l(x y z:Int)(hb:1<=x/\x<=100/\0<=y/\y<=1048576/\0<=z/\z<=1048576):Y E0 (.call 273 [.agg [.i 0,.i 5,.i 100,.i 0,.i 0,.i 1000],.i x,.i y,.i z] [])=some (.ret (.tup [.agg [.i 0,.i x,.i y,.i 0,.i 0,.i z],.i 0]) []):=by
 refine tq ?_
 (rw[show min 0 x=0 from by omega])
theorem A8E(x y z:Int)(hb:x<1\/100<x\/y<0\/1048576<y\/z<0\/1048576<z):Y E0 (.call 205 [tb b u,rq 33 [3] [(0,nn,[])] [x,y,z] []] [])=some (.ret (.tup [tb b u,Hr 1 [] [] []]) []):=by
 have k:=A5k x y z hb
 have kf:=Eu (Ad zen) [[],[],[],[]] (BG zen BN [] 32) 2 1 0 0 false 0 0 [] 0 5 100 0 0 1000 [] true false [[],b] u 0 true 0 noSs noOb [] [] 1
 refine tq ?_
 rw[k]
 refine tq ?_
 rw[kf]
 exact tq rfl
theorem AAi(x y z:Int)(hb:x<1\/100<x\/y<0\/1048576<y\/z<0\/1048576<z):Vk (.call 140 [tb b u,rq 33 [3] [(0,nn,[])] [x,y,z] []] []):=by
 refine rP (b:=b) (u:=u) (e:=1) zaj ?_
 have k:=A8E b u nn x y z hb
 refine tq ?_
 rw[k]
 exact tq rfl
theorem A8F(x y z:Int)(hb:1<=x/\x<=100/\0<=y/\y<=1048576/\0<=z/\z<=1048576):Y E0 (.call 205 [tb b u,rq 33 [3] [(0,nn,[])] [x,y,z] []] [])=some (.ret (.tup [(sX (Ad zen) [[],[],[],[]] (BG zen BN [] 32) 2 1 0 0 false [] 0 0 [] 0 x y 0 0 z [] true false [[],b] u 0 true 0 noSs noOb [] []),Hr 0 [] [] []]) []):=by
 have k:=A5l x y z hb
 refine tq ?_
 rw[k]
 exact tq rfl
theorem AAj(x y z:Int)(hb:1<=x/\x<=100/\0<=y/\y<=1048576/\0<=z/\z<=1048576):Vk (.call 140 [tb b u,rq 33 [3] [(0,nn,[])] [x,y,z] []] []):=by
 have k:=A8F b u nn x y z hb
 refine⟨{Wx b u with l2:=x,l3:=y,l6:=z},0,[],[],rfl,?_,jS,?_⟩
 ·have h:=JF 1 zaj
  exact Um _ rfl ⟨h.sl,h.al,h.sm,h.am,h.en,h.ac,h.re,h.rs,h.ck,h.su,h.mc,h.il,h.im,by show VV 0 x y 0 0 z;unfold VV;omega,h.kl,h.km⟩
 ·refine tq ?_
  rw[k]
  exact tq rfl
theorem ACU(h:Int)(x:List UInt8)(hh:0<=h/\h<=3)(hx:x.length<=1024):Vk (.call 140 [tb b u,rq 30 [h] [(0,nn,[])] [] [x]] []):=by
 by_cases h0:32<x.length
 ·exact AAg b u nn h x h0
 ·have k:=wH (Ad zen) [[],[],[],[]] (BG zen BN [] 32) 2 1 0 0 false 0 0 [] 0 5 100 0 0 1000 [] true false [[],b] u 0 true 0 noSs noOb [] [] h [(0,nn,[])] x zat hh zaa
  refine⟨{Wx b u with au:=BB [[],[],[],[]] h x},0,[],[],rfl,Um _ rfl ?_,jS,k⟩
  have o:=JF 1 zaj
  obtain⟨h1,h2⟩:=bC (i:=h) (p:=fun y:List UInt8=>y.length<=1000) o.am (by omega:x.length<=1000)
  exact⟨o.sl,h1.trans rfl,o.sm,h2,o.en,o.ac,o.re,o.rs,o.ck,o.su,o.mc,o.il,o.im,o.lk,o.kl,o.km⟩
end Go.Proofs.YtlpkjhhfhannpaaGreatDoor
