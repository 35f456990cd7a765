/- Own texts of this claim: contracts of functions. -/
import Derived.Test.YtlpkjhhfhannpaaGreatDoorBtbh
import Derived.Test.YtlpkjhhfhannpaaGreatDoorBtbm
set_option linter.all false
set_option maxHeartbeats 40000000
set_option maxRecDepth 100000
namespace Go.Proofs.YtlpkjhhfhannpaaGreatDoor
open Go Go.Ax Go.Eng
attribute [local irreducible] CS Cj CP CW CQ BC Cm ED ES Dx EG CJ Bi Ce CX and' Cf CU BL Au BI BP BR Ag Ai AY Ae D5 EJ D6 DX Cb BZ BQ BM BO BJ AZ BK Aj Ak Ap D7 BB CV BU BF CO D8 Cc fits D9 Ci AC AQ Ah
theorem AEn(x:List UInt8)(h a i:Nat)(nb:Int):0<=dE x h a i nb/\dE x h a i nb<=20:=by
 unfold dE
 split
 ·decide
 ·split
  ·decide
  ·rename_i h1 _
   have k1:=oO (b:=x) i (p:=(dA x h a).2.1) (ABz x h a) (Bool.eq_false_iff.2 h1)
   exact A9A (oP _ (Mc zaj k1))
theorem AD2(y:List UInt8):0<=VZ y/\VZ y<=20:=by
 unfold VZ
 split
 ·unfold iq
  repeat' split
  all_goals decide
 ·split
  ·decide
  ·exact AEn ..
theorem AB5{e:Int}(h:0<e/\e<=20):Ip e [] [] []=[UInt8.ofInt e]:=by
 unfold Ip;rw[if_pos zaa]
noncomputable def pT:List UInt8:=encS (Ad zen) [[],[],[],[]] (BG zen BN [] 32) 2 1 0 0 false [] 0 0 [] 0 5 100 0 0 1000 []
theorem A1b:Y E0 (.call 62 [.agg (VW (Ad zen) [[],[],[],[]] (BG zen BN [] 32) 2 1 0 0 false [] 0 0 [] 0 5 100 0 0 1000 [])] [])=some (.ret (.sl .u8 pT) [])/\pT.length<=50000:=by
 have h:=JF 1 zaj
 exact⟨UR (Ad zen) [[],[],[],[]] (BG zen BN [] 32) 2 1 0 0 false 0 0 [] 0 5 100 0 0 1000 [] h.sl h.al h.sm h.am h.en h.il h.im h.kl h.km,Nat.le_trans (O9 (Ad zen) [[],[],[],[]] (BG zen BN [] 32) 2 1 0 0 false 0 0 [] 0 5 100 0 0 1000 [] h) zaj⟩
variable (b:List (List UInt8))(u:Int)
theorem AB6(c e:Int)(hs:List Int)(az:List (El AB))(is:List Int)(bs:List (List UInt8))(y r:List UInt8)(he:e≠0)(hd:Y E0 (.call 85 [.sl .u8 y] [])=some (.ret (.tup [rq c hs az is bs,.i e]) []))(hr:Y E0 (.call 86 [Hr e [] [] []] [])=some (.ret (.sl .u8 r) [])):Y E0 (.call 42 [tb b u,.i 0,.sl .u8 y] [])=some (.ret (.tup [tb b u,.sl .u8 r]) []):=by
 refine tq ?_
 rw[hd]
 refine tq ?_
 rw[hr]
 exact tq rfl
theorem AD3(ar:List (List UInt8))(wr nx:Int)(i:Int)(d x:List UInt8)(hb:Eg 32 b)(hu:0<=u/\u<=1000)(hi:0<=i/\i<16)(hd:d.length<=100)(hg:Ap b i=some x):
  Y E0 (.call 15 [Jv ar wr 0 0 false (Ad zen) [[],[],[],[]] (BG zen BN [] 32) 2 1 0 0 false [] 0 0 [] 0 5 100 0 0 1000 [] true false [[],b] u 0 true 0 noSs noOb [] [] true nx,.i 4,rq 7 [] [] [i] [d],.i 0,.i 2] [])=some (.ret (.tup [Jv ar wr 0 0 false (Ad zen) [[],[],[],[]] (BG zen BN [] 32) 2 1 0 0 false [] 0 0 [] 0 5 100 0 0 1000 [] true false [[],BB b i (sha256 (BF x (sha256 d)))] (u+1) 0 true 0 noSs noOb [] [] true nx,Hr 0 [] [[],sha256 d] [],.b true]) []):=by
 have hq:=ACY i d zaa hd
 have x1:=A8J (Ad zen) [[],[],[],[]] (BG zen BN [] 32) 2 1 0 0 false 0 0 [] 0 5 100 0 0 1000 [] true false [[],b] u 0 true 0 noSs noOb [] [] b i d x rfl rfl hb zaa hi hd hg hq
 have q1:=AC5 ar wr 0 nx 4 (Ad zen) [[],[],[],[]] (BG zen BN [] 32) 2 1 0 0 false [] 0 0 [] 0 5 100 0 0 1000 [] true false [[],b] u 0 true 0 noSs noOb [] [] (Ad zen) [[],[],[],[]] (BG zen BN [] 32) 2 1 0 0 false [] 0 0 [] 0 5 100 0 0 1000 [] true false [[],BB b i (sha256 (BF x (sha256 d)))] (u+1) 0 true 0 noSs noOb [] [] _ A1b.1 A1b.1 7 1 [] [] [i] [d] 0 [] [[],sha256 d] [] hq ⟨.inl rfl,by simp,by simp,by simp,by simp,by intro y hy;simp at hy;rcases hy with rfl|rfl;simp;rw[A7];decide,by simp⟩ x1
 exact Qp ar ar wr 0 nx wr nx 4 (Ad zen) [[],[],[],[]] (BG zen BN [] 32) 2 1 0 0 false 0 0 [] 0 5 100 0 0 1000 [] true false [[],b] u 0 true 0 noSs noOb [] [] (Ad zen) [[],[],[],[]] (BG zen BN [] 32) 2 1 0 0 false 0 0 [] 0 5 100 0 0 1000 [] true false [[],BB b i (sha256 (BF x (sha256 d)))] (u+1) 0 true 0 noSs noOb [] [] 7 [] [] [i] [d] 0 0 2 [] [[],sha256 d] [] q1 zat rfl rfl rfl
theorem A8S(hb:Eg 32 b)(hu:0<=u/\u<=1000000)(ar:List (List UInt8))(wr nx:Int)(har:PK ar (nx-1) pT)(hw:0<=wr/\wr<=nx)(hn:nx<=800000)(y:List UInt8)(hy:y.length<=100000):
  ∃(ar':List (List UInt8)) (wr' nx':Int) (s:MS) (r:List UInt8) (e:Int) (js:List Int) (cs:List (List UInt8)),(VZ y≠0->r=[UInt8.ofInt (VZ y)]/\nx'=nx)/\Y E0 (.call 10 [.sl .u8 r] [])=some (.ret (.tup [Hr e js cs [],.i 0]) []) /\
   Y E0 (.call 9 [Jv ar wr 0 0 false (Ad zen) [[],[],[],[]] (BG zen BN [] 32) 2 1 0 0 false [] 0 0 [] 0 5 100 0 0 1000 [] true false [[],b] u 0 true 0 noSs noOb [] [] true nx,.i 0,.sl .u8 y] [])=some (.ret (.tup [Jv ar' wr' 0 0 false s.sd s.au s.en s.ac s.re s.rs s.ck s.od s.sb s.su s.mc s.ix s.l1 s.l2 s.l3 s.l4 s.l5 s.l6 s.ks s.st s.sp s.rb s.ru s.vc s.sf s.dr s.ss s.ob s.rl s.wl true nx',.sl .u8 r,.i 0]) []):=by
 obtain⟨c,hs,az,is,bs,hd,hq⟩:=qw y hy
 have hc:=AD2 y
 by_cases h0:VZ y=0
 ·obtain⟨⟨sd,au,en,ac,re,rs,ck,od,sb,su,mc,ix,l1,l2,l3,l4,l5,l6,ks,st,sp,rb,ru,vc,sf,dr,ss,ob,rl,wl⟩,e,js,cs,⟨p1,e1,l1'⟩,h2,hx⟩:=AB1 b u hb hu c hs az is bs (hq h0)
  rw[h0] at hd
  obtain⟨ar',wr',nx',k1,k2,k3,k4,hcm⟩:=ZG ar wr 0 nx (Ad zen) [[],[],[],[]] (BG zen BN [] 32) 2 1 0 0 false [] 0 0 [] 0 5 100 0 0 1000 [] true false [[],b] u 0 true 0 noSs noOb [] [] sd au en ac re rs ck od sb su mc ix l1 l2 l3 l4 l5 l6 ks st sp rb ru vc sf dr ss ob rl wl pT p1 A1b.1 e1 A1b.2 l1' har hw hn
  have hr:=XK h2
  have hrun:=jF (Ad zen) [[],[],[],[]] (BG zen BN [] 32) 2 1 0 0 false [] 0 0 [] 0 5 100 0 0 1000 [] true false [[],b] u 0 true 0 noSs noOb [] [] sd au en ac re rs ck od sb su mc ix l1 l2 l3 l4 l5 l6 ks st sp rb ru vc sf dr ss ob rl wl 0 c hs az is bs e y js cs [] hd hx hr.1
  exact⟨ar',wr',nx',⟨sd,au,en,ac,re,rs,ck,od,sb,su,mc,ix,l1,l2,l3,l4,l5,l6,ks,st,sp,rb,ru,vc,sf,dr,ss,ob,rl,wl⟩,Ip e js cs [],e,js,cs,fun h=>absurd h0 h,hr.2,Uf ar ar' wr 0 nx wr' nx' 0 (Ad zen) [[],[],[],[]] (BG zen BN [] 32) 2 1 0 0 false [] 0 0 [] 0 5 100 0 0 1000 [] true false [[],b] u 0 true 0 noSs noOb [] [] sd au en ac re rs ck od sb su mc ix l1 l2 l3 l4 l5 l6 ks st sp rb ru vc sf dr ss ob rl wl y _ hrun hcm.2⟩
 ·have hr:=XK (ww (e:=VZ y) zaa)
  rw[AB5 (e:=VZ y) zaa] at hr
  have hrun:=AB6 b u c (VZ y) hs az is bs y [UInt8.ofInt (VZ y)] h0 hd hr.1
  exact⟨ar,wr,nx,Wx b u,[UInt8.ofInt (VZ y)],VZ y,[],[],fun _=>⟨rfl,rfl⟩,hr.2,Uf ar ar wr 0 nx wr nx 0 (Ad zen) [[],[],[],[]] (BG zen BN [] 32) 2 1 0 0 false [] 0 0 [] 0 5 100 0 0 1000 [] true false [[],b] u 0 true 0 noSs noOb [] [] (Ad zen) [[],[],[],[]] (BG zen BN [] 32) 2 1 0 0 false [] 0 0 [] 0 5 100 0 0 1000 [] true false [[],b] u 0 true 0 noSs noOb [] [] y _ hrun (Nb ar wr 0 nx (Ad zen) [[],[],[],[]] (BG zen BN [] 32) 2 1 0 0 false [] 0 0 [] 0 5 100 0 0 1000 [] true false [[],b] u 0 true 0 noSs noOb [] [] (Ad zen) [[],[],[],[]] (BG zen BN [] 32) 2 1 0 0 false [] 0 0 [] 0 5 100 0 0 1000 [] true false [[],b] u 0 true 0 noSs noOb [] [] pT A1b.1 A1b.1)⟩
theorem A61(i:Int)(d:List UInt8):Y E0 (.call 23 [.i i,.sl .u8 d] [])=some (.ret (rq 7 [] [] [i] [d]) []):=by
 refine tq ?_
 with_reducible rfl
theorem AD4(x:UInt8):0<=EJ (BL x (UInt8.ofNat 16))/\EJ (BL x (UInt8.ofNat 16))<16:=by
 rw[ed,kN]
 unfold u8rem0 u8i0
 have h:x.toNat%(UInt8.ofNat 16).toNat<16:=Nat.mod_lt _ zaj
 rw[UInt8.toNat_ofNat',Nat.mod_eq_of_lt zaa]
 omega
theorem dZ(ar:List (List UInt8))(wr nx:Int)(cd:List UInt8):∀(n j:Nat) (b:List (List UInt8)) (u:Int),j+n=6->Eg 32 b->0<=u/\u<=j->EC E0 (.loop 6 0 0 2 [(1,AV.sl Ty.u8 cd),(2,AV.pa 0 0),(4,AV.pa 1 0),(6,AV.i (j:Int))] [(0,some (Rs.var [AV.sl Ty.u8.sl ar,AV.i wr,AV.i 0,AV.i 0,AV.b false,.sl (.sl .u8) (Ad zen),.sl (.sl .u8) [[],[],[],[]],.sl .u8 (BG zen BN [] 32),.i 2,.i 1,.i 0,.i 0,.b false,.sl (.sl (.sl .u8)) [],.i 0,.i 0,.sl Bf [],.i 0,.i 5,.i 100,.i 0,.i 0,.i 1000,.sl E8 [],.b true,.b false,.sl (.sl (.sl .u8)) [[],b],.i u,.i 0,.b true,.i 0,.sl sesT noSs,.sl objT noOb,.sl .i64 [],.sl .i64 [],AV.b true,AV.i nx])),(1,some (Rs.var [AV.nil,AV.i 0,AV.i 0,AV.i 0,AV.b false,AV.nil,AV.nil,AV.nil,AV.i 0,AV.i 0,AV.i 0,AV.i 0,AV.b false,AV.nil,AV.i 0,AV.i 0,AV.nil,AV.i 0,AV.i 0,AV.i 0,AV.i 0,AV.i 0,AV.i 0,AV.nil,AV.b false,AV.b false,AV.nil,AV.i 0,AV.i 0,AV.b false,AV.i 0,AV.nil,AV.nil,AV.nil,AV.nil,AV.b false,AV.i 0]))]) fun r=>∃(b:List (List UInt8)) (u:Int),(Eg 32 b/\0<=u/\u<=6)/\r=some (.fin (.exit 0) 2 [(2,AV.pa 0 0),(4,AV.pa 1 0)] [(0,some (Rs.var [AV.sl Ty.u8.sl ar,AV.i wr,AV.i 0,AV.i 0,AV.b false,.sl (.sl .u8) (Ad zen),.sl (.sl .u8) [[],[],[],[]],.sl .u8 (BG zen BN [] 32),.i 2,.i 1,.i 0,.i 0,.b false,.sl (.sl (.sl .u8)) [],.i 0,.i 0,.sl Bf [],.i 0,.i 5,.i 100,.i 0,.i 0,.i 1000,.sl E8 [],.b true,.b false,.sl (.sl (.sl .u8)) [[],b],.i u,.i 0,.b true,.i 0,.sl sesT noSs,.sl objT noOb,.sl .i64 [],.sl .i64 [],AV.b true,AV.i nx])),(1,some (Rs.var [AV.nil,AV.i 0,AV.i 0,AV.i 0,AV.b false,AV.nil,AV.nil,AV.nil,AV.i 0,AV.i 0,AV.i 0,AV.i 0,AV.b false,AV.nil,AV.i 0,AV.i 0,AV.nil,AV.i 0,AV.i 0,AV.i 0,AV.i 0,AV.i 0,AV.i 0,AV.nil,AV.b false,AV.b false,AV.nil,AV.i 0,AV.i 0,AV.b false,AV.i 0,AV.nil,AV.nil,AV.nil,AV.nil,AV.b false,AV.i 0]))])
 | 0,j,b,u,hj,hb,hu=>by
  obtain rfl:j=6:=zaa
  refine G5 fun P hP=>?_
  rw[AL];conv=>arg 1;whnf
  refine tw ?_
  rcases Bc 6 (↑cd.length) with hc0|hc0
  ·
   rw[Dl zah]
   conv=>arg 1;whnf
   refine tw ?_
   refine hP _ ⟨b,u,?_,rfl⟩;exact⟨by assumption,by omega⟩
  refine tw ?_
  refine hP _ ⟨b,u,?_,rfl⟩;exact⟨by assumption,by omega⟩
 | n+1,j,b,u,hj,hb,hu=>by
  have ih:=fun b u=>dZ ar wr nx cd n (j+1) b u zaa
  rw[show((j+1:Nat):Int)=(j:Int)+1 from by omega] at ih
  by_cases hc:j<cd.length
  ·have hg:Ap cd (j:Int)=some (cd[j]'hc):=JC hc
   have hi:=AD4 (cd[j]'hc)
   obtain⟨x,hx,hxl⟩:=jU hb hi
   have hm:=AD3 b u ar wr nx _ [cd[j]'hc,DX (j:Int)] x hb zaa hi zat hx
   have hb':=AAq (x:=sha256 (BF x (sha256 [cd[j]'hc,DX (j:Int)]))) hb (EJ (BL (cd[j]'hc) (UInt8.ofNat 16))) (A7 _)
   generalize BB b (EJ (BL (cd[j]'hc) (UInt8.ofNat 16))) (sha256 (BF x (sha256 [cd[j]'hc,DX (j:Int)])))=b' at hm hb'
   have ih1:=ih b' (u+1) hb' zaa
   refine G5 fun P hP=>?_
   rw[AL];conv=>arg 1;whnf
   refine tw ?_
   rw[hg]
   refine tw ?_
   rw[hg]
   refine tw ?_
   rw[A61]
   refine tw ?_
   rw[hm]
   refine tw ?_
   exact hP _ ih1
  ·refine G5 fun P hP=>?_
   rw[AL];conv=>arg 1;whnf
   refine tw ?_
   refine hP _ ⟨b,u,?_,rfl⟩;exact⟨by assumption,by omega⟩
theorem A8T(ar:List (List UInt8))(wr nx:Int)(b:List (List UInt8))(cd:List UInt8)(hb:Eg 32 b):∃(b':List (List UInt8)) (u':Int),(Eg 32 b'/\0<=u'/\u'<=6)/\Y E0 (.call 6 [Jv ar wr 0 0 false (Ad zen) [[],[],[],[]] (BG zen BN [] 32) 2 1 0 0 false [] 0 0 [] 0 5 100 0 0 1000 [] true false [[],b] 0 0 true 0 noSs noOb [] [] true nx,.sl .u8 cd] [])=some (.ret (.tup [Jv ar wr 0 0 false (Ad zen) [[],[],[],[]] (BG zen BN [] 32) 2 1 0 0 false [] 0 0 [] 0 5 100 0 0 1000 [] true false [[],b'] u' 0 true 0 noSs noOb [] [] true nx,.b true]) []):=by
 obtain⟨b',u',h,l0⟩:=dZ ar wr nx cd 6 0 b 0 rfl hb zaa
 rw[show((0:Nat):Int)=0 from rfl] at l0
 refine⟨b',u',h,?_⟩
 refine tq ?_
 rw[l0]
 exact tq rfl
theorem AB7(c:Int)(hs:List Int)(az:List (El AB))(is:List Int)(bs:List (List UInt8))(hf:Few hs az is bs):∃(l:List UInt8) (e:Int),l.length<=100000/\Y E0 (.call 7 [rq c hs az is bs] [])=some (.ret (.tup [.nm 0,.i e]) [some (.row 5 .u8 l)]):=by
 obtain⟨e,-,k1⟩:=pq c hs az is bs hf
 obtain⟨l,hl,k2⟩:=ZF c hs az is bs hf
 by_cases he:e=0
 ·refine⟨l,0,hl,?_⟩
  subst he
  refine tq ?_
  rw[k1]
  refine tq ?_
  rw[k2]
  exact tq rfl
 ·refine⟨[],e,by simp,?_⟩
  refine tq ?_
  rw[k1]
  exact tq rfl
theorem AD5(b:List (List UInt8))(u:Int)(hb:Eg 32 b)(hu:0<=u/\u<=6):Kp 2 10 (Wx b u):=by
 have hs:∀ x∈Ad zen,x.length=32:=by
  intro l hl
  simp only[Ad,List.mem_cons,List.not_mem_nil,or_false] at hl
  rcases hl with rfl|rfl|rfl<;>(rw[Et zaa];rfl)
 exact {sdl:=rfl,sdm:=hs,aul:=rfl,aum:=zat,en:=(by show(BG zen BN [] 32).length=32;rw[Et zaa];rfl),ac:=⟨rfl,by omega⟩,kk:=(show(0:Int)<=10/\(10:Int)<=1000 by decide),re:=(show(0:Int)<=1/\(1:Int)<=10 by decide),rs:=(show(0:Int)<=0/\(0:Int)<=10 by decide),ck:=(show(0:Int)<=0/\(0:Int)<=1099511627776 by decide),sb:=.inl rfl,su:=(show(0:Int)<=0/\(0:Int)<=10 by decide),ixl:=zat,ixm:=zat,lk:=(show VV 0 5 100 0 0 1000 from by unfold VV;decide),ksl:=zat,ksm:=zat,rb:=.inr ⟨[],b,rfl,.inl rfl,.inr hb,fun _=>hb⟩,st:=(by intro _ _ h;cases h),ru:=(show 0<=u/\u<=10 by omega),vc:=(show(0:Int)<=0/\(0:Int)<=1099511627776 by decide),dr:=(show(0:Int)<=0/\(0:Int)<=10 by decide),ssl:=yu.1,ssm:=yu.2,obl:=yw.1,obm:=yw.2,rl:=zat,wl:=zat}
end Go.Proofs.YtlpkjhhfhannpaaGreatDoor
