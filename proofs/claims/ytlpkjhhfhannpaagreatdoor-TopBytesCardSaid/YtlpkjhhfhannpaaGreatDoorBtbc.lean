/- Own texts of this claim: contracts of functions. -/
import Derived.Test.YtlpkjhhfhannpaaGreatDoorBtap
import Derived.Test.YtlpkjhhfhannpaaGreatDoorBtba
set_option linter.all false
set_option maxHeartbeats 40000000
set_option maxRecDepth 100000
namespace Go.Proofs.YtlpkjhhfhannpaaGreatDoor
open Go Go.Ax Go.Eng
attribute [local irreducible] CS Cj CP CW CQ BC Cm ED ES Dx EG CJ Bi Ce CX and' Cf CU BL Au BI BP BR Ag Ai AY Ae D5 EJ D6 DX Cb BZ BQ BM BO BJ AZ BK Aj Ak Ap D7 BB CV BU BF CO D8 Cc fits D9 Ci AC AQ Ah
section
variable {e:Int}(b:List (List UInt8))(u c nb:Int)(hs is:List Int)
@[reducible] def Wx (b:List (List UInt8)) (u:Int):MS:=⟨Ad zen,[[],[],[],[]],BG zen BN [] 32,2,1,0,0,false,[],0,0,[],0,5,100,0,0,1000,[],true,false,[[],b],u,0,true,0,noSs,noOb,[],[]⟩
def wu(s:MS):Prop:=∃ p:List UInt8,Y E0 (.call 62 [.agg (VW s.sd s.au s.en s.ac s.re s.rs s.ck s.od s.sb s.su s.mc s.ix s.l1 s.l2 s.l3 s.l4 s.l5 s.l6 s.ks)] [])=some (.ret (.sl .u8 p) [])/\p.length<=50000
theorem Um(s:MS)(h0:s.sb=[])(h:stOK s.sd s.au s.en s.ac s.re s.rs s.ck s.su s.mc s.ix s.l1 s.l2 s.l3 s.l4 s.l5 s.l6 s.ks):wu s:=by
 obtain⟨sd,au,en,ac,re,rs,ck,od,sb,su,mc,ix,l1,l2,l3,l4,l5,l6,ks,st,sp,rb,ru,vc,sf,dr,ss,ob,rl,wl⟩:=s
 cases h0
 exact⟨_,UR sd au en ac re rs ck od su mc ix l1 l2 l3 l4 l5 l6 ks h.sl h.al h.sm h.am h.en h.il h.im h.kl h.km,Nat.le_trans (O9 sd au en ac re rs ck od su mc ix l1 l2 l3 l4 l5 l6 ks h) zaj⟩
theorem Rz:wu (Wx b u):=Um _ rfl (JF 1 zaj)
def Lr(q:Rq):Prop:=∃(s:MS) (e:Int) (js:List Int) (cs:List (List UInt8)),wu s/\rpG e js cs []/\Y E0 q=some (.ret (.tup [av s,Hr e js cs []]) [])
def Vk(q:Rq):Prop:=∃(s:MS) (e:Int) (js:List Int) (cs:List (List UInt8)),s.sb=[]/\wu s/\rpG e js cs []/\Y E0 q=some (.ret (.tup [av s,Hr e js cs []]) [])
theorem ww(h:0<e/\e<=255):rpG e [] [] []:=⟨.inr ⟨h,rfl,rfl,rfl⟩,by decide,by decide,by decide,by simp,by simp,by simp⟩
theorem jS:rpG 0 [] [] []:=⟨.inl rfl,by decide,by decide,by decide,by simp,by simp,by simp⟩
theorem JJ{b:List (List UInt8)}{u:Int}{q:Rq}(he:0<e/\e<=255)(h:Y E0 q=some (.ret (.tup [tb b u,Hr e [] [] []]) [])):Lr q:=⟨Wx b u,e,[],[],Rz b u,ww he,h⟩
theorem rP{b:List (List UInt8)}{u:Int}{q:Rq}(he:0<e/\e<=255)(h:Y E0 q=some (.ret (.tup [tb b u,Hr e [] [] []]) [])):Vk q:=⟨Wx b u,e,[],[],rfl,Rz b u,ww he,h⟩
theorem A5e(az:List (El AB))(is:List Int)(bs:List (List UInt8))(hq:rqG c nb hs az is bs)(hc:c≠1)(ha:Y E0 (.call 137 [tb b u,rq c hs az is bs] [])=some (.ret (.b false) [])):Lr (.call 87 [tb b u,.i 0,rq c hs az is bs] []):=by
 have k1:=Nc hq
 refine JJ (b:=b) (u:=u) (e:=7) zaj ?_
 refine tq ?_
 rw[k1]
 refine tq ?_
 rw[ha]
 refine tq ?_
 rw[Eu ..]
 exact tq rfl
theorem PE(bs:List (List UInt8))(hq:rqG c nb [] [] is bs)(hp:Lr (.call 138 [tb b u,.i 0,rq c [] [] is bs] [])):Lr (.call 87 [tb b u,.i 0,rq c [] [] is bs] []):=by
 obtain⟨s,e,js,cs,h1,h2,hp⟩:=hp
 refine⟨s,e,js,cs,h1,h2,?_⟩
 have k1:=Nc hq
 have ha:=LG (Ad zen) [[],[],[],[]] (BG zen BN [] 32) 2 1 0 0 false 0 0 [] 0 5 100 0 0 1000 [] true false [[],b] u 0 true 0 noSs noOb [] [] c [] is bs
 by_cases hc:c=1
 ·subst hc
  refine tq ?_
  rw[k1]
  refine tq ?_
  rw[ha]
  refine tq ?_
  rw[hp]
  exact tq rfl
 ·refine tq ?_
  rw[k1]
  refine tq ?_
  rw[ha]
  refine tq ?_
  rw[hp]
  exact tq rfl
theorem A5f(a:El AB)(bs:List (List UInt8))(hq:rqG c nb hs [a] is bs)(hc:c≠1)(ha:Y E0 (.call 137 [tb b u,rq c hs [a] is bs] [])=some (.ret (.b true) []))(s:MS)(e:Int)(he:0<e/\e<=255)(h0:s.sb=[])(h1:wu s)(hk:Y E0 (.call 139 [tb b u,.i 0,rq c hs [a] is bs] [])=some (.ret (.tup [av s,.i e]) [])):Lr (.call 87 [tb b u,.i 0,rq c hs [a] is bs] []):=by
 have k1:=Nc hq
 refine⟨s,e,[],[],h1,ww he,?_⟩
 clear h1
 obtain⟨sd,au,en,ac,re,rs,ck,od,sb,su,mc,ix,l1,l2,l3,l4,l5,l6,ks,st,sp,rb,ru,vc,sf,dr,ss,ob,rl,wl⟩:=s
 cases h0
 refine tq ?_
 rw[k1]
 refine tq ?_
 rw[ha]
 refine tq ?_
 rw[hk]
 refine tq ?_
 rw[Eu ..]
 exact tq rfl
theorem ACM(nn v:List UInt8)(bs:List (List UInt8))(hq:rqG c nb hs [(0,nn,v)] is bs)(hc:c≠1)(ha:Y E0 (.call 137 [tb b u,rq c hs [(0,nn,v)] is bs] [])=some (.ret (.b true) []))(hk:Y E0 (.call 139 [tb b u,.i 0,rq c hs [(0,nn,v)] is bs] [])=some (.ret (.tup [tb b u,.i 0]) []))(hp:Vk (.call 140 [tb b u,rq c hs [(0,nn,v)] is bs] [])):Lr (.call 87 [tb b u,.i 0,rq c hs [(0,nn,v)] is bs] []):=by
 obtain⟨⟨sd,au,en,ac,re,rs,ck,od,sb,su,mc,ix,l1,l2,l3,l4,l5,l6,ks,st,sp,rb,ru,vc,sf,dr,ss,ob,rl,wl⟩,e,js,cs,h0,h1,h2,hp⟩:=hp
 cases h0
 have k1:=Nc hq
 have hf:=zB sd au en ac re rs ck od su mc ix l1 l2 l3 l4 l5 l6 ks st sp rb ru vc sf dr ss ob rl wl c hs nn v [] is bs
 by_cases he:e=0
 ·subst he
  refine⟨⟨sd,au,en,ac,re,rs,ck,od,[],su,mc,ix,l1,l2,l3,l4,l5,l6,ks,st,sp,rb,ru,vc,sf,dr,ss,ob,rl,wl⟩,0,js,cs,h1,h2,?_⟩
  refine tq ?_
  rw[k1]
  refine tq ?_
  rw[ha]
  refine tq ?_
  rw[hk]
  refine tq ?_
  rw[hp]
  conv=>lhs;whnf
  try dsimp -iota -beta -eta -zeta only
  rw[AL]
  conv=>lhs;whnf
  rw[FH zaa]
  conv=>lhs;whnf
  try dsimp -iota -beta -eta -zeta only
  rw[AX]
  rw[hf]
  exact tq rfl
 ·have he2:0<e/\e<=255:=by rcases h2.er with h|h;exact absurd h he;exact h.1
  refine JJ (b:=b) (u:=u) he2 ?_
  refine tq ?_
  rw[k1]
  refine tq ?_
  rw[ha]
  refine tq ?_
  rw[hk]
  refine tq ?_
  rw[hp]
  conv=>lhs;whnf
  try dsimp -iota -beta -eta -zeta only
  rw[AL]
  conv=>lhs;whnf
  rw[Ih zaa]
  conv=>lhs;whnf
  try dsimp -iota -beta -eta -zeta only
  rw[AX]
  rw[Eu ..]
  exact tq rfl
end
section
variable (b:List (List UInt8))(u:Int)(nn:List UInt8)
theorem A8O:Y E0 (.call 97 [] [])=some (.ret (.agg [.i 0,.i 5,.i 100,.i 0,.i 0,.i 1000]) []):=by
 refine tq ?_
 with_reducible rfl
theorem AAs(h:Int):Y E0 (.call 205 [tb b u,rq 31 [h] [(0,nn,[])] [] []] [])=some (.ret (.tup [(sX (BB (Ad zen) 1 (JA (BG zen BN [] 32) 1 0 0 32)) (BB (BB [[],[],[],[]] 1 []) 3 []) (BG zen BN [] 32) 2 1 0 0 false [] 0 0 [] 0 5 100 0 0 1000 [] true false [[],b] u 0 true (CS 0 1) noSs noOb [] []),Hr 0 [] [] []]) []):=by
 have h1:=qZ (Ad zen) [[],[],[],[]] (BG zen BN [] 32) 2 1 0 0 false [] 0 0 [] 0 5 100 0 0 1000 [] true false [[],b] u 0 true 0 noSs noOb [] [] 32 (by rw[Et zaj];decide)
 have h2:=Oo (Ad zen) 1 (JA (BG zen BN [] 32) 1 0 0 32) (by rw[Ol];decide) (by rw[Ol];decide)
 have h3:=Oo [[],[],[],[]] 1 [] zat zat
 have h4:=Oo (BB [[],[],[],[]] 1 []) 3 [] (by rw[EL,List.length_set];simp) (by rw[EL,List.length_set];simp)
 have e1:BU 3 ((0,[],[],0,0,0,0,false):El sesT)=noSs:=zbw
 have e2:BU 3 (((0,0,0,[],[]),([],[],[]),0):El objT)=noOb:=zbw
 refine tq ?_
 rw[h1]
 refine tp ?_
 rw[h2]
 refine tp ?_
 rw[h3]
 refine tp ?_
 rw[h4]
 refine tp ?_
 rw[A8O]
 conv=>lhs;whnf
 rw[LM zaa]
 conv=>lhs;whnf
 rw[Dz zaa]
 conv=>lhs;whnf
 rw[LM zaa]
 conv=>lhs;whnf
 rw[Dz zaa]
 conv=>lhs;whnf
 rw[Bj zaa]
 rw[AL]
 conv=>lhs;whnf
 try dsimp -iota -beta -eta -zeta only
 (rw[e1,e2])
theorem ACo(h:Int):Vk (.call 140 [tb b u,rq 31 [h] [(0,nn,[])] [] []] []):=by
 have k:=AAs b u nn h
 refine⟨{Wx b u with sd:=BB (Ad zen) 1 (JA (BG zen BN [] 32) 1 0 0 32),au:=BB (BB [[],[],[],[]] 1 []) 3 [],dr:=CS 0 1},0,[],[],rfl,Um _ rfl ?_,jS,?_⟩
 ·have o:=JF 1 zaj
  obtain⟨a1,a2⟩:=bC (i:=1) (x:=JA (BG zen BN [] 32) 1 0 0 32) (p:=fun y:List UInt8=>y.length<=1000) o.sm (by unfold JA;rw[Et zaj];decide)
  obtain⟨c1,c2⟩:=bC (i:=1) (x:=[]) (p:=fun y:List UInt8=>y.length<=1000) o.am zat
  obtain⟨d1,d2⟩:=bC (i:=3) (x:=[]) (p:=fun y:List UInt8=>y.length<=1000) c2 zat
  exact⟨a1.trans o.sl,(d1.trans c1).trans o.al,a2,d2,o.en,o.ac,o.re,o.rs,o.ck,o.su,o.mc,o.il,o.im,o.lk,o.kl,o.km⟩
 ·refine tq ?_
  rw[k]
  exact tq rfl
end
end Go.Proofs.YtlpkjhhfhannpaaGreatDoor
