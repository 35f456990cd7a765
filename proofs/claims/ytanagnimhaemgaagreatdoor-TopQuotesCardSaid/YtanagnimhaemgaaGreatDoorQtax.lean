/-
  Own texts, laid together for this claim: contracts of functions of the program and its references, used by the statements of this seat.
-/
import Derived.Test.YtanagnimhaemgaaGreatDoorQtac
import Derived.Test.YtanagnimhaemgaaGreatDoorQtaf
import Derived.Test.YtanagnimhaemgaaGreatDoorQtag
import Derived.Test.YtanagnimhaemgaaGreatDoorQtaj
import Derived.Test.YtanagnimhaemgaaGreatDoorQtak
import Derived.Test.YtanagnimhaemgaaGreatDoorQtan
import Derived.Test.YtanagnimhaemgaaGreatDoorQtaq
import Derived.Test.YtanagnimhaemgaaGreatDoorQtaw
set_option linter.all false
set_option maxHeartbeats 40000000
set_option maxRecDepth 100000
namespace Go.Proofs.YtanagnimhaemgaaGreatDoor
open Go Go.Ax Go.Eng
section
attribute [local irreducible] Bl CQ CS Bo Bg Ar CU Dw EN Dy EC Bf BU Bv Bz and' C9 CB BK Au BA BL BN Aa Ad AP AZ CV Dq CW DI CE BP BM BF BG BB AU BC Ae Ap Ai CX BH Bh Ba BO CG CY CJ fits CZ CO A8 AA Ac
attribute [local irreducible] Aw Di DC nameB EL EJ Ag Ei Eo FU FD Fb BQ Iu ES G6
theorem A3T(x:Int)(h0:0<=x)(h1:x<=1000):Bl x 1=x+1:=Bc zaa
theorem wo(un:List UInt8)(us:Int)(p1 p2 p3:Int)(p4 p5 s1 s2 s3:List UInt8)(hr:Int):Y E0 (.call 341 [.agg [.sl .u8 un,.i us],.pa 0 0] [.var [.i p1,.i p2,.i p3,.sl .u8 p4,.sl .u8 p5,.sl .u8 s1,.sl .u8 s2,.sl .u8 s3,.i hr]])=some (.ret (.b (decide (un=p5))) [some (.var [.i p1,.i p2,.i p3,.sl .u8 p4,.sl .u8 p5,.sl .u8 s1,.sl .u8 s2,.sl .u8 s3,.i hr])]):=by
 refine tq ?_
 (rw[A84])
theorem Vk(ks:List (El BR))(p1 p2 p3:Int)(p4 p5 s1 s2 s3:List UInt8)(hr:Int)(hl:ks.length<=1000):∀(n j:Nat),j+n=ks.length->keyAt p5 ks=j+keyAt p5 (ks.drop j)->Y E0 (.loop 340 0 2 2 [(0,.nm 0),(1,.fn 341 [] [.pa 1 0]),(7,.i (Ap ks)),(8,.i (j:Int))] [(0,some (.row 187 BR ks)),(1,some (.var [.i p1,.i p2,.i p3,.sl .u8 p4,.sl .u8 p5,.sl .u8 s1,.sl .u8 s2,.sl .u8 s3,.i hr]))]) =
  if keyAt p5 ks<ks.length then some (.fin .ret 2 [(4,.i (keyAt p5 ks:Int))] [(0,some (.row 187 BR ks)),(1,some (.var [.i p1,.i p2,.i p3,.sl .u8 p4,.sl .u8 p5,.sl .u8 s1,.sl .u8 s2,.sl .u8 s3,.i hr]))]) else some (.fin (.exit 0) 2 [] [(0,some (.row 187 BR ks)),(1,some (.var [.i p1,.i p2,.i p3,.sl .u8 p4,.sl .u8 p5,.sl .u8 s1,.sl .u8 s2,.sl .u8 s3,.i hr]))])
 | 0,j,hj,hf=>by
  rw[if_neg (by rw[List.drop_eq_nil_of_le zaa,keyAt] at hf;omega)]
  exact tq rfl
 | n+1,j,hj,hf=>by
  have hd:=List.drop_eq_getElem_cons (l:=ks) (i:=j) zaa
  rw[hd] at hf
  have hg:Ai ks (j:Int)=some (ks[j]'zaa):=IC zaa
  generalize ks[j]'zaa=x at *
  obtain⟨un,us⟩:=x
  by_cases hk:un=p5
  ·subst hk;rw[keyAt,if_pos rfl] at hf;rw[if_pos zaa,show keyAt un ks=j from hf]
   refine to ?_;rw[hg];refine tq ?_;rw[wo ..];exact tq rfl
  ·have ih:=Vk ks p1 p2 p3 p4 p5 s1 s2 s3 hr hl n (j+1) zaa (by rw[hf,keyAt,if_neg hk];omega)
   rw[show((j+1:Nat):Int)=(j:Int)+1 from by omega] at ih
   have hkd:decide (un=p5)=false:=decide_eq_false hk
   refine to ?_;rw[hg];refine tq ?_;rw[wo ..]
   conv=>lhs;whnf
   rw[hkd];refine tq ?_;exact ih
theorem A3U(ks:List (El BR))(p1 p2 p3:Int)(p4 p5 s1 s2 s3:List UInt8)(hr:Int)(hl:ks.length<=1000):Y E0 (.call 340 [.nm 0,.fn 341 [] [.pa 1 0]] [.row 187 BR ks,.var [.i p1,.i p2,.i p3,.sl .u8 p4,.sl .u8 p5,.sl .u8 s1,.sl .u8 s2,.sl .u8 s3,.i hr]])=some (.ret (.i (if keyAt p5 ks<ks.length then(keyAt p5 ks:Int) else -1)) [some (.row 187 BR ks),some (.var [.i p1,.i p2,.i p3,.sl .u8 p4,.sl .u8 p5,.sl .u8 s1,.sl .u8 s2,.sl .u8 s3,.i hr])]):=by
 have hq:=Vk ks p1 p2 p3 p4 p5 s1 s2 s3 hr hl ks.length 0 zaa zak
 rw[show((0:Nat):Int)=0 from rfl] at hq
 by_cases hc:keyAt p5 ks<ks.length
 ·rw[if_pos hc] at hq ⊢;refine tq ?_;rw[show ∀(x:Rs),Nat.add 0 [x].length+1=2 from fun _=>rfl,hq];exact tq rfl
 ·rw[if_neg hc] at hq ⊢;refine tq ?_;rw[show ∀(x:Rs),Nat.add 0 [x].length+1=2 from fun _=>rfl,hq];exact tq rfl
variable (sd au:List (List UInt8))(en:List UInt8)(ac re rs ck:Int)(od:Bool)(sb:List (List (List UInt8)))(su mc:Int)(ix:List (El AL))(l1 l2 l3 l4 l5 l6:Int)(ks:List (El BR))(st sp:Bool)(rb:List (List (List UInt8)))(ru vc:Int)(sf:Bool)(dr:Int)(ss:List (El sesT))(ob:List (El objT))(rl wl:List Int)
theorem A6D(p1 p2 p3:Int)(p4 p5 s1 s2 s3:List UInt8)(hr:Int)(hl:ks.length<=100)(hh:0<=p3/\p3<=3)(hu:∀ x∈ks,0<=x.2/\x.2<=1000):Y E0 (.call 304 [(sX sd au en ac re rs ck od sb su mc ix l1 l2 l3 l4 l5 l6 ks st sp rb ru vc sf dr ss ob rl wl),.agg [.i p1,.i p2,.i p3,.sl .u8 p4,.sl .u8 p5,.sl .u8 s1,.sl .u8 s2,.sl .u8 s3,.i hr]] [])=some (.ret (.tup [(sX sd au en ac re rs ck od sb su mc ix l1 l2 l3 l4 l5 l6 ((FN ks p5 p3).1) st sp rb ru vc sf dr ss ob rl wl),.i (FN ks p5 p3).2.1,.i (FN ks p5 p3).2.2]) []):=by
 unfold FN
 have hp:Bf 1 (BP (min (max p3 0) 3)).toNat=(2:Int)^p3.toNat:=by
  rw[show min (max p3 0) 3=p3 from by omega];exact ZT zaa
 have hpw:1<=(2:Int)^p3.toNat:=by
  have:1<=2^p3.toNat:=Nat.one_le_two_pow
  exact_mod_cast this
 by_cases hc:keyAt p5 ks<ks.length
 ·rw[if_pos hc]
  have hi:=A3U ks p1 p2 p3 p4 p5 s1 s2 s3 hr zaa
  rw[if_pos hc] at hi
  have hg:Ai ks (keyAt p5 ks:Int)=some (ks.getD (keyAt p5 ks) ([],0)):=by rw[IC hc];simp[List.getD,List.getElem?_eq_getElem hc]
  have hm:=hu (ks.getD (keyAt p5 ks) ([],0)) (by simp only[List.getD,List.getElem?_eq_getElem hc,Option.getD_some];exact List.getElem_mem _)
  have hs:∀ x,BH ks (keyAt p5 ks:Int) x=ks.set (keyAt p5 ks) x:=fun x=>by rw[Ea];simp
  generalize ks.getD (keyAt p5 ks) ([],0)=x at *
  obtain⟨un,us⟩:=x
  generalize keyAt p5 ks=K at *
  dsimp only at hm ⊢
  generalize (2:Int)^p3.toNat=W at *
  by_cases hw:W<=us
  ·rw[if_pos hw];refine tq ?_;rw[dh _ Aq];refine tq ?_;rw[hi];refine to ?_;rw[hg]
   conv=>lhs;whnf
   try dsimp -iota -beta -eta -zeta only
   rw[hp];exact tq rfl
  ·rw[if_neg hw]
   have hs1:=A3T us hm.1 hm.2
   refine tq ?_;rw[dh _ Aq];refine tq ?_;rw[hi];refine to ?_;rw[hg]
   conv=>lhs;whnf
   try dsimp -iota -beta -eta -zeta only
   rw[hp];refine to ?_;rw[hg];refine to ?_;rw[hg];refine tq ?_;rw[hs]
   (rw[hs1])
 ·rw[if_neg hc]
  have hi:=A3U ks p1 p2 p3 p4 p5 s1 s2 s3 hr zaa
  rw[if_neg hc] at hi
  by_cases h8:8<=ks.length
  ·rw[if_pos h8];refine tq ?_;rw[dh _ Aq];refine tq ?_;rw[hi];exact tq rfl
  ·rw[if_neg h8]
   have hg:Ai (BO ks [(p5,0)]) (Ap ks)=some (p5,0):=by rw[Am,AC,IC zak];simp
   have hs:BH (BO ks [(p5,0)]) (Ap ks) (p5,0+1)=ks++[(p5,1)]:=by rw[Ea,Am,AC];simp
   generalize (2:Int)^p3.toNat=W at *
   refine tq ?_;rw[dh _ Aq];refine tq ?_;rw[hi];refine tq ?_;rw[hg]
   conv=>lhs;whnf
   try dsimp -iota -beta -eta -zeta only
   rw[hp];refine tq ?_;rw[hg];refine tp ?_;rw[hg];refine tq ?_;rw[hs]
theorem zX(p1 p2 p3:Int)(p4 p5 s1 s2 s3:List UInt8)(hr:Int)(m:List UInt8)(hkl:ks.length<=100)(hh:0<=p3/\p3<=3)(hu:∀ x∈ks,0<=x.2/\x.2<=1000)(h2:s2.length<=1000)(hm:m.length<=100000)(he:(FN ks p5 p3).2.2=0):Y E0 (.call 255 [(sX sd au en ac re rs ck od sb su mc ix l1 l2 l3 l4 l5 l6 ks st sp rb ru vc sf dr ss ob rl wl),.agg [.i p1,.i p2,.i p3,.sl .u8 p4,.sl .u8 p5,.sl .u8 s1,.sl .u8 s2,.sl .u8 s3,.i hr],.sl .u8 m] [])=some (.ret (.tup [(sX sd au en ac re rs ck od sb su mc ix l1 l2 l3 l4 l5 l6 ((FN ks p5 p3).1) st sp rb ru vc sf dr ss ob rl wl),.sl .u8 (ES s2 p3 (FN ks p5 p3).2.1 m),.i 0]) []):=by
 have e:=A6D sd au en ac re rs ck od sb su mc ix l1 l2 l3 l4 l5 l6 ks st sp rb ru vc sf dr ss ob rl wl p1 p2 p3 p4 p5 s1 s2 s3 hr hkl hh hu
 generalize FN ks p5 p3=U at *
 obtain⟨u1,u2,u3⟩:=U
 dsimp only at *
 subst he;refine tq ?_;rw[e];refine tq ?_;rw[A3I _ _ _ _ Aq Aq];exact tq rfl
theorem Yl(c h:Int)(hs:List Int)(az:List (El AQ))(is:List Int)(m:List UInt8)(bs:List (List UInt8))(p1 p2 p3:Int)(p4 p5 s1 s2 s3:List UInt8)(hr:Int)(r:Bool)(hl:ob.length<=1000)(hhs:hs.length<=100)(hbs:bs.length<=100)(hx:En ob h=some ((p1,p2,p3,p4,p5),(s1,s2,s3),hr))(h1:p1=2)(ha:r = !decide (Ar .and p2 4=0))(hm:m.length<=128):
  Y E0 (.call 254 [(sX sd au en ac re rs ck od sb su mc ix l1 l2 l3 l4 l5 l6 ks st sp rb ru vc sf dr ss ob rl wl),.agg [.i c,.sl .i64 (h::hs),.sl AQ az,.sl .i64 is,.sl (.sl .u8) (m::bs)],.b r] [])=some (.ret (.tup [.agg [.i p1,.i p2,.i p3,.sl .u8 p4,.sl .u8 p5,.sl .u8 s1,.sl .u8 s2,.sl .u8 s3,.i hr],.i 0]) []):=by
 subst ha
 by_cases hq:Ar .and p2 4=0
 ·rw[hq,decide_eq_true rfl];refine tq ?_;rw[KD (hl:=Aq) ..];refine tq ?_;rw[JR _ _ _ _ _ _ _ _ _ _ _ _ _ _ _ _ _ _ _ _ _ _ _ _ _ _ _ _ _ _ _ _ _ _ _ _ _ _ _ _ hl hx]
  conv=>lhs;whnf
  try dsimp -iota -beta -eta -zeta only
  rw[drw zaj];conv=>lhs;whnf
  rw[DY zaa]
  conv=>lhs;whnf
  rw[DY zaa]
  conv=>lhs;whnf
  rw[hq];rw[show Bv (EN 0 0) (!true)=true from by rw[DY (by rfl),iM];rfl]
  conv=>lhs;whnf
  rw[DF];conv=>lhs;whnf
  try dsimp -iota -beta -eta -zeta only
  rw[Ak];rw[QU (hl:=Aq) ..];exact tq rfl
 ·rw[decide_eq_false hq];refine tq ?_;rw[KD (hl:=Aq) ..];refine tq ?_;rw[JR _ _ _ _ _ _ _ _ _ _ _ _ _ _ _ _ _ _ _ _ _ _ _ _ _ _ _ _ _ _ _ _ _ _ _ _ _ _ _ _ hl hx]
  conv=>lhs;whnf
  try dsimp -iota -beta -eta -zeta only
  rw[drw zaj];conv=>lhs;whnf
  rw[DY zaa]
  conv=>lhs;whnf
  rw[DY zaa]
  conv=>lhs;whnf
  rw[show Bv (EN (Ar .and p2 4) 0) (!false)=true from by rw[IY hq,iM];rfl]
  conv=>lhs;whnf
  rw[DF];conv=>lhs;whnf
  try dsimp -iota -beta -eta -zeta only
  rw[Ak];rw[QU (hl:=Aq) ..];exact tq rfl
end
section
attribute [local irreducible] Bl CQ CS Bo Bg Ar CU Dw EN Dy EC Bf BU Bv Bz and' C9 CB BK Au BA BL BN Aa Ad AP AZ CV Dq CW DI CE BP BM BF BG BB AU BC Ae Ap Ai CX BH Bh Ba BO CG CY CJ fits CZ CO A8 AA Ac
attribute [local irreducible] Aw Di DC nameB EL EJ Ag Ei Eo FU FD Fb BQ Iu
variable (sd au:List (List UInt8))(en:List UInt8)(ac re rs ck:Int)(od:Bool)(sb:List (List (List UInt8)))(su mc:Int)(ix:List (El AL))(l1 l2 l3 l4 l5 l6:Int)(ks:List (El BR))(st sp:Bool)(rb:List (List (List UInt8)))(ru vc:Int)(sf:Bool)(dr:Int)(ss:List (El sesT))(ob:List (El objT))(rl wl:List Int)
theorem A3V(n:Int)(hen:en.length<=100000):Y E0 (.call 207 [(sX sd au en ac re rs ck od sb su mc ix l1 l2 l3 l4 l5 l6 ks st sp rb ru vc sf dr ss ob rl wl),.i n] [])=some (.ret (.tup [(sX sd au en ac re rs ck od sb su mc ix l1 l2 l3 l4 l5 l6 ks st sp rb ru vc sf (Bl dr 1) ss ob rl wl),.sl .u8 (N7 en re rs dr n)]) []):=by
 refine tq ?_;rw[D5 _ _ _ Aq];refine tq ?_;rw[D5 _ _ _ Aq];refine tq ?_;rw[D5 _ _ _ Aq];refine tq ?_;rw[show strOf {data := #[114,97,110,100,111,109]}=A7W from rfl,Fh _ _ _ _ zaa zad (by simp only[BD,List.length_nil];omega)]
 refine tq ?_
 rfl
end
section
attribute [local irreducible] Bl CQ CS Bo Bg Ar CU Dw EN Dy EC Bf BU Bv Bz and' C9 CB BK Au BA BL BN Aa Ad AP AZ CV Dq CW DI CE BP BM BF BG BB AU BC Ae Ap Ai CX BH Bh Ba BO CG CY CJ fits CZ CO A8 AA Ac
attribute [local irreducible] Aw Di DC nameB EL EJ Ag Ei Eo FU FD Fb BQ Iu ES G6 Ef
theorem lC:Ar .or 0 (Bf 1 (BP (0+1)).toNat)=2/\Ar .and (BU 2 (BP 1).toNat) 1=1:=by
 have e:(BP 1).toNat=1:=by rw[Ip];rfl
 rw[show(0:Int)+1=1 from rfl,e,NF,X4,UO]
 decide
theorem A6E(u:Int):Y E0 (.call 155 [.agg [.sl (.sl (.sl .u8)) [[],Ec 32],.i u]] [])=some (.ret (.i 2) []):=by
 have hl:(Ec 32).length=16:=Dv 32 16
 have hg1:Ai [[],Ec 32] (0+1)=some (Ec 32):=YF _ _ _
 have hq:Y E0 (.loop 155 0 0 1 [(1,.pa 0 0),(3,.i 0),(7,.i (Ap [[],Ec 32])),(8,.i 0)] [(0,some (.var [.sl (.sl (.sl .u8)) [[],Ec 32],.i u]))])=some (.fin (.exit 0) 0 [(3,.i 2)] []):=by
  refine tq ?_;refine tq ?_;rw[hg1]
  conv=>lhs;whnf
  rw[Ff (by rw[AC,hl];rfl)]
  refine tq ?_;refine tq ?_
  (rw[lC.1])
 refine tq ?_;rw[hq];exact tq rfl
theorem A8l(u:Int):Y E0 (.call 283 [.agg [.sl (.sl (.sl .u8)) [[],Ec 32],.i u],.i 1] [])=some (.ret (.b true) []):=by
 refine tq ?_;rw[A6E _];refine tq ?_;rw[lC.2]
 (rw[Ff (by rfl)])
theorem A3X (u : Int) : Y E0 (.loop 256 0 0 3 [(2, .pa 0 0), (3, .pa 1 0), (6, .nil), (7, .nm 2), (13, AV.agg [AV.i 0, AV.i 1]), (14, AV.i 0)] [(0, some (Rs.var [AV.sl Ty.u8.sl.sl [[], Ec 32], AV.i u])), (1, some (Rs.var [AV.i 0, AV.i 1])), (2, some (Rs.row 5 Ty.u8 []))]) = some (.fin (.exit 0) 3 [(2, AV.pa 0 0), (3, AV.pa 1 0), (6, AV.sl Ty.u8 (BQ (BQ [] 2 0) 2 1)), (7, AV.nm 2)]
        [(0, some (Rs.var [AV.sl Ty.u8.sl.sl [[], Ec 32], AV.i u])), (1, some (Rs.var [AV.i 0, AV.i 1])), (2, some (Rs.row 5 Ty.u8 []))]) := by
  refine tq ?_; rw [D5 _ _ _ Aq]; refine tq ?_; refine tq ?_; rw [D5 _ _ _ Aq]; refine tq ?_; exact tq rfl
theorem rM:(∀ i<16,Ar .and (BU 0 (BP ((i:Nat):Int)).toNat) 1=0)/\(∀ i<16,1<=i->Ar .and (BU 1 (BP ((i:Nat):Int)).toNat) 1=0)/\Ar .and (BU 1 (BP 0).toNat) 1=1:=by
 rw[NF,UO,F6]
 refine⟨?_,?_,?_⟩<;>decide +kernel
theorem rO(u a s:Int)(hd vs:List UInt8)(j0:Nat)(hz:∀ i<16,j0<=i->Ar .and (BU s (BP ((i:Nat):Int)).toNat) 1=0):∀(k j:Nat),j0<=j->j+k=16->Y E0 (.loop 256 2 0 2 [(2,.pa 0 0),(6,.sl .u8 hd),(7,.nm 1),(10,.i a),(11,.i s),(27,.agg [.i 0,.i 1]),(28,.i a),(40,.i (j:Int))] [(0,some (.var [.sl (.sl (.sl .u8)) [[],Ec 32],.i u])),(1,some (.row 5 .u8 vs))])=some (.fin (.exit 4) 2 [(2,.pa 0 0),(6,.sl .u8 hd),(7,.nm 1),(27,.agg [.i 0,.i 1]),(28,.i a)] [(0,some (.var [.sl (.sl (.sl .u8)) [[],Ec 32],.i u])),(1,some (.row 5 .u8 vs))])
 | 0,j,hj,hk=>by
  exact tq rfl
 | k+1,j,hj,hk=>by
  have ih:=rO u a s hd vs j0 hz k (j+1) zaa zaa
  rw[show((j+1:Nat):Int)=(j:Int)+1 from by omega] at ih
  have hb:=hz j zaa hj
  rw[AO];conv=>lhs;whnf
  rw[Dp zaa]
  conv=>lhs;whnf
  rw[hb];refine tq ?_;exact ih
theorem A6F(u:Int)(hd:List UInt8):Y E0 (.loop 256 2 0 2 [(2,.pa 0 0),(6,.sl .u8 hd),(7,.nm 1),(10,.i 1),(11,.i 1),(27,.agg [.i 0,.i 1]),(28,.i 1),(40,.i 0)] [(0,some (.var [.sl (.sl (.sl .u8)) [[],Ec 32],.i u])),(1,some (.row 5 .u8 []))])=some (.fin (.exit 4) 2 [(2,.pa 0 0),(6,.sl .u8 hd),(7,.nm 1),(27,.agg [.i 0,.i 1]),(28,.i 1)] [(0,some (.var [.sl (.sl (.sl .u8)) [[],Ec 32],.i u])),(1,some (.row 5 .u8 (List.replicate 32 0)))]):=by
 have hb:=rM.2.2
 have hl:(Ec 32).length=16:=Dv 32 16
 have hg:Ai (Ec 32) 0=some (List.replicate 32 0):=by rw[Lj];rfl
 have ha:BO [] (List.replicate 32 (0:UInt8))=List.replicate 32 0:=by rw[Am];rfl
 have hi:=rO u 1 1 hd (List.replicate 32 0) 1 (fun i h1 h2=>rM.2.1 i h1 h2) 15 1 zaa zaa
 rw[show((1:Nat):Int)=0+1 from rfl] at hi
 rw[AO];conv=>lhs;whnf
 rw[Dp zaa]
 conv=>lhs;whnf
 rw[hb];refine tq ?_;rw[hg];refine tq ?_;rw[ha];exact hi
theorem A3Y(u:Int)(hd:List UInt8):Y E0 (.loop 256 1 0 2 [(2,.pa 0 0),(6,.sl .u8 hd),(7,.nm 1),(27,AV.agg [AV.i 0,AV.i 1]),(28,AV.i 0)] [(0,some (Rs.var [AV.sl Ty.u8.sl.sl [[],Ec 32],AV.i u])),(1,some (Rs.row 5 Ty.u8 []))])=some (.fin (.exit 2) 0 [(6,.sl .u8 hd),(7,.sl .u8 (List.replicate 32 0))] []):=by
 have h0:=rO u 0 0 hd [] 0 (fun i h1 _=>rM.1 i h1) 16 0 zaa zaa
 rw[show((0:Nat):Int)=0 from rfl] at h0
 have h1:=A6F u hd
 refine tq ?_;rw[h0];refine tq ?_;refine tq ?_;rw[show(0:Int)+1=1 from rfl,A8l];refine tq ?_;rw[h1];refine tq ?_;exact tq rfl
def Nz:List UInt8:=sha256 (Ag 5 [BQ (BQ [] 2 0) 2 1,List.replicate 32 0])
theorem wu(u:Int):Y E0 (.call 256 [.agg [.sl (.sl (.sl .u8)) [[],Ec 32],.i u],.agg [.i 0,.i 1]] [])=some (.ret (.tup [.sl .u8 Nz,.i 0]) []):=by
 have hf:(Ag 5 [BQ (BQ [] 2 0) 2 1,List.replicate 32 0]).length<=4294967295:=by rw[BV,AB,AB];simp
 refine tq ?_;rw[A3X];refine tq ?_;rw[A3Y];refine tq ?_;rw[Eu _ _ hf zak];refine tq ?_
 rfl
end
end Go.Proofs.YtanagnimhaemgaaGreatDoor
