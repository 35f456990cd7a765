/-
  Own texts, laid together for this claim: contracts of functions of the program and its references, used by the statements of this seat.
-/
import Derived.Test.YtnhgnfdbdflhcaaGreatDoorMtab
import Derived.Test.YtnhgnfdbdflhcaaGreatDoorMtad
import Derived.Test.YtnhgnfdbdflhcaaGreatDoorMtae
import Derived.Test.YtnhgnfdbdflhcaaGreatDoorMtaf
import Derived.Test.YtnhgnfdbdflhcaaGreatDoorMtag
import Derived.Test.YtnhgnfdbdflhcaaGreatDoorMtai
import Derived.Test.YtnhgnfdbdflhcaaGreatDoorMtaj
import Derived.Test.YtnhgnfdbdflhcaaGreatDoorMtan
import Derived.Test.YtnhgnfdbdflhcaaGreatDoorMtao
import Derived.Test.YtnhgnfdbdflhcaaGreatDoorMtap
import Derived.Test.YtnhgnfdbdflhcaaGreatDoorMtas
import Derived.Test.YtnhgnfdbdflhcaaGreatDoorMtat
import Derived.Test.YtnhgnfdbdflhcaaGreatDoorMtau
import Derived.Test.YtnhgnfdbdflhcaaGreatDoorMtax
set_option linter.all false
set_option maxHeartbeats 40000000
set_option maxRecDepth 100000
namespace Go.Ax
open Go.Eng
theorem eG{ks:List (El J8)}{u:List UInt8}{h:Int}(he:(EE ks u h).2.2≠0):(EE ks u h).1=ks:=by
 unfold EE at he ⊢
 split
 ·rename_i hk
  rw[if_pos hk] at he
  split
  ·rfl
  ·rename_i h2;rw[if_neg h2] at he;exact absurd rfl he
 ·rename_i hk
  rw[if_neg hk] at he
  split
  ·rfl
  ·rename_i h2;rw[if_neg h2] at he;exact absurd rfl he
theorem A0f(par:Sen)(p:Pub)(b:List UInt8):(ES par p b).1.auth.length<=32/\(ES par p b).1.seed.length<=32/\(ES par p b).1.data.length<=128:=by
 unfold ES
 split
 ·simp[U6]
 ·unfold yf
  dsimp only
  split
  ·simp[U6]
  ·split
   ·simp[U6]
   ·refine⟨?_,?_,?_⟩
    ·have:=Gn (b:=(JF (wkey par (nameB p)) (EL p) b).1) (at':=0) (e:=0) (most:=32) zal;simp only;omega
    ·simp only
     generalize Ie (JF (wkey par (nameB p)) (EL p) b).1 0 0 32=A
     have:=Gn (b:=(JF (wkey par (nameB p)) (EL p) b).1) (at':=A.2.1) (e:=A.2.2) (most:=32) zal;omega
    ·simp only
     generalize Ie (JF (wkey par (nameB p)) (EL p) b).1 0 0 32=A
     generalize Ie (JF (wkey par (nameB p)) (EL p) b).1 A.2.1 A.2.2 32=B
     have:=Gn (b:=(JF (wkey par (nameB p)) (EL p) b).1) (at':=B.2.1) (e:=B.2.2) (most:=128) zal;omega
end Go.Ax
namespace Go.Proofs.YtnhgnfdbdflhcaaGreatDoor
open Go Go.Ax Go.Eng
section
attribute [local irreducible] Cc Dn D7 DU DD BA Dp F7 FY FD Ez Ci CS DK DV and' DW DL C9 BR Bh CB CG BG BI Aw BC Dq Fh Dt ER DX Bl CE Bv Bz Bi Az Bg BK Bj BO Du Bc DF BZ BM Cj Di fits Dv Dk Ac Am BH
attribute [local irreducible] Dw CJ Be nameB EL Eh Ar ET E8
variable (sd au:List (List UInt8))(en:List UInt8)(ac re rs ck:Int)(od:Bool)(sb:List (List (List UInt8)))(su mc:Int)(ix:List (El Gp))(l1 l2 l3 l4 l5 l6:Int)(ks:List (El J8))(st sp:Bool)(rb:List (List (List UInt8)))(ru vc:Int)(sf:Bool)(dr:Int)(ss:List (El sesT))(ob:List (El objT))(rl wl:List Int)
theorem EQ(e:Int):Y E0 (.call 53 [(sX sd au en ac re rs ck od sb su mc ix l1 l2 l3 l4 l5 l6 ks st sp rb ru vc sf dr ss ob rl wl),.i e] [])=some (.ret (.tup [(sX sd au en ac re rs ck od sb su mc ix l1 l2 l3 l4 l5 l6 ks st sp rb ru vc sf dr ss ob rl wl),.agg [.i e,.sl .i64 [],.sl (.sl .u8) [],.sl (.sl .u8) []]]) []):=by
 exact tq rfl
theorem Og(c k a t:Int)(hs:List Int)(az:List (El AY))(o:List UInt8)(bs:List (List UInt8))(hl:bs.length<=1000):Y E0 (.call 121 [.agg [.i c,.sl .i64 hs,.sl AY az,.sl .i64 [k,a,t],.sl (.sl .u8) (o::bs)]] [])=some (.ret (.agg [.i k,.i a,.i t,.sl .u8 o,.sl .u8 []]) []):=by
 exact tq rfl
theorem aJ(c h k a t:Int)(hs:List Int)(az:List (El AY))(o u d:List UInt8)(hl:ob.length<=1000)(hsd:sd.length<=1000)(hsl:∀ l∈sd,l.length<=1000)(hhs:hs.length<=100)(ho:o.length<=50000)(hd:d.length<=50000)(hc:0<=h/\h<sd.length):
  Y E0 (.call 60 [(sX sd au en ac re rs ck od sb su mc ix l1 l2 l3 l4 l5 l6 ks st sp rb ru vc sf dr ss ob rl wl),.agg [.i c,.sl .i64 (h::hs),.sl AY az,.sl .i64 [k,a,t],.sl (.sl .u8) [o,u,d]]] [])=some (.ret (.tup [(sX sd au en ac re rs ck od sb su mc ix l1 l2 l3 l4 l5 l6 ks st sp rb ru vc sf dr ss ((E8 sd ob h k a t o u d).1) rl wl),.agg (iZ (E8 sd ob h k a t o u d).2)]) []):=by
 unfold E8
 rw[if_pos hc]
 have hg:BO sd h=some (sd.getD h.toNat []):=by rw[DZ zaa];simp[List.getD,List.getElem?_eq_getElem (show h.toNat<sd.length by omega)]
 have hm:(sd.getD h.toNat []).length<=1000:=by
  have:=hsl (sd[h.toNat]'zaa) (List.getElem_mem _)
  simpa [List.getD,List.getElem?_eq_getElem (show h.toNat<sd.length by omega)] using this
 unfold ET
 generalize sd.getD h.toNat []=seed at *
 have hlen:=KJ (secret:=Dw seed NJ (Ar 0 [[ER k,ER a,ER t],o,d]) 32) (auth:=u) (data:=d) (p:=⟨k,a,t,o,[]⟩)
 have hdl:=Ff (key:=seed) (label:=NJ) (ctx:=Ar 0 [[ER k,ER a,ER t],o,d]) (n:=32) zaa
 have em:=U7 (Dw seed NJ (Ar 0 [[ER k,ER a,ER t],o,d]) 32) k a t o [] u d zaa
 generalize Be (Dw seed NJ (Ar 0 [[ER k,ER a,ER t],o,d]) 32) ⟨k,a,t,o,[]⟩ u d=M at *
 obtain⟨⟨qk,qa,qt,qo,qu⟩,⟨qx,qy,qz⟩,e⟩:=M
 dsimp only[PI,Xu] at *
 by_cases he:e=0
 ·subst he;rw[if_neg zam]
  unfold GX
  have hfl:=Wx ob
  by_cases hf:EW ob<ob.length
  ·rw[if_pos hf];refine tq ?_;rw[Og (hl:=A7) ..];refine tq ?_;rw[Ha _ _ A7 A7];refine tq ?_;rw[hg];refine tq ?_;rw[show strOf {data := #[112,114,105,109,97,114,121]}=NJ from rfl,Es _ _ _ _ zaa zal zbz]
   refine tq ?_;rw[em];refine tq ?_;rw[VX _ _ _ _ _ _ _ _ _ _ _ _ _ _ _ _ _ _ _ _ _ _ _ _ _ _ _ _ _ _ hl,if_pos hf];refine tq ?_;rw[YO (hl:=A7) (hk:=A7) ..];refine tp ?_;rw[IY _ _ _ _ _ A7 A7];refine tp ?_;rw[GR _ _ _ _ _ A7 A7];refine tq ?_
   rfl
  ·rw[if_neg hf];refine tq ?_;rw[Og (hl:=A7) ..];refine tq ?_;rw[Ha _ _ A7 A7];refine tq ?_;rw[hg];refine tq ?_;rw[show strOf {data := #[112,114,105,109,97,114,121]}=NJ from rfl,Es _ _ _ _ zaa zal zbz]
   refine tq ?_;rw[em];refine tq ?_;rw[VX _ _ _ _ _ _ _ _ _ _ _ _ _ _ _ _ _ _ _ _ _ _ _ _ _ _ _ _ _ _ hl,if_neg hf];refine tq ?_;rw[EQ ..];exact tq rfl
 ·rw[if_pos he];refine tq ?_;rw[Og (hl:=A7) ..];refine tq ?_;rw[Ha _ _ A7 A7];refine tq ?_;rw[hg];refine tq ?_;rw[show strOf {data := #[112,114,105,109,97,114,121]}=NJ from rfl,Es _ _ _ _ zaa zal zbz]
  refine tq ?_;rw[em];refine tq ?_;rw[EQ ..];exact tq rfl
theorem VZ(c h:Int)(hs:List Int)(az:List (El AY))(is:List Int)(bs:List (List UInt8))(p1 p2 p3:Int)(p4 p5 s1 s2 s3:List UInt8)(hr:Int)(hl:ob.length<=1000)(hhs:hs.length<=100)(hx:Dl ob h=some ((p1,p2,p3,p4,p5),(s1,s2,s3),hr))(h3:p1=3):
  Y E0 (.call 24 [(sX sd au en ac re rs ck od sb su mc ix l1 l2 l3 l4 l5 l6 ks st sp rb ru vc sf dr ss ob rl wl),.agg [.i c,.sl .i64 (h::hs),.sl AY az,.sl .i64 is,.sl (.sl .u8) bs]] [])=some (.ret (.tup [(sX sd au en ac re rs ck od sb su mc ix l1 l2 l3 l4 l5 l6 ks st sp rb ru vc sf dr ss ob rl wl),.agg [.i 0,.sl .i64 [],.sl (.sl .u8) [s3],.sl (.sl .u8) []]]) []):=by
 refine tq ?_;rw[G6 (hl:=A7) ..];refine tq ?_;rw[H8 _ _ _ _ _ _ _ _ _ _ _ _ _ _ _ _ _ _ _ _ _ _ _ _ _ _ _ _ _ _ _ _ _ _ _ _ _ _ _ _ hl hx];exact tq rfl
theorem jU(c h:Int)(hs:List Int)(az:List (El AY))(is:List Int)(bs:List (List UInt8))(p1 p2 p3:Int)(p4 p5 s1 s2 s3:List UInt8)(hr:Int)(hl:ob.length<=1000)(hhs:hs.length<=100)(hx:Dl ob h=some ((p1,p2,p3,p4,p5),(s1,s2,s3),hr))(h3:p1≠3):
  Y E0 (.call 24 [(sX sd au en ac re rs ck od sb su mc ix l1 l2 l3 l4 l5 l6 ks st sp rb ru vc sf dr ss ob rl wl),.agg [.i c,.sl .i64 (h::hs),.sl AY az,.sl .i64 is,.sl (.sl .u8) bs]] [])=some (.ret (.tup [(sX sd au en ac re rs ck od sb su mc ix l1 l2 l3 l4 l5 l6 ks st sp rb ru vc sf dr ss ob rl wl),.agg [.i 19,.sl .i64 [],.sl (.sl .u8) [],.sl (.sl .u8) []]]) []):=by
 refine tq ?_;rw[G6 (hl:=A7) ..];refine tq ?_;rw[H8 _ _ _ _ _ _ _ _ _ _ _ _ _ _ _ _ _ _ _ _ _ _ _ _ _ _ _ _ _ _ _ _ _ _ _ _ _ _ _ _ hl hx];refine tq ?_;rw[F9 ..];exact tq rfl
theorem PS:Y E0 (.call 6 [] [])=some (.ret (.b true) []):=by
 obtain⟨S,-,hS,hp⟩:=yh (sd:=PH A7H) (ob:=List.replicate 3 obj0) (h:=0) (k:=3) (a:=1) (t:=0) (o:=[]) (auth:=[]) (d:=[UInt8.ofNat 5]) zal zal zal zam zam (fun _=>rfl);rw[show EW (List.replicate 3 obj0)=0 from rfl] at hp
 generalize EL ⟨3,1,0,[],Eh 3 0 ⟨[],S,[UInt8.ofNat 5]⟩⟩=B1 at hp
 generalize nameB ⟨3,1,0,[],Eh 3 0 ⟨[],S,[UInt8.ofNat 5]⟩⟩=B2 at hp
 generalize Eh 3 0 ⟨[],S,[UInt8.ofNat 5]⟩=U at hp
 have hx:Dl ((List.replicate 3 obj0).set 0 ((3,1,0,[],U),([],S,[UInt8.ofNat 5]),0)) 512=some ((3,1,0,[],U),([],S,[UInt8.ofNat 5]),0):=rfl
 have hl3:((List.replicate 3 obj0).set 0 ((3,1,0,[],U),([],S,[UInt8.ofNat 5]),0)).length=3:=zam
 refine tq ?_;rw[A0Z];refine tq ?_;rw[Qr ..];refine tq ?_;rw[VY _ _ _ _ _ _ _ _ _ _ _ _ _ _ _ _ _ _ _ _ _ _ _ _ _ _ _ _ _ _ _ _ _ _ _ _ _ _ _ _ zam zal (A0M _) zam zam zam,hp]
 conv=>lhs;whnf
 try dsimp -iota -beta -eta -zeta only
 rw[Cf zaa]
 conv=>lhs;whnf
 rw[Cf zaA]
 conv=>lhs;whnf
 rw[lg0];conv=>lhs;whnf
 rw[Cf zaa]
 conv=>lhs;whnf
 rw[Cf (by rw[BB,hl3];rfl)]
 conv=>lhs;whnf
 rw[Ad]
 conv=>lhs;whnf
 try dsimp -iota -beta -eta -zeta only
 rw[AQ];rw[yu _ _ _ A7];refine tq ?_;rw[VZ (hl:=A7) (hhs:=A7) (hx:=A7) (h3:=A7) ..]
 conv=>lhs;whnf
 try dsimp -iota -beta -eta -zeta only
 rw[drw zas];conv=>lhs;whnf
 rw[EH zaa]
 conv=>lhs;whnf
 rw[EH zaA]
 conv=>lhs;whnf
 rw[lg0];conv=>lhs;whnf
 rw[EH zaA]
 conv=>lhs;whnf
 rw[lg0];conv=>lhs;whnf
 rw[lg0];conv=>lhs;whnf
 rw[Ad]
 conv=>lhs;whnf
 rw[J6,EH (by rfl)]
end
section
attribute [local irreducible] Cc Dn D7 DU DD BA Dp F7 FY FD Ez Ci CS DK DV and' DW DL C9 BR Bh CB CG BG BI Aw BC Dq Fh Dt ER DX Bl CE Bv Bz Bi Az Bg BK Bj BO Du Bc DF BZ BM Cj Di fits Dv Dk Ac Am BH
attribute [local irreducible] Dw CJ Be nameB EL Eh Ar ET E8 Ea ES F8 BV GX Eg Fv
theorem A3r(x:Int)(h0:0<=x)(h1:x<=1000):Cc x 1=x+1:=Au zaa
theorem yw(un:List UInt8)(us:Int)(p1 p2 p3:Int)(p4 p5 s1 s2 s3:List UInt8)(hr:Int):Y E0 (.call 166 [.agg [.sl .u8 un,.i us],.pa 0 0] [.var [.i p1,.i p2,.i p3,.sl .u8 p4,.sl .u8 p5,.sl .u8 s1,.sl .u8 s2,.sl .u8 s3,.i hr]])=some (.ret (.b (decide (un=p5))) [some (.var [.i p1,.i p2,.i p3,.sl .u8 p4,.sl .u8 p5,.sl .u8 s1,.sl .u8 s2,.sl .u8 s3,.i hr])]):=by
 refine tq ?_
 (rw[A6k])
theorem Xj(ks:List (El J8))(p1 p2 p3:Int)(p4 p5 s1 s2 s3:List UInt8)(hr:Int)(hl:ks.length<=1000):∀(n j:Nat),j+n=ks.length->keyAt p5 ks=j+keyAt p5 (ks.drop j)->Y E0 (.loop 165 0 2 2 [(0,.nm 0),(1,.fn 166 [] [.pa 1 0]),(7,.i (Bj ks)),(8,.i (j:Int))] [(0,some (.row 190 J8 ks)),(1,some (.var [.i p1,.i p2,.i p3,.sl .u8 p4,.sl .u8 p5,.sl .u8 s1,.sl .u8 s2,.sl .u8 s3,.i hr]))]) =
  if keyAt p5 ks<ks.length then some (.fin .ret 2 [(4,.i (keyAt p5 ks:Int))] [(0,some (.row 190 J8 ks)),(1,some (.var [.i p1,.i p2,.i p3,.sl .u8 p4,.sl .u8 p5,.sl .u8 s1,.sl .u8 s2,.sl .u8 s3,.i hr]))]) else some (.fin (.exit 0) 2 [] [(0,some (.row 190 J8 ks)),(1,some (.var [.i p1,.i p2,.i p3,.sl .u8 p4,.sl .u8 p5,.sl .u8 s1,.sl .u8 s2,.sl .u8 s3,.i hr]))])
 | 0,j,hj,hf=>by
  rw[if_neg (by rw[List.drop_eq_nil_of_le zaa,keyAt] at hf;omega)]
  exact tq rfl
 | n+1,j,hj,hf=>by
  have hd:=List.drop_eq_getElem_cons (l:=ks) (i:=j) zaa
  rw[hd] at hf
  have hg:BO ks (j:Int)=some (ks[j]'zaa):=Fe zaa
  generalize ks[j]'zaa=x at *
  obtain⟨un,us⟩:=x
  by_cases hk:un=p5
  ·subst hk;rw[keyAt,if_pos rfl] at hf;rw[if_pos zaa,show keyAt un ks=j from hf]
   refine to ?_;rw[hg];refine tq ?_;rw[yw ..];exact tq rfl
  ·have ih:=Xj ks p1 p2 p3 p4 p5 s1 s2 s3 hr hl n (j+1) zaa (by rw[hf,keyAt,if_neg hk];omega)
   rw[show((j+1:Nat):Int)=(j:Int)+1 from by omega] at ih
   have hkd:decide (un=p5)=false:=decide_eq_false hk
   refine to ?_;rw[hg];refine tq ?_;rw[yw ..]
   conv=>lhs;whnf
   rw[hkd];refine tq ?_;exact ih
theorem A3s(ks:List (El J8))(p1 p2 p3:Int)(p4 p5 s1 s2 s3:List UInt8)(hr:Int)(hl:ks.length<=1000):Y E0 (.call 165 [.nm 0,.fn 166 [] [.pa 1 0]] [.row 190 J8 ks,.var [.i p1,.i p2,.i p3,.sl .u8 p4,.sl .u8 p5,.sl .u8 s1,.sl .u8 s2,.sl .u8 s3,.i hr]])=some (.ret (.i (if keyAt p5 ks<ks.length then(keyAt p5 ks:Int) else -1)) [some (.row 190 J8 ks),some (.var [.i p1,.i p2,.i p3,.sl .u8 p4,.sl .u8 p5,.sl .u8 s1,.sl .u8 s2,.sl .u8 s3,.i hr])]):=by
 have hq:=Xj ks p1 p2 p3 p4 p5 s1 s2 s3 hr hl ks.length 0 zaa zam
 rw[show((0:Nat):Int)=0 from rfl] at hq
 by_cases hc:keyAt p5 ks<ks.length
 ·rw[if_pos hc] at hq ⊢;refine tq ?_;rw[show ∀(x:Rs),Nat.add 0 [x].length+1=2 from fun _=>rfl,hq];exact tq rfl
 ·rw[if_neg hc] at hq ⊢;refine tq ?_;rw[show ∀(x:Rs),Nat.add 0 [x].length+1=2 from fun _=>rfl,hq];exact tq rfl
variable (sd au:List (List UInt8))(en:List UInt8)(ac re rs ck:Int)(od:Bool)(sb:List (List (List UInt8)))(su mc:Int)(ix:List (El Gp))(l1 l2 l3 l4 l5 l6:Int)(ks:List (El J8))(st sp:Bool)(rb:List (List (List UInt8)))(ru vc:Int)(sf:Bool)(dr:Int)(ss:List (El sesT))(ob:List (El objT))(rl wl:List Int)
theorem yx(p1 p2 p3:Int)(p4 p5 s1 s2 s3:List UInt8)(hr:Int)(hl:ks.length<=100)(hh:0<=p3/\p3<=3)(hu:∀ x∈ks,0<=x.2/\x.2<=1000):Y E0 (.call 104 [(sX sd au en ac re rs ck od sb su mc ix l1 l2 l3 l4 l5 l6 ks st sp rb ru vc sf dr ss ob rl wl),.agg [.i p1,.i p2,.i p3,.sl .u8 p4,.sl .u8 p5,.sl .u8 s1,.sl .u8 s2,.sl .u8 s3,.i hr]] [])=some (.ret (.tup [(sX sd au en ac re rs ck od sb su mc ix l1 l2 l3 l4 l5 l6 ((EE ks p5 p3).1) st sp rb ru vc sf dr ss ob rl wl),.i (EE ks p5 p3).2.1,.i (EE ks p5 p3).2.2]) []):=by
 unfold EE
 have hp:Ci 1 (Bl (min (max p3 0) 3)).toNat=(2:Int)^p3.toNat:=by
  rw[show min (max p3 0) 3=p3 from by omega];exact ZI zaa
 have hpw:1<=(2:Int)^p3.toNat:=by
  have:1<=2^p3.toNat:=Nat.one_le_two_pow
  exact_mod_cast this
 by_cases hc:keyAt p5 ks<ks.length
 ·rw[if_pos hc]
  have hi:=A3s ks p1 p2 p3 p4 p5 s1 s2 s3 hr zaa
  rw[if_pos hc] at hi
  have hg:BO ks (keyAt p5 ks:Int)=some (ks.getD (keyAt p5 ks) ([],0)):=by rw[Fe hc];simp[List.getD,List.getElem?_eq_getElem hc]
  have hm:=hu (ks.getD (keyAt p5 ks) ([],0)) (by simp only[List.getD,List.getElem?_eq_getElem hc,Option.getD_some];exact List.getElem_mem _)
  have hs:∀ x,Bc ks (keyAt p5 ks:Int) x=ks.set (keyAt p5 ks) x:=fun x=>by rw[GG];simp
  generalize ks.getD (keyAt p5 ks) ([],0)=x at *
  obtain⟨un,us⟩:=x
  generalize keyAt p5 ks=K at *
  dsimp only at hm ⊢
  generalize (2:Int)^p3.toNat=W at *
  by_cases hw:W<=us
  ·rw[if_pos hw];refine tq ?_;rw[iP _ A7];refine tq ?_;rw[hi];refine to ?_;rw[hg]
   conv=>lhs;whnf
   try dsimp -iota -beta -eta -zeta only
   rw[hp];exact tq rfl
  ·rw[if_neg hw]
   have hs1:=A3r us hm.1 hm.2
   refine tq ?_;rw[iP _ A7];refine tq ?_;rw[hi];refine to ?_;rw[hg]
   conv=>lhs;whnf
   try dsimp -iota -beta -eta -zeta only
   rw[hp];refine to ?_;rw[hg];refine to ?_;rw[hg];refine tq ?_;rw[hs]
   (rw[hs1])
 ·rw[if_neg hc]
  have hi:=A3s ks p1 p2 p3 p4 p5 s1 s2 s3 hr zaa
  rw[if_neg hc] at hi
  by_cases h8:8<=ks.length
  ·rw[if_pos h8];refine tq ?_;rw[iP _ A7];refine tq ?_;rw[hi];exact tq rfl
  ·rw[if_neg h8]
   have hg:BO (BM ks [(p5,0)]) (Bj ks)=some (p5,0):=by rw[Ag,BB,Fe zam];simp
   have hs:Bc (BM ks [(p5,0)]) (Bj ks) (p5,0+1)=ks++[(p5,1)]:=by rw[GG,Ag,BB];simp
   generalize (2:Int)^p3.toNat=W at *
   refine tq ?_;rw[iP _ A7];refine tq ?_;rw[hi];refine tq ?_;rw[hg]
   conv=>lhs;whnf
   try dsimp -iota -beta -eta -zeta only
   rw[hp];refine tq ?_;rw[hg];refine tp ?_;rw[hg];refine tq ?_;rw[hs]
theorem eH(p1 p2 p3:Int)(p4 p5 s1 s2 s3:List UInt8)(hr:Int)(m:List UInt8)(hkl:ks.length<=100)(hh:0<=p3/\p3<=3)(hu:∀ x∈ks,0<=x.2/\x.2<=1000)(h2:s2.length<=1000)(hm:m.length<=100000)(he:(EE ks p5 p3).2.2=0):Y E0 (.call 48 [(sX sd au en ac re rs ck od sb su mc ix l1 l2 l3 l4 l5 l6 ks st sp rb ru vc sf dr ss ob rl wl),.agg [.i p1,.i p2,.i p3,.sl .u8 p4,.sl .u8 p5,.sl .u8 s1,.sl .u8 s2,.sl .u8 s3,.i hr],.sl .u8 m] [])=some (.ret (.tup [(sX sd au en ac re rs ck od sb su mc ix l1 l2 l3 l4 l5 l6 ((EE ks p5 p3).1) st sp rb ru vc sf dr ss ob rl wl),.sl .u8 (Eg s2 p3 (EE ks p5 p3).2.1 m),.i 0]) []):=by
 have e:=yx sd au en ac re rs ck od sb su mc ix l1 l2 l3 l4 l5 l6 ks st sp rb ru vc sf dr ss ob rl wl p1 p2 p3 p4 p5 s1 s2 s3 hr hkl hh hu
 generalize EE ks p5 p3=U at *
 obtain⟨u1,u2,u3⟩:=U
 dsimp only at *
 subst he;refine tq ?_;rw[e];refine tq ?_;rw[A3g _ _ _ _ A7 A7];exact tq rfl
theorem eQ(p1 p2 p3:Int)(p4 p5 s1 s2 s3:List UInt8)(hr:Int)(m:List UInt8)(hkl:ks.length<=100)(hh:0<=p3/\p3<=3)(hu:∀ x∈ks,0<=x.2/\x.2<=1000)(he:(EE ks p5 p3).2.2≠0):Y E0 (.call 48 [(sX sd au en ac re rs ck od sb su mc ix l1 l2 l3 l4 l5 l6 ks st sp rb ru vc sf dr ss ob rl wl),.agg [.i p1,.i p2,.i p3,.sl .u8 p4,.sl .u8 p5,.sl .u8 s1,.sl .u8 s2,.sl .u8 s3,.i hr],.sl .u8 m] [])=some (.ret (.tup [(sX sd au en ac re rs ck od sb su mc ix l1 l2 l3 l4 l5 l6 ks st sp rb ru vc sf dr ss ob rl wl),.sl .u8 [],.i (EE ks p5 p3).2.2]) []):=by
 have e:=yx sd au en ac re rs ck od sb su mc ix l1 l2 l3 l4 l5 l6 ks st sp rb ru vc sf dr ss ob rl wl p1 p2 p3 p4 p5 s1 s2 s3 hr hkl hh hu
 generalize EE ks p5 p3=U at *
 obtain⟨u1,u2,u3⟩:=U
 dsimp only at *
 refine tq ?_;rw[e];exact tq rfl
theorem JU(c h:Int)(hs:List Int)(az:List (El AY))(is:List Int)(m:List UInt8)(bs:List (List UInt8))(p1 p2 p3:Int)(p4 p5 s1 s2 s3:List UInt8)(hr:Int)(r:Bool)(hl:ob.length<=1000)(hhs:hs.length<=100)(hbs:bs.length<=100)(hx:Dl ob h=some ((p1,p2,p3,p4,p5),(s1,s2,s3),hr))(h1:p1=2)(ha:r = !decide (BA .and p2 4=0))(hm:m.length<=128):
  Y E0 (.call 44 [(sX sd au en ac re rs ck od sb su mc ix l1 l2 l3 l4 l5 l6 ks st sp rb ru vc sf dr ss ob rl wl),.agg [.i c,.sl .i64 (h::hs),.sl AY az,.sl .i64 is,.sl (.sl .u8) (m::bs)],.b r] [])=some (.ret (.tup [.agg [.i p1,.i p2,.i p3,.sl .u8 p4,.sl .u8 p5,.sl .u8 s1,.sl .u8 s2,.sl .u8 s3,.i hr],.i 0]) []):=by
 subst ha
 by_cases hq:BA .and p2 4=0
 ·rw[hq,decide_eq_true rfl];refine tq ?_;rw[G6 (hl:=A7) ..];refine tq ?_;rw[H8 _ _ _ _ _ _ _ _ _ _ _ _ _ _ _ _ _ _ _ _ _ _ _ _ _ _ _ _ _ _ _ _ _ _ _ _ _ _ _ _ hl hx]
  conv=>lhs;whnf
  try dsimp -iota -beta -eta -zeta only
  rw[drw zas];conv=>lhs;whnf
  rw[Cf zaa]
  conv=>lhs;whnf
  rw[Cf zaa]
  conv=>lhs;whnf
  rw[hq];rw[show DK (FY 0 0) (!true)=true from by rw[Cf (by rfl),SS];rfl]
  conv=>lhs;whnf
  rw[DT];conv=>lhs;whnf
  try dsimp -iota -beta -eta -zeta only
  rw[AQ];rw[Gj (hl:=A7) ..];exact tq rfl
 ·rw[decide_eq_false hq];refine tq ?_;rw[G6 (hl:=A7) ..];refine tq ?_;rw[H8 _ _ _ _ _ _ _ _ _ _ _ _ _ _ _ _ _ _ _ _ _ _ _ _ _ _ _ _ _ _ _ _ _ _ _ _ _ _ _ _ hl hx]
  conv=>lhs;whnf
  try dsimp -iota -beta -eta -zeta only
  rw[drw zas];conv=>lhs;whnf
  rw[Cf zaa]
  conv=>lhs;whnf
  rw[Cf zaa]
  conv=>lhs;whnf
  rw[show DK (FY (BA .and p2 4) 0) (!false)=true from by rw[G8 hq,SS];rfl]
  conv=>lhs;whnf
  rw[DT];conv=>lhs;whnf
  try dsimp -iota -beta -eta -zeta only
  rw[AQ];rw[Gj (hl:=A7) ..];exact tq rfl
theorem Va(c h:Int)(hs:List Int)(az:List (El AY))(is:List Int)(m:List UInt8)(bs:List (List UInt8))(p1 p2 p3:Int)(p4 p5 s1 s2 s3:List UInt8)(hr:Int)(r:Bool)(hl:ob.length<=1000)(hhs:hs.length<=100)(hx:Dl ob h=some ((p1,p2,p3,p4,p5),(s1,s2,s3),hr))(h1:p1≠2):
  Y E0 (.call 44 [(sX sd au en ac re rs ck od sb su mc ix l1 l2 l3 l4 l5 l6 ks st sp rb ru vc sf dr ss ob rl wl),.agg [.i c,.sl .i64 (h::hs),.sl AY az,.sl .i64 is,.sl (.sl .u8) (m::bs)],.b r] [])=some (.ret (.tup [.agg [.i p1,.i p2,.i p3,.sl .u8 p4,.sl .u8 p5,.sl .u8 s1,.sl .u8 s2,.sl .u8 s3,.i hr],.i 19]) []):=by
 refine tq ?_;rw[G6 (hl:=A7) ..];refine tq ?_;rw[H8 _ _ _ _ _ _ _ _ _ _ _ _ _ _ _ _ _ _ _ _ _ _ _ _ _ _ _ _ _ _ _ _ _ _ _ _ _ _ _ _ hl hx];exact tq rfl
theorem Vb(c h:Int)(hs:List Int)(az:List (El AY))(is:List Int)(m:List UInt8)(bs:List (List UInt8))(p1 p2 p3:Int)(p4 p5 s1 s2 s3:List UInt8)(hr:Int)(r:Bool)(hl:ob.length<=1000)(hhs:hs.length<=100)(hx:Dl ob h=some ((p1,p2,p3,p4,p5),(s1,s2,s3),hr))(h1:p1=2)(ha:r=decide (BA .and p2 4=0)):
  Y E0 (.call 44 [(sX sd au en ac re rs ck od sb su mc ix l1 l2 l3 l4 l5 l6 ks st sp rb ru vc sf dr ss ob rl wl),.agg [.i c,.sl .i64 (h::hs),.sl AY az,.sl .i64 is,.sl (.sl .u8) (m::bs)],.b r] [])=some (.ret (.tup [.agg [.i p1,.i p2,.i p3,.sl .u8 p4,.sl .u8 p5,.sl .u8 s1,.sl .u8 s2,.sl .u8 s3,.i hr],.i 20]) []):=by
 subst ha
 by_cases hq:BA .and p2 4=0
 ·rw[hq,decide_eq_true rfl];refine tq ?_;rw[G6 (hl:=A7) ..];refine tq ?_;rw[H8 _ _ _ _ _ _ _ _ _ _ _ _ _ _ _ _ _ _ _ _ _ _ _ _ _ _ _ _ _ _ _ _ _ _ _ _ _ _ _ _ hl hx]
  conv=>lhs;whnf
  try dsimp -iota -beta -eta -zeta only
  rw[drw zas];conv=>lhs;whnf
  rw[Cf zaa]
  conv=>lhs;whnf
  rw[Cf zaa]
  conv=>lhs;whnf
  rw[hq];rw[show DK (FY 0 0) true=false from by rw[Cf (by rfl),SS];rfl]
  exact tq rfl
 ·rw[decide_eq_false hq];refine tq ?_;rw[G6 (hl:=A7) ..];refine tq ?_;rw[H8 _ _ _ _ _ _ _ _ _ _ _ _ _ _ _ _ _ _ _ _ _ _ _ _ _ _ _ _ _ _ _ _ _ _ _ _ _ _ _ _ hl hx]
  conv=>lhs;whnf
  try dsimp -iota -beta -eta -zeta only
  rw[drw zas];conv=>lhs;whnf
  rw[Cf zaa]
  conv=>lhs;whnf
  rw[Cf zaa]
  conv=>lhs;whnf
  rw[show DK (FY (BA .and p2 4) 0) false=false from by rw[G8 hq,SS];rfl]
  exact tq rfl
theorem oQ(c h:Int)(hs:List Int)(az:List (El AY))(is:List Int)(m:List UInt8)(bs:List (List UInt8))(p1 p2 p3:Int)(p4 p5 s1 s2 s3:List UInt8)(hr:Int)(hl:ob.length<=1000)(hhs:hs.length<=100)(hbs:bs.length<=100)(hx:Dl ob h=some ((p1,p2,p3,p4,p5),(s1,s2,s3),hr))(h1:p1=2)(ha:BA .and p2 4=0)(hm:m.length<=128)(hkl:ks.length<=100)(hh:0<=p3/\p3<=3)(hu:∀ x∈ks,0<=x.2/\x.2<=1000)(h2:s2.length<=1000)(he:(EE ks p5 p3).2.2=0):
  Y E0 (.call 68 [(sX sd au en ac re rs ck od sb su mc ix l1 l2 l3 l4 l5 l6 ks st sp rb ru vc sf dr ss ob rl wl),.agg [.i c,.sl .i64 (h::hs),.sl AY az,.sl .i64 is,.sl (.sl .u8) (m::bs)]] [])=some (.ret (.tup [(sX sd au en ac re rs ck od sb su mc ix l1 l2 l3 l4 l5 l6 ((EE ks p5 p3).1) st sp rb ru vc sf dr ss ob rl wl),.agg [.i 0,.sl .i64 [],.sl (.sl .u8) [Eg s2 p3 (EE ks p5 p3).2.1 m],.sl (.sl .u8) []]]) []):=by
 have e1:=JU sd au en ac re rs ck od sb su mc ix l1 l2 l3 l4 l5 l6 ks st sp rb ru vc sf dr ss ob rl wl c h hs az is m bs p1 p2 p3 p4 p5 s1 s2 s3 hr false hl hhs hbs hx h1 (by rw[ha];rfl) hm
 have e2:=eH sd au en ac re rs ck od sb su mc ix l1 l2 l3 l4 l5 l6 ks st sp rb ru vc sf dr ss ob rl wl p1 p2 p3 p4 p5 s1 s2 s3 hr m hkl hh hu h2 zaa he
 refine tq ?_;rw[e1];refine tq ?_;rw[Gj (hl:=A7) ..];refine tq ?_;rw[e2];exact tq rfl
theorem uU(c h:Int)(hs:List Int)(az:List (El AY))(is:List Int)(m:List UInt8)(bs:List (List UInt8))(p1 p2 p3:Int)(p4 p5 s1 s2 s3:List UInt8)(hr:Int)(hl:ob.length<=1000)(hhs:hs.length<=100)(hbs:bs.length<=100)(hx:Dl ob h=some ((p1,p2,p3,p4,p5),(s1,s2,s3),hr))(h1:p1=2)(ha:BA .and p2 4=0)(hm:m.length<=128)(hkl:ks.length<=100)(hh:0<=p3/\p3<=3)(hu:∀ x∈ks,0<=x.2/\x.2<=1000)(he:(EE ks p5 p3).2.2≠0):
  Y E0 (.call 68 [(sX sd au en ac re rs ck od sb su mc ix l1 l2 l3 l4 l5 l6 ks st sp rb ru vc sf dr ss ob rl wl),.agg [.i c,.sl .i64 (h::hs),.sl AY az,.sl .i64 is,.sl (.sl .u8) (m::bs)]] [])=some (.ret (.tup [(sX sd au en ac re rs ck od sb su mc ix l1 l2 l3 l4 l5 l6 ks st sp rb ru vc sf dr ss ob rl wl),.agg [.i (EE ks p5 p3).2.2,.sl .i64 [],.sl (.sl .u8) [],.sl (.sl .u8) []]]) []):=by
 have e1:=JU sd au en ac re rs ck od sb su mc ix l1 l2 l3 l4 l5 l6 ks st sp rb ru vc sf dr ss ob rl wl c h hs az is m bs p1 p2 p3 p4 p5 s1 s2 s3 hr false hl hhs hbs hx h1 (by rw[ha];rfl) hm
 have e2:=eQ sd au en ac re rs ck od sb su mc ix l1 l2 l3 l4 l5 l6 ks st sp rb ru vc sf dr ss ob rl wl p1 p2 p3 p4 p5 s1 s2 s3 hr m hkl hh hu he
 refine tq ?_;rw[e1];refine tq ?_;rw[Gj (hl:=A7) ..];refine tq ?_;rw[e2];refine tq ?_;rw[F9 ..];exact tq rfl
theorem uV(c h:Int)(hs:List Int)(az:List (El AY))(is:List Int)(m:List UInt8)(bs:List (List UInt8))(p1 p2 p3:Int)(p4 p5 s1 s2 s3:List UInt8)(hr:Int)(hl:ob.length<=1000)(hhs:hs.length<=100)(hx:Dl ob h=some ((p1,p2,p3,p4,p5),(s1,s2,s3),hr))(h1:p1≠2):
  Y E0 (.call 68 [(sX sd au en ac re rs ck od sb su mc ix l1 l2 l3 l4 l5 l6 ks st sp rb ru vc sf dr ss ob rl wl),.agg [.i c,.sl .i64 (h::hs),.sl AY az,.sl .i64 is,.sl (.sl .u8) (m::bs)]] [])=some (.ret (.tup [(sX sd au en ac re rs ck od sb su mc ix l1 l2 l3 l4 l5 l6 ks st sp rb ru vc sf dr ss ob rl wl),.agg [.i 19,.sl .i64 [],.sl (.sl .u8) [],.sl (.sl .u8) []]]) []):=by
 have e1:=Va sd au en ac re rs ck od sb su mc ix l1 l2 l3 l4 l5 l6 ks st sp rb ru vc sf dr ss ob rl wl c h hs az is m bs p1 p2 p3 p4 p5 s1 s2 s3 hr false hl hhs hx h1
 refine tq ?_;rw[e1];refine tq ?_;rw[F9 ..];exact tq rfl
theorem uX(c h:Int)(hs:List Int)(az:List (El AY))(is:List Int)(m:List UInt8)(bs:List (List UInt8))(p1 p2 p3:Int)(p4 p5 s1 s2 s3:List UInt8)(hr:Int)(hl:ob.length<=1000)(hhs:hs.length<=100)(hx:Dl ob h=some ((p1,p2,p3,p4,p5),(s1,s2,s3),hr))(h1:p1=2)(ha:BA .and p2 4≠0):
  Y E0 (.call 68 [(sX sd au en ac re rs ck od sb su mc ix l1 l2 l3 l4 l5 l6 ks st sp rb ru vc sf dr ss ob rl wl),.agg [.i c,.sl .i64 (h::hs),.sl AY az,.sl .i64 is,.sl (.sl .u8) (m::bs)]] [])=some (.ret (.tup [(sX sd au en ac re rs ck od sb su mc ix l1 l2 l3 l4 l5 l6 ks st sp rb ru vc sf dr ss ob rl wl),.agg [.i 20,.sl .i64 [],.sl (.sl .u8) [],.sl (.sl .u8) []]]) []):=by
 have e1:=Vb sd au en ac re rs ck od sb su mc ix l1 l2 l3 l4 l5 l6 ks st sp rb ru vc sf dr ss ob rl wl c h hs az is m bs p1 p2 p3 p4 p5 s1 s2 s3 hr false hl hhs hx h1 (by rw[decide_eq_false ha])
 refine tq ?_;rw[e1];refine tq ?_;rw[F9 ..];exact tq rfl
end
section
attribute [local irreducible] Cc Dn D7 DU DD BA Dp F7 FY FD Ez Ci CS DK DV and' DW DL C9 BR Bh CB CG BG BI Aw BC Dq Fh Dt ER DX Bl CE Bv Bz Bi Az Bg BK Bj BO Du Bc DF BZ BM Cj Di fits Dv Dk Ac Am BH
attribute [local irreducible] En Eg Fv CV nameB Eh wkey JF NH EL Be Ea ES Xa Su NI Ig
theorem uY(a s d:List UInt8)(k t h:Int)(o u x:List UInt8)(hs:s.length<=100000)(ho:o.length<=60000)(hu:u.length<=60000)(hx:x.length<=1000000):Y E0 (.call 133 [.agg [.sl .u8 a,.sl .u8 s,.sl .u8 d],.agg [.i k,.i t,.i h,.sl .u8 o,.sl .u8 u],.sl .u8 x] [])=some (.ret (.tup [.agg (Xu (ES ⟨a,s,d⟩ ⟨k,t,h,o,u⟩ x).1),.i (ES ⟨a,s,d⟩ ⟨k,t,h,o,u⟩ x).2]) []):=by
 have hn:=Aa ⟨k,t,h,o,u⟩
 have he:=Hf (p:=⟨k,t,h,o,u⟩) zay zay
 have hw:=BP ⟨a,s,d⟩ (nameB ⟨k,t,h,o,u⟩)
 simp only at he
 have eo:=A0W (wkey ⟨a,s,d⟩ (nameB ⟨k,t,h,o,u⟩)) (EL ⟨k,t,h,o,u⟩) x zaa zaa zaa
 have hl:=dR (key:=wkey ⟨a,s,d⟩ (nameB ⟨k,t,h,o,u⟩)) (ad:=EL ⟨k,t,h,o,u⟩) (b:=x)
 unfold ES
 generalize JF (wkey ⟨a,s,d⟩ (nameB ⟨k,t,h,o,u⟩)) (EL ⟨k,t,h,o,u⟩) x=R at *
 obtain⟨b,e⟩:=R
 dsimp only at eo hl ⊢
 have hb:b.length<=4294967296:=zaa
 by_cases hz:e=0
 ·subst hz;rw[if_neg zam];refine tq ?_;rw[GR _ _ _ _ _ A7 A7];refine tq ?_;rw[X5 _ _ _ _ A7 A7];refine tq ?_;rw[IY _ _ _ _ _ A7 A7];refine tq ?_;rw[eo];refine tq ?_;rw[Qe _];refine tq ?_;rw[show Y E0 (.call 41 [.pa 0 0,.i 32] [.var [.sl .u8 b,.i 0,.i 0]])=_ from IL b 0 0 32 hb (Nat.zero_le _)];generalize g0:Ie b 0 0 32=x0;obtain⟨v0,p0,er0⟩:=x0;have k0:p0<=b.length:=zba;have l0:v0.length<=b.length:=zbw;have m0:v0.length<=32:=za4
  refine tq ?_;rw[IL b p0 er0 32 hb k0];generalize g1:Ie b p0 er0 32=x1;obtain⟨v1,p1,er1⟩:=x1;have k1:p1<=b.length:=zbn;have l1:v1.length<=b.length:=zbr;have m1:v1.length<=32:=za1
  refine tq ?_;rw[IL b p1 er1 128 hb k1];generalize g2:Ie b p1 er1 128=x2;obtain⟨v2,p2,er2⟩:=x2;have k2:p2<=b.length:=zaN;have l2:v2.length<=b.length:=zaS;have m2:v2.length<=128:=zaZ
  refine tq ?_;rw[VI _ _ _ A7 A7];refine tq ?_
  rcases AX (U2 b p2 er2) 0 with hc0|hc0
  ·refine tq ?_
   (rw[OU g0 g1 g2,if_pos zaa];try rfl)
  refine tq ?_;rw[MJ _ _ _ _ _ A7 A7 A7];refine tq ?_;rw[Bq _ _ (Nat.le_trans (yg _ _ _) zaa)];refine tq ?_
  rcases Decidable.em (Eh k h {auth:=v0,seed:=v1,data:=v2}=u) with hc1|hc1
  ·refine tq ?_
   (rw[OU g0 g1 g2,if_neg zaa,if_neg (by first|assumption|simp_all)];try rfl)
  refine tq ?_
  (rw[OU g0 g1 g2,if_neg zaa,if_pos (fun q=>hc1 q.symm)];try rfl)
 ·rw[if_pos hz];refine tq ?_;rw[GR _ _ _ _ _ A7 A7];refine tq ?_;rw[X5 _ _ _ _ A7 A7];refine tq ?_;rw[IY _ _ _ _ _ A7 A7];refine tq ?_;rw[eo];refine tq ?_
  rfl
end
end Go.Proofs.YtnhgnfdbdflhcaaGreatDoor
