/-
  Own texts, laid together for this claim: contracts of functions of the program and its references, used by the statements of this seat.
-/
import Derived.Test.YtanagnimhaemgaaGreatDoorQtac
import Derived.Test.YtanagnimhaemgaaGreatDoorQtae
import Derived.Test.YtanagnimhaemgaaGreatDoorQtaf
import Derived.Test.YtanagnimhaemgaaGreatDoorQtag
import Derived.Test.YtanagnimhaemgaaGreatDoorQtai
import Derived.Test.YtanagnimhaemgaaGreatDoorQtaj
import Derived.Test.YtanagnimhaemgaaGreatDoorQtak
import Derived.Test.YtanagnimhaemgaaGreatDoorQtan
import Derived.Test.YtanagnimhaemgaaGreatDoorQtas
set_option linter.all false
set_option maxHeartbeats 40000000
set_option maxRecDepth 100000
namespace Go.Proofs.YtanagnimhaemgaaGreatDoor
open Go Go.Ax Go.Eng
variable {n:Nat}{b:List (List UInt8)}(c k h:Int)
section
attribute [local irreducible] Bl CQ CS Bo Bg Ar CU Dw EN Dy EC Bf BU Bv Bz and' C9 CB BK Au BA BL BN Aa Ad AP AZ CV Dq CW DI CE BP BM BF BG BB AU BC Ae Ap Ai CX BH Bh Ba BO CG CY CJ fits CZ CO A8 AA Ac
attribute [local irreducible] FM ES G6 Cb nameB EJ wkey Zq wR EL
theorem RZ(a s d:List UInt8)(ha:a.length<=100000)(hs:s.length<=100000)(hd:d.length<=100000):Y E0 (.call 300 [.i k,.i h,.agg [.sl .u8 a,.sl .u8 s,.sl .u8 d]] [])=some (.ret (.sl .u8 (EJ k h ⟨a,s,d⟩)) []):=by
 refine tq ?_
 rcases FK k 2 with hc0|hc0
 ·subst hc0;refine tq ?_;rw[A69 _ _ Aq];refine tq ?_
  (unfold EJ;(repeat(first|rw[if_pos zaa]|rw[if_neg zaa]));try rfl)
 refine tq ?_;rw[Eu _ _ Aq Aq];refine tq ?_
 (unfold EJ;(repeat(first|rw[if_pos zaa]|rw[if_neg zaa]));try rfl)
theorem Kr(e:Int):Y E0 (.call 299 [.i e] [])=some (.ret (.tup [.agg (A6B YE),.agg (A8f Yi),.i e]) []):=by
 refine tq ?_
 rfl
theorem A3N(secret:List UInt8)(k a h:Int)(o u auth data:List UInt8)(hs:secret.length<=100000):Y E0 (.call 248 [.sl .u8 secret,.agg [.i k,.i a,.i h,.sl .u8 o,.sl .u8 u],.sl .u8 auth,.sl .u8 data] [])=some (.ret (.tup [.agg (A6B (DC secret ⟨k,a,h,o,u⟩ auth data).1),.agg (A8f (DC secret ⟨k,a,h,o,u⟩ auth data).2.1),.i (DC secret ⟨k,a,h,o,u⟩ auth data).2.2]) []):=by
 have hu:=wS k
 have hd:=G5 (key:=secret) (label:=Ic) (ctx:=[]) (n:=32) zaa
 have hE:Ba (uniq k) (0:UInt8)=List.replicate (uniq k).toNat 0:=by rw[FY]
 by_cases hk:k=2
 ·subst hk
  have hr:Ba 17 (0:UInt8)=List.replicate (uniq 2).toNat 0:=zbj
  rw[AO]
  conv=>lhs;whnf
  rw[RV zaa]
  conv=>lhs;whnf
  rw[Ff zaa]
  conv=>lhs;whnf
  rw[Ff zaa]
  conv=>lhs;whnf
  rw[hr];refine tq ?_;rw[Zw ..];refine tq ?_
  rcases Bj (Cb {kind:=2,attr:=a,height:=h,policy:=o,unique:=List.replicate (uniq 2).toNat 0}) 0 with hc0|hc0
  ·refine tq ?_;rw[Kr _];refine tq ?_
   (unfold DC;dsimp only;(repeat(first|rw[if_pos zav]|rw[if_neg zav]));try rfl)
  refine tq ?_
  rcases D7 32 (↑auth.length) with hc1|hc1
  ·refine tq ?_;rw[Kr _];refine tq ?_
   (unfold DC;dsimp only;(repeat(first|rw[if_pos zav]|rw[if_neg zav]));try rfl)
  refine tq ?_
  rcases D7 128 (↑data.length) with hc2|hc2
  ·refine tq ?_;rw[Kr _];refine tq ?_
   (unfold DC;dsimp only;(repeat(first|rw[if_pos zav]|rw[if_neg zav]));try rfl)
  refine tq ?_
  rcases D7 0 (↑data.length) with hc3|hc3
  ·refine tq ?_;rw[Kr _];refine tq ?_
   (unfold DC;dsimp only;(repeat(first|rw[if_pos zav]|rw[if_neg zav]));try rfl)
  refine tq ?_;rw[show strOf {data := #[115,101,101,100]}=Ic from rfl,Fh _ _ _ _ zaa zad zak];refine tq ?_;rw[RZ _ _ _ _ _ Aq Aq Aq];refine tq ?_
  (unfold DC;dsimp only;(repeat(first|rw[if_pos zav]|rw[if_neg zav]));try rfl)
 ·have hr:Ba 32 (0:UInt8)=List.replicate (uniq k).toNat 0:=by rw[FY,uniq,if_neg hk]
  rw[AO]
  conv=>lhs;whnf
  rw[hr];refine tq ?_;rw[Zw ..];refine tq ?_
  rcases Bj (Cb {kind:=k,attr:=a,height:=h,policy:=o,unique:=List.replicate (uniq k).toNat 0}) 0 with hc0|hc0
  ·refine tq ?_;rw[Kr _];refine tq ?_
   (unfold DC;dsimp only;(repeat(first|rw[if_pos zav]|rw[if_neg zav]));try rfl)
  refine tq ?_
  rcases D7 32 (↑auth.length) with hc1|hc1
  ·refine tq ?_;rw[Kr _];refine tq ?_
   (unfold DC;dsimp only;(repeat(first|rw[if_pos zav]|rw[if_neg zav]));try rfl)
  refine tq ?_
  rcases D7 128 (↑data.length) with hc2|hc2
  ·refine tq ?_;rw[Kr _];refine tq ?_
   (unfold DC;dsimp only;(repeat(first|rw[if_pos zav]|rw[if_neg zav]));try rfl)
  refine tq ?_
  rcases D7 0 (↑data.length) with hc3|hc3
  ·refine tq ?_
   rcases Bj k 3 with hc4|hc4
   ·refine tq ?_;rw[Kr _];refine tq ?_
    (unfold DC;dsimp only;(repeat(first|rw[if_pos zav]|rw[if_neg zav]));try rfl)
   subst hc4;refine tq ?_;rw[show strOf {data := #[115,101,101,100]}=Ic from rfl,Fh _ _ _ _ zaa zad zak];refine tq ?_;rw[RZ _ _ _ _ _ Aq Aq Aq];refine tq ?_
   (unfold DC;dsimp only;(repeat(first|rw[if_pos zav]|rw[if_neg zav]));try rfl)
  refine tq ?_;rw[show strOf {data := #[115,101,101,100]}=Ic from rfl,Fh _ _ _ _ zaa zad zak];refine tq ?_;rw[RZ _ _ _ _ _ Aq Aq Aq];refine tq ?_
  (unfold DC;dsimp only;(repeat(first|rw[if_pos zav]|rw[if_neg zav]));try rfl)
end
section
attribute [local irreducible] Bl CQ CS Bo Bg Ar CU Dw EN Dy EC Bf BU Bv Bz and' C9 CB BK Au BA BL BN Aa Ad AP AZ CV Dq CW DI CE BP BM BF BG BB AU BC Ae Ap Ai CX BH Bh Ba BO CG CY CJ fits CZ CO A8 AA Ac
attribute [local irreducible] Aw Di DC nameB EL EJ Ag
theorem Tv{α:Type}{l:List α}{j:Nat}(h:j<l.length):BO (l.take j) [l[j]]=l.take (j+1):=by rw[Am,List.take_succ_eq_append_getElem h]
theorem YI(b0 b1:List (List UInt8))(u:Int)(h0:b0.length<=16)(hm:∀ x∈b0,x.length<=1000):∀(n j:Nat),j+n=b0.length->Y E0 (.loop 54 1 0 4 [(1,AV.pa 0 0),(2,AV.pa 1 0),(3,AV.pa 2 0),(4,AV.i 0),(5,AV.nm 3),(6,AV.i (j:Int))] [(0,some (Rs.var [AV.sl Ty.u8.sl.sl [b0,b1],AV.i u])),(1,some (Rs.var [AV.nil,AV.i 0])),(2,some (Rs.var [AV.nil,AV.i u])),(3,some (Rs.row 22 Ty.u8.sl (b0.take j)))]) =
  some (.fin (.exit 2) 4 [(1,AV.pa 0 0),(2,AV.pa 1 0),(3,AV.pa 2 0),(4,AV.i 0),(5,AV.nm 3)] [(0,some (Rs.var [AV.sl Ty.u8.sl.sl [b0,b1],AV.i u])),(1,some (Rs.var [AV.nil,AV.i 0])),(2,some (Rs.var [AV.nil,AV.i u])),(3,some (Rs.row 22 Ty.u8.sl b0))])
 | 0,j,hj=>by
  obtain rfl:j=b0.length:=zaa
  rw[List.take_length]
  exact tq rfl
 | n+1,j,hj=>by
  have hg:Ai b0 (j:Int)=some (b0[j]'zaa):=IC zaa
  have hx:=hm _ (List.getElem_mem (show j<b0.length by omega))
  have ih:=YI b0 b1 u h0 hm n (j+1) zaa
  rw[show((j+1:Nat):Int)=(j:Int)+1 from by omega,<-Tv (show j<b0.length by omega)] at ih
  refine to ?_;rw[hg];refine tq ?_;rw[WT _ Aq];refine tq ?_;exact ih
theorem YJ(b0 b1:List (List UInt8))(u:Int)(h0:b1.length<=16)(hm:∀ x∈b1,x.length<=1000):∀(n j:Nat),j+n=b1.length->Y E0 (.loop 54 1 0 6 [(1,AV.pa 0 0),(2,AV.pa 1 0),(3,AV.pa 2 0),(4,AV.i 1),(5,AV.nm 3),(6,AV.i (j:Int))] [(0,some (Rs.var [AV.sl Ty.u8.sl.sl [b0,b1],AV.i u])),(1,some (Rs.var [AV.nil,AV.i 0])),(2,some (Rs.var [AV.nm 4,AV.i u])),(3,some (Rs.row 22 Ty.u8.sl (b1.take j))),(4,some (.rowA 24 1 1 [AV.nm 5])),(5,some (Rs.row 22 Ty.u8.sl b0))]) =
  some (.fin (.exit 2) 6 [(1,AV.pa 0 0),(2,AV.pa 1 0),(3,AV.pa 2 0),(4,AV.i 1),(5,AV.nm 3)] [(0,some (Rs.var [AV.sl Ty.u8.sl.sl [b0,b1],AV.i u])),(1,some (Rs.var [AV.nil,AV.i 0])),(2,some (Rs.var [AV.nm 4,AV.i u])),(3,some (Rs.row 22 Ty.u8.sl b1)),(4,some (.rowA 24 1 1 [AV.nm 5])),(5,some (Rs.row 22 Ty.u8.sl b0))])
 | 0,j,hj=>by
  obtain rfl:j=b1.length:=zaa
  rw[List.take_length]
  exact tq rfl
 | n+1,j,hj=>by
  have hg:Ai b1 (j:Int)=some (b1[j]'zaa):=IC zaa
  have hx:=hm _ (List.getElem_mem (show j<b1.length by omega))
  have ih:=YJ b0 b1 u h0 hm n (j+1) zaa
  rw[show((j+1:Nat):Int)=(j:Int)+1 from by omega,<-Tv (show j<b1.length by omega)] at ih
  refine to ?_;rw[hg];refine tq ?_;rw[WT _ Aq];refine tq ?_;exact ih
theorem kX(b0 b1:List (List UInt8))(u:Int)(h0:b0.length<=16)(h1:b1.length<=16)(m0:∀ x∈b0,x.length<=1000)(m1:∀ x∈b1,x.length<=1000):(Y E0 (.loop 54 0 0 3 [(1,AV.pa 0 0),(2,AV.pa 1 0),(3,AV.pa 2 0),(4,AV.i 0)] [(0,some (Rs.var [AV.sl Ty.u8.sl.sl [b0,b1],AV.i u])),(1,some (Rs.var [AV.nil,AV.i 0])),(2,some (Rs.var [AV.nil,AV.i u]))]))=some (.fin (.exit 0) 5 [(2,.pa 0 0),(3,.pa 1 0)] [(0,some (.var [.nil,.i 0])),(1,some (.var [.nm 2,.i u])),(2,some (.rowA 24 1 2 [.nm 3,.nm 4])),(3,some (.row 22 (.sl .u8) b0)),(4,some (.row 22 (.sl .u8) b1))]):=by
 have e:=YI b0 b1 u h0 m0 b0.length 0 zaa
 rw[List.take_zero,show((0:Nat):Int)=0 from rfl] at e
 have e':=YJ b0 b1 u h1 m1 b1.length 0 zaa
 rw[List.take_zero,show((0:Nat):Int)=0 from rfl] at e'
 refine tq ?_;rw[e];refine tq ?_;refine tq ?_;rw[show(0:Int)+1=1 from rfl,e'];refine tq ?_;exact tq rfl
theorem rJ:Y E0 (.call 84 [.i 1] [])=some (.ret (.i 32) []):=by
 exact tq rfl
theorem Zx(l:List UInt8)(hl:l.length<=4294967296):Y E0 (.call 86 [.i 1,.sl .u8 l] [])=some (.ret (.sl .u8 (sha256 l)) []):=by
 refine tq ?_;rw[QL _ Aq];exact tq rfl
abbrev Om(rb:List (List (List UInt8)))(u:Int):AV:=.agg [.sl (.sl (.sl .u8)) rb,.i u]
theorem Zy(b0 b1:List (List UInt8))(u:Int)(h0:b0.length<=16)(h1:b1.length<=16)(m0:∀ x∈b0,x.length<=1000)(m1:∀ x∈b1,x.length<=1000):Y E0 (.call 54 [Om [b0,b1] u] [])=some (.ret (.agg [.nm 0,.i u]) [some (.rowA 24 1 2 [.nm 1,.nm 2]),some (.row 22 (.sl .u8) b0),some (.row 22 (.sl .u8) b1)]):=by
 have e:=kX b0 b1 u h0 h1 m0 m1
 refine tq ?_;rw[e];exact tq rfl
theorem Zz(b:List (List UInt8))(l:List (List (List UInt8)))(u:Int)(hl:l.length<=100):Y E0 (.call 68 [Om (b::l) u,.i 0] [])=some (.ret (.b (decide (0<b.length))) []):=by
 refine tq ?_
 (rw[Jd,AC];simp)
theorem V4(c b:List (List UInt8))(l:List (List (List UInt8)))(u:Int)(hl:l.length<=100):Y E0 (.call 68 [Om (c::b::l) u,.i 1] [])=some (.ret (.b (decide (0<b.length))) []):=by
 refine tq ?_
 (rw[Jd,AC];simp)
theorem aA(u k:Int)(hk:0<=k):Y E0 (.call 68 [Om [] u,.i k] [])=some (.ret (.b false) []):=by
 exact tq rfl
theorem Og(h:b=[]\/EF n b)(hn:n<=1000):b.length<=16/\∀ x∈b,x.length<=1000:=by
 rcases h with rfl|⟨h1,h2⟩
 ·simp
 ·exact⟨by omega,fun x hx=>by rw[h2 x hx];exact hn⟩
theorem YK{i:Int}{x:List UInt8}(h:EF n b)(hx:x.length=n):EF n (BH b i x):=by
 obtain⟨h1,h2⟩:=AAB (i:=i) h.2 hx;exact⟨h1.trans h.1,h2⟩
theorem wZ(h:b=[]\/EF n b):b.length=0\/b.length=16:=by
 rcases h with rfl|h
 ·exact .inl rfl
 ·exact .inr h.1
end
theorem Wh(hs:List Int)(is:List Int)(bs:List (List UInt8))(v:List UInt8):Y E0 (.call 14 [rq c hs [] is bs,.sl .u8 v] [])=some (.ret (rq c hs [(0,[],v)] is bs) []):=by
 refine tq ?_
 with_reducible rfl
theorem AAQ(hs:List Int)(is:List Int)(bs:List (List UInt8))(v:Int):Y E0 (.call 36 [rq c hs [] is bs,.i v] [])=some (.ret (rq c hs [(v,[],[])] is bs) []):=by
 refine tq ?_
 with_reducible rfl
theorem MK(k a t:Int)(p u d:List UInt8):Y E0 (.call 10 [.i h,.i k,.i a,.i t,.sl .u8 p,.sl .u8 u,.sl .u8 d] [])=some (.ret (rq 9 [h] [(0,[],[])] [k,a,t] [p,u,d]) []):=by
 refine tq ?_
 refine tq ?_
 with_reducible rfl
theorem A4W:Y E0 (.call 17 [.i k] [])=some (.ret (rq 16 [] [] [k] []) []):=by
 refine tq ?_
 with_reducible rfl
theorem uS(s:Int):Y E0 (.call 35 [.i s,.i 1,.agg [.i 0,.i 1],.i 0,.i 0,.sl (.sl .u8) [[]]] [])=some (.ret (rq 17 [] [] [s,1,0,1,0,0] [[]]) []):=by
 refine tq ?_
 with_reducible rfl
theorem AAR:Y E0 (.call 15 [.i c,.i h,.sl (.sl .u8) []] [])=some (.ret (rq c [h] [] [] []) []):=by
 refine tq ?_
 with_reducible rfl
end Go.Proofs.YtanagnimhaemgaaGreatDoor
