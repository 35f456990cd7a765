/-
  Own texts, laid together for this claim: contracts of functions of the program and its references, used by the statements of this seat.
-/
import Derived.Test.YtanagnimhaemgaaGreatDoorKtac
import Derived.Test.YtanagnimhaemgaaGreatDoorKtad
import Derived.Test.YtanagnimhaemgaaGreatDoorKtaf
import Derived.Test.YtanagnimhaemgaaGreatDoorKtag
import Derived.Test.YtanagnimhaemgaaGreatDoorKtaj
import Derived.Test.YtanagnimhaemgaaGreatDoorKtan
import Derived.Test.YtanagnimhaemgaaGreatDoorKtap
set_option linter.all false
set_option maxHeartbeats 40000000
set_option maxRecDepth 100000
namespace Go.Proofs.YtanagnimhaemgaaGreatDoor
open Go Go.Ax Go.Eng
section
attribute [local irreducible] Bl CS CU CJ Bh Ak CV Du EN E5 EH Be BN CE Bz and' CG CO BC Ag Ar BF BG AY Aa AP AX CW Dv CX DT C9 BJ BD BA BB Au AQ Az Ac Aw Ah CY BL Bi BR BI CB CZ CP fits Cb CQ A8 AA AZ
attribute [local irreducible] JE I9 Ip EG nameB Dz wkey YN pV ET
theorem Qa(k h:Int)(a s d:List UInt8)(ha:a.length<=100000)(hs:s.length<=100000)(hd:d.length<=100000):Y E0 (.call 300 [.i k,.i h,.agg [.sl .u8 a,.sl .u8 s,.sl .u8 d]] [])=some (.ret (.sl .u8 (Dz k h ⟨a,s,d⟩)) []):=by
 refine tq ?_
 rcases I7 k 2 with hc0|hc0
 ·subst hc0;refine tq ?_;rw[A36 _ _ Am];refine tq ?_
  (unfold Dz;(repeat(first|rw[if_pos zaa]|rw[if_neg zaa]));try rfl)
 refine tq ?_;rw[FB _ _ Am Am];refine tq ?_
 (unfold Dz;(repeat(first|rw[if_pos zaa]|rw[if_neg zaa]));try rfl)
theorem KQ(e:Int):Y E0 (.call 299 [.i e] [])=some (.ret (.tup [.agg (A5H Zk),.agg (A5A XI),.i e]) []):=by
 refine tq ?_
 rfl
theorem A0a(secret:List UInt8)(k a h:Int)(o u auth data:List UInt8)(hs:secret.length<=100000):Y E0 (.call 248 [.sl .u8 secret,.agg [.i k,.i a,.i h,.sl .u8 o,.sl .u8 u],.sl .u8 auth,.sl .u8 data] [])=some (.ret (.tup [.agg (A5H (Cj secret ⟨k,a,h,o,u⟩ auth data).1),.agg (A5A (Cj secret ⟨k,a,h,o,u⟩ auth data).2.1),.i (Cj secret ⟨k,a,h,o,u⟩ auth data).2.2]) []):=by
 have hu:=pW k
 have hd:=Eb (key:=secret) (label:=JP) (ctx:=[]) (n:=32) zaa
 have hE:BR (uniq k) (0:UInt8)=List.replicate (uniq k).toNat 0:=by rw[FO]
 by_cases hk:k=2
 ·subst hk
  have hr:BR 17 (0:UInt8)=List.replicate (uniq 2).toNat 0:=by rw[FO];rfl
  rw[AU]
  conv=>lhs;whnf
  rw[QV zaa]
  conv=>lhs;whnf
  rw[Ep zaa]
  conv=>lhs;whnf
  rw[Ep zaa]
  conv=>lhs;whnf
  rw[hr];refine tq ?_;rw[YV ..];refine tq ?_
  rcases Dc (EG {kind:=2,attr:=a,height:=h,policy:=o,unique:=List.replicate (uniq 2).toNat 0}) 0 with hc0|hc0
  ·refine tq ?_;rw[KQ _];refine tq ?_
   (unfold Cj;dsimp only;(repeat(first|rw[if_pos zaq]|rw[if_neg zaq]));try rfl)
  refine tq ?_
  rcases DU 32 (↑auth.length) with hc1|hc1
  ·refine tq ?_;rw[KQ _];refine tq ?_
   (unfold Cj;dsimp only;(repeat(first|rw[if_pos zaq]|rw[if_neg zaq]));try rfl)
  refine tq ?_
  rcases DU 128 (↑data.length) with hc2|hc2
  ·refine tq ?_;rw[KQ _];refine tq ?_
   (unfold Cj;dsimp only;(repeat(first|rw[if_pos zaq]|rw[if_neg zaq]));try rfl)
  refine tq ?_
  rcases DU 0 (↑data.length) with hc3|hc3
  ·refine tq ?_;rw[KQ _];refine tq ?_
   (unfold Cj;dsimp only;(repeat(first|rw[if_pos zaq]|rw[if_neg zaq]));try rfl)
  refine tq ?_;rw[show strOf {data := #[115,101,101,100]}=JP from rfl,FV _ _ _ _ zaa zac zan];refine tq ?_;rw[Qa _ _ _ _ _ Am Am Am];refine tq ?_
  (unfold Cj;dsimp only;(repeat(first|rw[if_pos zaq]|rw[if_neg zaq]));try rfl)
 ·have hr:BR 32 (0:UInt8)=List.replicate (uniq k).toNat 0:=by rw[FO,uniq,if_neg hk]
  rw[AU]
  conv=>lhs;whnf
  rw[hr];refine tq ?_;rw[YV ..];refine tq ?_
  rcases Dc (EG {kind:=k,attr:=a,height:=h,policy:=o,unique:=List.replicate (uniq k).toNat 0}) 0 with hc0|hc0
  ·refine tq ?_;rw[KQ _];refine tq ?_
   (unfold Cj;dsimp only;(repeat(first|rw[if_pos zaq]|rw[if_neg zaq]));try rfl)
  refine tq ?_
  rcases DU 32 (↑auth.length) with hc1|hc1
  ·refine tq ?_;rw[KQ _];refine tq ?_
   (unfold Cj;dsimp only;(repeat(first|rw[if_pos zaq]|rw[if_neg zaq]));try rfl)
  refine tq ?_
  rcases DU 128 (↑data.length) with hc2|hc2
  ·refine tq ?_;rw[KQ _];refine tq ?_
   (unfold Cj;dsimp only;(repeat(first|rw[if_pos zaq]|rw[if_neg zaq]));try rfl)
  refine tq ?_
  rcases DU 0 (↑data.length) with hc3|hc3
  ·refine tq ?_
   rcases Dc k 3 with hc4|hc4
   ·refine tq ?_;rw[KQ _];refine tq ?_
    (unfold Cj;dsimp only;(repeat(first|rw[if_pos zaq]|rw[if_neg zaq]));try rfl)
   subst hc4;refine tq ?_;rw[show strOf {data := #[115,101,101,100]}=JP from rfl,FV _ _ _ _ zaa zac zan];refine tq ?_;rw[Qa _ _ _ _ _ Am Am Am];refine tq ?_
   (unfold Cj;dsimp only;(repeat(first|rw[if_pos zaq]|rw[if_neg zaq]));try rfl)
  refine tq ?_;rw[show strOf {data := #[115,101,101,100]}=JP from rfl,FV _ _ _ _ zaa zac zan];refine tq ?_;rw[Qa _ _ _ _ _ Am Am Am];refine tq ?_
  (unfold Cj;dsimp only;(repeat(first|rw[if_pos zaq]|rw[if_neg zaq]));try rfl)
end
section
attribute [local irreducible] Bl CS CU CJ Bh Ak CV Du EN E5 EH Be BN CE Bz and' CG CO BC Ag Ar BF BG AY Aa AP AX CW Dv CX DT C9 BJ BD BA BB Au AQ Az Ac Aw Ah CY BL Bi BR BI CB CZ CP fits Cb CQ A8 AA AZ
theorem fK(x:UInt8):Y E0 (.call 210 [.i 32,.u8 x] [])=some (.ret (.sl .u8 (List.replicate 32 x)) []):=by
 refine tq ?_
 refine tq ?_
 with_reducible rfl
theorem b20:Ak .and (BN 2 (BJ 0).toNat) 1=0:=by
 rw[show(BJ 0).toNat=0 from by rw[J5];rfl,J7 zaa];exact(Jq 1 zac _).trans zan
theorem b21:Ak .and (BN 2 (BJ 1).toNat) 1=1:=by
 rw[show(BJ 1).toNat=1 from by rw[J5];rfl,J7 zaa];exact(Jq 1 zac _).trans zan
theorem qO:Y E0 (.call 171 [.i 1] [])=some (.ret (.i 32) []):=by
 refine tq ?_
 with_reducible rfl
theorem A0e:Y E0 (.loop 170 1 0 3 [(0,.i 2),(2,.pa 0 0),(3,.pa 1 0),(4,.i 0),(5,.nm 2),(6,.i 0),(12,.i 0)] [(0,some (.var [.nil,.i 0])),(1,some (.var [.nil,.i 0])),(2,some (.row 22 (.sl .u8) []))])=some (.fin (.exit 2) 3 [(0,.i 2),(2,.pa 0 0),(3,.pa 1 0),(5,.nm 2),(12,.i 0)] [(0,some (.var [.nil,.i 0])),(1,some (.var [.nil,.i 0])),(2,some (.row 22 (.sl .u8) []))]):=by
 have b:=b20
 rw[AU];conv=>lhs;whnf
 refine tq ?_
 with_reducible rfl
theorem fM:∀(k j:Nat),j+k=16->Y E0 (.loop 170 1 0 5 [(0,.i 2),(2,.pa 0 0),(3,.pa 1 0),(4,.i 1),(5,.nm 2),(6,.i (j:Int)),(12,.i 1)] [(0,some (.var [.nil,.i 0])),(1,some (.var [.nm 3,.i 0])),(2,some (.row 22 (.sl .u8) (Je 32 j))),(3,some (.rowA 24 1 1 [.nm 4])),(4,some (.row 22 (.sl .u8) []))])=some (.fin (.exit 2) 5 [(0,.i 2),(2,.pa 0 0),(3,.pa 1 0),(5,.nm 2),(12,.i 1)] [(0,some (.var [.nil,.i 0])),(1,some (.var [.nm 3,.i 0])),(2,some (.row 22 (.sl .u8) (Je 32 16))),(3,some (.rowA 24 1 1 [.nm 4])),(4,some (.row 22 (.sl .u8) []))])
 | 0,j,hj=>by
  have b:=b21
  obtain rfl:j=16:=zaa
  rw[AU];conv=>lhs;whnf
  refine tq ?_
  with_reducible rfl
 | k+1,j,hj=>by
  have b:=b21
  have ih:=fM k (j+1) zaa
  have e:Je 32 (j+1)=BI (Je 32 j) [List.replicate 32 (if(12:Int)<=(j:Int) then(255:UInt8) else 0)]:=(WZ 1 32 j rfl).symm
  rw[show((j+1:Nat):Int)=(j:Int)+1 from by omega,e] at ih
  by_cases hc:(12:Int)<=(j:Int)
  ·rw[if_pos hc] at ih
   rw[AU];conv=>lhs;whnf
   rw[Dn zaa]
   conv=>lhs;whnf
   rw[b]
   refine tq ?_
   rw[qO]
   refine tq ?_
   rw[fK _]
   refine tq ?_
   exact ih
  ·rw[if_neg hc] at ih
   rw[AU];conv=>lhs;whnf
   rw[Dn zaa]
   conv=>lhs;whnf
   rw[b]
   refine tq ?_
   rw[qO]
   refine tq ?_
   rw[fK _]
   refine tq ?_
   exact ih
theorem A38:Y E0 (.loop 170 0 0 2 [(0,.i 2),(2,.pa 0 0),(3,.pa 1 0),(12,.i 0)] [(0,some (.var [.nil,.i 0])),(1,some (.var [.nil,.i 0]))])=some (.fin (.exit 0) 5 [(2,.pa 0 0),(3,.pa 1 0)] [(0,some (.var [.nil,.i 0])),(1,some (.var [.nm 2,.i 0])),(2,some (.rowA 24 1 2 [.nm 3,.nm 4])),(3,some (.row 22 (.sl .u8) [])),(4,some (.row 22 (.sl .u8) (Je 32 16)))]):=by
 have q0:=A0e
 have q1:=fM 16 0 rfl
 rw[show((0:Nat):Int)=0 from rfl,show Je 32 0=[] from rfl] at q1
 refine tq ?_
 rw[q0]
 refine tq ?_
 refine tq ?_
 rw[show(0:Int)+1=1 from rfl,q1]
 refine tq ?_
 exact tq rfl
theorem A0f:Y E0 (.call 170 [.i 2] [])=some (.ret (.agg [.sl (.sl (.sl .u8)) (BZ 2),.i 0]) []):=by
 have e3:Ak .and 2 3=2:=Jq 2 zac 2
 rw[AU]
 conv=>lhs;whnf
 rw[e3]
 refine tq ?_
 rw[A38]
 refine tq ?_
 rfl
end
section
attribute [local irreducible] Bl CS CU CJ Bh Ak CV Du EN E5 EH Be BN CE Bz and' CG CO BC Ag Ar BF BG AY Aa AP AX CW Dv CX DT C9 BJ BD BA BB Au AQ Az Ac Aw Ah CY BL Bi BR BI CB CZ CP fits Cb CQ A8 AA AZ
attribute [local irreducible] BK Dl Cj nameB ET Dz Af Ef
variable (sd au:List (List UInt8))(en:List UInt8)(ac re rs ck:Int)(od:Bool)(sb:List (List (List UInt8)))(su mc:Int)(ix:List (El AB))(l1 l2 l3 l4 l5 l6:Int)(ks:List (El BP))(st sp:Bool)(rb:List (List (List UInt8)))(ru vc:Int)(sf:Bool)(dr:Int)(ss:List (El sesT))(ob:List (El objT))(rl wl:List Int)
theorem Sv(e:Int):Y E0 (.call 223 [(sX sd au en ac re rs ck od sb su mc ix l1 l2 l3 l4 l5 l6 ks st sp rb ru vc sf dr ss ob rl wl),.i e] [])=some (.ret (.tup [(sX sd au en ac re rs ck od sb su mc ix l1 l2 l3 l4 l5 l6 ks st sp rb ru vc sf dr ss ob rl wl),.agg [.i e,.sl .i64 [],.sl (.sl .u8) [],.sl (.sl .u8) []]]) []):=by
 exact tq rfl
theorem NW(c h:Int)(hs:List Int)(az:List (El AL))(is:List Int)(bs:List (List UInt8))(hl:hs.length<=1000):Y E0 (.call 245 [.agg [.i c,.sl .i64 (h::hs),.sl AL az,.sl .i64 is,.sl (.sl .u8) bs]] [])=some (.ret (.i h) []):=by
 exact tq rfl
theorem A1C(c x:Int)(hs:List Int)(az:List (El AL))(is:List Int)(bs:List (List UInt8))(hl:is.length<=1000):Y E0 (.call 222 [.agg [.i c,.sl .i64 hs,.sl AL az,.sl .i64 (x::is),.sl (.sl .u8) bs],.i 0] [])=some (.ret (.i x) []):=by
 exact tq rfl
theorem A1D(c x y:Int)(hs:List Int)(az:List (El AL))(is:List Int)(bs:List (List UInt8))(hl:is.length<=1000):Y E0 (.call 222 [.agg [.i c,.sl .i64 hs,.sl AL az,.sl .i64 (x::y::is),.sl (.sl .u8) bs],.i 1] [])=some (.ret (.i y) []):=by
 exact tq rfl
theorem A1E(c x y z:Int)(hs:List Int)(az:List (El AL))(is:List Int)(bs:List (List UInt8))(hl:is.length<=1000):Y E0 (.call 222 [.agg [.i c,.sl .i64 hs,.sl AL az,.sl .i64 (x::y::z::is),.sl (.sl .u8) bs],.i 2] [])=some (.ret (.i z) []):=by
 exact tq rfl
theorem vN(c:Int)(x:List UInt8)(hs:List Int)(az:List (El AL))(is:List Int)(bs:List (List UInt8))(hl:bs.length<=1000):Y E0 (.call 247 [.agg [.i c,.sl .i64 hs,.sl AL az,.sl .i64 is,.sl (.sl .u8) (x::bs)],.i 0] [])=some (.ret (.sl .u8 x) []):=by
 exact tq rfl
theorem UD(c:Int)(x y:List UInt8)(hs:List Int)(az:List (El AL))(is:List Int)(bs:List (List UInt8))(hl:bs.length<=1000):Y E0 (.call 247 [.agg [.i c,.sl .i64 hs,.sl AL az,.sl .i64 is,.sl (.sl .u8) (x::y::bs)],.i 1] [])=some (.ret (.sl .u8 y) []):=by
 exact tq rfl
theorem UE(c:Int)(x y z:List UInt8)(hs:List Int)(az:List (El AL))(is:List Int)(bs:List (List UInt8))(hl:bs.length<=1000):Y E0 (.call 247 [.agg [.i c,.sl .i64 hs,.sl AL az,.sl .i64 is,.sl (.sl .u8) (x::y::z::bs)],.i 2] [])=some (.ret (.sl .u8 z) []):=by
 exact tq rfl
theorem UF(c k a t:Int)(hs:List Int)(az:List (El AL))(o:List UInt8)(bs:List (List UInt8))(hl:bs.length<=1000):Y E0 (.call 246 [.agg [.i c,.sl .i64 hs,.sl AL az,.sl .i64 [k,a,t],.sl (.sl .u8) (o::bs)]] [])=some (.ret (.agg [.i k,.i a,.i t,.sl .u8 o,.sl .u8 []]) []):=by
 refine tq ?_;rw[A1C (hl:=Am) ..];refine tq ?_;rw[A1D (hl:=Am) ..];refine tq ?_;rw[A1E (hl:=Am) ..];refine tq ?_;rw[vN (hl:=Am) ..];exact tq rfl
theorem QF(sd au:List (List UInt8))(en:List UInt8)(ac re rs ck:Int)(od:Bool)(sb:List (List (List UInt8)))(su mc:Int)(ix:List (El AB))(l1 l2 l3 l4 l5 l6:Int)(ks:List (El BP))(st sp:Bool)(rb:List (List (List UInt8)))(ru vc:Int)(sf:Bool)(dr:Int)(ss:List (El sesT))(ob:List (El objT))(rl wl:List Int)(p1 p2 p3:Int)(p4 p5 s1 s2 s3:List UInt8)(hr:Int)(hl:ob.length<=1000):∀(n j:Nat),j+n=ob.length->Fb ob=j+Fb (ob.drop j)->Y E0 (.loop 249 0 0 3 [(2,.pa 0 0),(3,.pa 1 0),(4,.pa 2 0),(11,.sl objT ob),(12,.i (Aw ob)),(13,.i (j:Int))] [(0,some (.var (sC sd au en ac re rs ck od sb su mc ix l1 l2 l3 l4 l5 l6 ks st sp rb ru vc sf dr ss ob rl wl))),(1,some (.var [.i p1,.i p2,.i p3,.sl .u8 p4,.sl .u8 p5,.sl .u8 s1,.sl .u8 s2,.sl .u8 s3,.i hr])),(2,some (.var [.nil,.nil,.nil,.i 0,.i 0,.i 0,.i 0,.b false,.nil,.i 0,.i 0,.nil,.i 0,.i 0,.i 0,.i 0,.i 0,.i 0,.nil,.b false,.b false,.nil,.i 0,.i 0,.b false,.i 0,.nil,.nil,.nil,.nil]))]) =
  if Fb ob<ob.length then some (.fin .ret 3 [(2,.pa 0 0),(4,.pa 1 0),(5,.i (512+(Fb ob:Int))),(6,.i 0)] [(0,some (.var [.sl (.sl .u8) sd,.sl (.sl .u8) au,.sl .u8 en,.i ac,.i re,.i rs,.i ck,.b od,.sl (.sl (.sl .u8)) sb,.i su,.i mc,.sl AB ix,.i l1,.i l2,.i l3,.i l4,.i l5,.i l6,.sl BP ks,.b st,.b sp,.sl (.sl (.sl .u8)) rb,.i ru,.i vc,.b sf,.i dr,.sl sesT ss,.nm 2,.sl .i64 rl,.sl .i64 wl])),(1,some (.var [.sl (.sl .u8) sd,.sl (.sl .u8) au,.sl .u8 en,.i ac,.i re,.i rs,.i ck,.b od,.sl (.sl (.sl .u8)) sb,.i su,.i mc,.sl AB ix,.i l1,.i l2,.i l3,.i l4,.i l5,.i l6,.sl BP ks,.b st,.b sp,.sl (.sl (.sl .u8)) rb,.i ru,.i vc,.b sf,.i dr,.sl sesT ss,.nm 2,.sl .i64 rl,.sl .i64 wl])),(2,some (.row 99 objT (ob.set (Fb ob) ((p1,p2,p3,p4,p5),(s1,s2,s3),hr))))])
  else some (.fin (.exit 0) 2 [(2,.pa 0 0),(4,.pa 1 0)] [(0,some (.var (sC sd au en ac re rs ck od sb su mc ix l1 l2 l3 l4 l5 l6 ks st sp rb ru vc sf dr ss ob rl wl))),(1,some (.var [.nil,.nil,.nil,.i 0,.i 0,.i 0,.i 0,.b false,.nil,.i 0,.i 0,.nil,.i 0,.i 0,.i 0,.i 0,.i 0,.i 0,.nil,.b false,.b false,.nil,.i 0,.i 0,.b false,.i 0,.nil,.nil,.nil,.nil]))])
 | 0,j,hj,hf=>by
  rw[if_neg (by rw[List.drop_eq_nil_of_le zaa,Fb] at hf;omega)]
  exact tq rfl
 | n+1,j,hj,hf=>by
  have hd:=List.drop_eq_getElem_cons (l:=ob) (i:=j) zaa
  rw[hd] at hf
  have hg:Ah ob (j:Int)=some (ob[j]'zaa):=O4 zaa
  generalize ob[j]'zaa=x at *
  obtain⟨⟨k,a,t,o,u⟩,⟨y1,y2,y3⟩,h⟩:=x
  by_cases hk:k=0
  ·subst hk;rw[Fb,if_pos rfl] at hf;rw[if_pos zaa,show Fb ob=j from hf]
   have hs:∀ x,BL ob (j:Int) x=ob.set j x:=fun x=>by rw[EU];simp
   refine to ?_;rw[hg];refine tq ?_;rw[A4r _ Am];refine to ?_;rw[hg];refine tq ?_
   (rw[hs])
  ·have ih:=QF sd au en ac re rs ck od sb su mc ix l1 l2 l3 l4 l5 l6 ks st sp rb ru vc sf dr ss ob rl wl p1 p2 p3 p4 p5 s1 s2 s3 hr hl n (j+1) zaa (by rw[hf,Fb,if_neg hk];omega)
   rw[show((j+1:Nat):Int)=(j:Int)+1 from by omega] at ih
   refine to ?_;rw[hg];refine tq ?_;exact ih
theorem jD(p1 p2 p3:Int)(p4 p5 s1 s2 s3:List UInt8)(hr:Int)(hl:ob.length<=1000):Y E0 (.call 249 [(sX sd au en ac re rs ck od sb su mc ix l1 l2 l3 l4 l5 l6 ks st sp rb ru vc sf dr ss ob rl wl),.agg [.i p1,.i p2,.i p3,.sl .u8 p4,.sl .u8 p5,.sl .u8 s1,.sl .u8 s2,.sl .u8 s3,.i hr]] []) =
  if Fb ob<ob.length then some (.ret (.tup [(sX sd au en ac re rs ck od sb su mc ix l1 l2 l3 l4 l5 l6 ks st sp rb ru vc sf dr ss (ob.set (Fb ob) ((p1,p2,p3,p4,p5),(s1,s2,s3),hr)) rl wl),.i (512+(Fb ob:Int)),.i 0]) []) else some (.ret (.tup [(sX sd au en ac re rs ck od sb su mc ix l1 l2 l3 l4 l5 l6 ks st sp rb ru vc sf dr ss ob rl wl),.i 0,.i 25]) []):=by
 have hq:=QF sd au en ac re rs ck od sb su mc ix l1 l2 l3 l4 l5 l6 ks st sp rb ru vc sf dr ss ob rl wl p1 p2 p3 p4 p5 s1 s2 s3 hr hl ob.length 0 zaa zan
 rw[show((0:Nat):Int)=0 from rfl] at hq
 by_cases hc:Fb ob<ob.length
 ·rw[if_pos hc] at hq ⊢;refine tq ?_;rw[hq];exact tq rfl
 ·rw[if_neg hc] at hq ⊢;refine tq ?_;rw[hq];exact tq rfl
theorem Pv(h:Int)(p1 p2 p3:Int)(p4 p5 s1 s2 s3:List UInt8)(hr:Int)(hl:ob.length<=1000)(hx:EX ob h=some ((p1,p2,p3,p4,p5),(s1,s2,s3),hr)):Y E0 (.call 182 [(sX sd au en ac re rs ck od sb su mc ix l1 l2 l3 l4 l5 l6 ks st sp rb ru vc sf dr ss ob rl wl),.i h] [])=some (.ret (.tup [.agg [.i p1,.i p2,.i p3,.sl .u8 p4,.sl .u8 p5,.sl .u8 s1,.sl .u8 s2,.sl .u8 s3,.i hr],.i 0]) []):=by
 have hh:512<=h:=by
  unfold EX at hx;split at hx
  ·assumption
  ·cases hx
 rw[EX,if_pos hh] at hx
 split at hx
 ·rename_i x hq
  split at hx
  ·cases hx
  ·rename_i hk
   obtain rfl:=Option.some.inj hx
   have hlt:=(List.getElem?_eq_some_iff.1 hq).1
   have hg:Ah ob (h-512)=some ((p1,p2,p3,p4,p5),(s1,s2,s3),hr):=by rw[KR];unfold lget0;rw[if_pos zaa];exact hq
   simp only at hk
   refine tq ?_;rw[hg];refine tq ?_;rw[hg]
   conv=>lhs;whnf
   try dsimp -iota -beta -eta -zeta only
   rw[AU]
   conv=>lhs;whnf
 ·cases hx
theorem Yf(h:Int)(hl:ob.length<=1000)(hh : -1000000<=h/\h<=1000000)(hx:EX ob h=none):Y E0 (.call 182 [(sX sd au en ac re rs ck od sb su mc ix l1 l2 l3 l4 l5 l6 ks st sp rb ru vc sf dr ss ob rl wl),.i h] [])=some (.ret (.tup [.agg [.i 0,.i 0,.i 0,.sl .u8 [],.sl .u8 [],.sl .u8 [],.sl .u8 [],.sl .u8 [],.i 0],.i 7]) []):=by
 by_cases h5:512<=h
 ·by_cases hb:h-512<ob.length
  ·rw[EX,if_pos h5,List.getElem?_eq_getElem zaa] at hx
   have hg:Ah ob (h-512)=some (ob[(h-512).toNat]'zaa):=DZ zaa
   simp only at hx
   generalize ob[(h-512).toNat]'zaa=x at *
   obtain⟨⟨k,a,t,o,u⟩,⟨y1,y2,y3⟩,hi⟩:=x
   split at hx
   ·rename_i hk
    simp only at hk
    subst hk;refine tq ?_;rw[hg];exact tq rfl
   ·cases hx
  ·exact tq rfl
 ·exact tq rfl
theorem A1F(c h k a t:Int)(hs:List Int)(az:List (El AL))(o u d:List UInt8)(hl:ob.length<=1000)(hsd:sd.length<=1000)(hsl:∀ l∈sd,l.length<=1000)(hhs:hs.length<=100)(ho:o.length<=50000)(hd:d.length<=50000):
  Y E0 (.call 196 [(sX sd au en ac re rs ck od sb su mc ix l1 l2 l3 l4 l5 l6 ks st sp rb ru vc sf dr ss ob rl wl),.agg [.i c,.sl .i64 (h::hs),.sl AL az,.sl .i64 [k,a,t],.sl (.sl .u8) [o,u,d]]] [])=some (.ret (.tup [(sX sd au en ac re rs ck od sb su mc ix l1 l2 l3 l4 l5 l6 ks st sp rb ru vc sf dr ss ((Ec sd ob h k a t o u d).1) rl wl),.agg (A7z (Ec sd ob h k a t o u d).2)]) []):=by
 unfold Ec
 by_cases hc:0<=h/\h<sd.length
 ·rw[if_pos hc]
  have hg:Ah sd h=some (sd.getD h.toNat []):=by rw[DZ zaa];simp[List.getD,List.getElem?_eq_getElem (show h.toNat<sd.length by omega)]
  have hm:(sd.getD h.toNat []).length<=1000:=by
   have:=hsl (sd[h.toNat]'zaa) (List.getElem_mem _)
   simpa [List.getD,List.getElem?_eq_getElem (show h.toNat<sd.length by omega)] using this
  unfold Ef
  generalize sd.getD h.toNat []=seed at *
  have hlen:=A0G (secret:=BK seed Ug (Af 0 [[DT k,DT a,DT t],o,d]) 32) (auth:=u) (data:=d) (p:=⟨k,a,t,o,[]⟩)
  have hdl:=Eb (key:=seed) (label:=Ug) (ctx:=Af 0 [[DT k,DT a,DT t],o,d]) (n:=32) zaa
  have em:=A0a (BK seed Ug (Af 0 [[DT k,DT a,DT t],o,d]) 32) k a t o [] u d zaa
  generalize Cj (BK seed Ug (Af 0 [[DT k,DT a,DT t],o,d]) 32) ⟨k,a,t,o,[]⟩ u d=M at *
  obtain⟨⟨qk,qa,qt,qo,qu⟩,⟨qx,qy,qz⟩,e⟩:=M
  dsimp only[A5H,A5A] at *
  by_cases he:e=0
  ·subst he;rw[if_neg zan]
   unfold Ik
   by_cases hf:Fb ob<ob.length
   ·rw[if_pos hf];refine tq ?_;rw[NW (hl:=Am) ..];refine tq ?_;rw[UF (hl:=Am) ..];refine tq ?_;rw[UE (hl:=Am) ..];refine tq ?_;rw[Kt _ _ Am Am];refine tq ?_;rw[hg];refine tq ?_;rw[show strOf {data := #[112,114,105,109,97,114,121]}=Ug from rfl,FV _ _ _ _ zaa zac (by simp only[LL,Ci];omega)]
    refine tq ?_;rw[UD (hl:=Am) ..];refine tq ?_;rw[em];refine tq ?_;rw[jD _ _ _ _ _ _ _ _ _ _ _ _ _ _ _ _ _ _ _ _ _ _ _ _ _ _ _ _ _ _ _ _ _ _ _ _ _ _ _ hl,if_pos hf]
    conv=>lhs;whnf
    rw[AU]
    conv=>lhs;whnf
    rw[Jh zaa]
    conv=>lhs;whnf
    try dsimp -iota -beta -eta -zeta only
    rw[Aj];rw[qN _ _ _ _ _ Am Am];refine tq ?_;rw[fE _ _ _ _ _ Am Am];exact tq rfl
   ·rw[if_neg hf];refine tq ?_;rw[NW (hl:=Am) ..];refine tq ?_;rw[UF (hl:=Am) ..];refine tq ?_;rw[UE (hl:=Am) ..];refine tq ?_;rw[Kt _ _ Am Am];refine tq ?_;rw[hg];refine tq ?_;rw[show strOf {data := #[112,114,105,109,97,114,121]}=Ug from rfl,FV _ _ _ _ zaa zac (by simp only[LL,Ci];omega)]
    refine tq ?_;rw[UD (hl:=Am) ..];refine tq ?_;rw[em];refine tq ?_;rw[jD _ _ _ _ _ _ _ _ _ _ _ _ _ _ _ _ _ _ _ _ _ _ _ _ _ _ _ _ _ _ _ _ _ _ _ _ _ _ _ hl,if_neg hf]
    conv=>lhs;whnf
    rw[AU]
    conv=>lhs;whnf
    rw[Ko zaa]
    conv=>lhs;whnf
    try dsimp -iota -beta -eta -zeta only
    rw[Aj];rw[Sv ..];exact tq rfl
  ·rw[if_pos he];refine tq ?_;rw[NW (hl:=Am) ..];refine tq ?_;rw[UF (hl:=Am) ..];refine tq ?_;rw[UE (hl:=Am) ..];refine tq ?_;rw[Kt _ _ Am Am];refine tq ?_;rw[hg];refine tq ?_;rw[show strOf {data := #[112,114,105,109,97,114,121]}=Ug from rfl,FV _ _ _ _ zaa zac (by simp only[LL,Ci];omega)]
   refine tq ?_;rw[UD (hl:=Am) ..];refine tq ?_;rw[em];refine tq ?_;rw[Sv ..];exact tq rfl
 ·rw[if_neg hc];refine tq ?_;rw[NW (hl:=Am) ..];refine tq ?_
  rcases DU h 0 with hc0|hc0
  ·refine tq ?_;rw[Sv ..]
   conv=>lhs;whnf
  rw[Iw zaa]
  conv=>lhs;whnf
  rw[Fh (by(simp only[A7,D6,Ce,Ci,He,MM,Ad,BQ,BO,Gh,LL] at *<;>omega))]
  conv=>lhs;whnf
  try dsimp -iota -beta -eta -zeta only
  rw[Aj];rw[Sv ..];exact tq rfl
end
end Go.Proofs.YtanagnimhaemgaaGreatDoor
