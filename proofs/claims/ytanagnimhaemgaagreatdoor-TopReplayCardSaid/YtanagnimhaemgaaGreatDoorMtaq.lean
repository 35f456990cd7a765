/-
  Own texts, laid together for this claim: contracts of functions of the program and its references, used by the statements of this seat.
-/
import Derived.Test.YtanagnimhaemgaaGreatDoorMtac
import Derived.Test.YtanagnimhaemgaaGreatDoorMtad
import Derived.Test.YtanagnimhaemgaaGreatDoorMtaf
import Derived.Test.YtanagnimhaemgaaGreatDoorMtag
import Derived.Test.YtanagnimhaemgaaGreatDoorMtaj
import Derived.Test.YtanagnimhaemgaaGreatDoorMtan
import Derived.Test.YtanagnimhaemgaaGreatDoorMtap
set_option linter.all false
set_option maxHeartbeats 40000000
set_option maxRecDepth 100000
namespace Go.Proofs.YtanagnimhaemgaaGreatDoor
open Go Go.Ax Go.Eng
section
attribute [local irreducible] BL BM BN BO BP BJ BQ CX Cm CY CW Ba Bc BF BC and' BG Bd Aa Ac Ad Ae Af AL AO AP AQ BR D8 BU D5 Be Bf Ag Ah Ai Aj AB AZ AU Ar BA BV BH BB Au Aw BI Bg BX fits BZ BK A7 A8 AC
attribute [local irreducible] Gp Eo FY Tj nameB Dv wkey PW UX Dh
theorem ev_wunique(k h:Int)(a s d:List UInt8)(ha:a.length<=100000)(hs:s.length<=100000)(hd:d.length<=100000):Y E0 (.call 300 [.i k,.i h,.agg [.sl .u8 a,.sl .u8 s,.sl .u8 d]] [])=some (.ret (.sl .u8 (Dv k h ⟨a,s,d⟩)) []):=by
 refine tq ?_
 rcases ieq_c k 2 with hc0|hc0
 ·subst hc0;refine tq ?_;rw[ev_spub _ _ NE];refine tq ?_
  (unfold Dv;(repeat(first|rw[if_pos zf]|rw[if_neg zf]));try rfl)
 refine tq ?_;rw[ev_dig_hash _ _ NE NE];refine tq ?_
 (unfold Dv;(repeat(first|rw[if_pos zf]|rw[if_neg zf]));try rfl)
theorem ev_wfail(e:Int):Y E0 (.call 299 [.i e] [])=some (.ret (.tup [.agg (pubX YI),.agg (senX Vb),.i e]) []):=by
 refine tq ?_
 rfl
theorem ev_wmake(secret:List UInt8)(k a h:Int)(o u auth data:List UInt8)(hs:secret.length<=100000):Y E0 (.call 248 [.sl .u8 secret,.agg [.i k,.i a,.i h,.sl .u8 o,.sl .u8 u],.sl .u8 auth,.sl .u8 data] [])=some (.ret (.tup [.agg (pubX (CQ secret ⟨k,a,h,o,u⟩ auth data).1),.agg (senX (CQ secret ⟨k,a,h,o,u⟩ auth data).2.1),.i (CQ secret ⟨k,a,h,o,u⟩ auth data).2.2]) []):=by
 have hu:=uniq_bd k
 have hd:=OY (key:=secret) (label:=aH) (ctx:=[]) (n:=32) zf
 have hE:Au (uniq k) (0:UInt8)=List.replicate (uniq k).toNat 0:=by rw[QQ]
 by_cases hk:k=2
 ·subst hk
  have hr:Au 17 (0:UInt8)=List.replicate (uniq 2).toNat 0:=by rw[QQ];rfl
  rw[JB]
  conv=>lhs;whnf
  rw[bf zf]
  conv=>lhs;whnf
  rw[fD zf]
  conv=>lhs;whnf
  rw[fD zf]
  conv=>lhs;whnf
  rw[hr];refine tq ?_;rw[ev_acheck ..];refine tq ?_
  rcases ine_c (Tj {kind:=2,attr:=a,height:=h,policy:=o,unique:=List.replicate (uniq 2).toNat 0}) 0 with hc0|hc0
  ·refine tq ?_;rw[ev_wfail _];refine tq ?_
   (unfold CQ;dsimp only;(repeat(first|rw[if_pos (by first|assumption|omega)]|rw[if_neg (by first|assumption|omega)]));try rfl)
  refine tq ?_
  rcases ilt_c 32 (↑auth.length) with hc1|hc1
  ·refine tq ?_;rw[ev_wfail _];refine tq ?_
   (unfold CQ;dsimp only;(repeat(first|rw[if_pos (by first|assumption|omega)]|rw[if_neg (by first|assumption|omega)]));try rfl)
  refine tq ?_
  rcases ilt_c 128 (↑data.length) with hc2|hc2
  ·refine tq ?_;rw[ev_wfail _];refine tq ?_
   (unfold CQ;dsimp only;(repeat(first|rw[if_pos (by first|assumption|omega)]|rw[if_neg (by first|assumption|omega)]));try rfl)
  refine tq ?_
  rcases ilt_c 0 (↑data.length) with hc3|hc3
  ·refine tq ?_;rw[ev_wfail _];refine tq ?_
   (unfold CQ;dsimp only;(repeat(first|rw[if_pos (by first|assumption|omega)]|rw[if_neg (by first|assumption|omega)]));try rfl)
  refine tq ?_;rw[show strOf {data := #[115,101,101,100]}=aH from rfl,ev_derive _ _ _ _ zf zh zB];refine tq ?_;rw[ev_wunique _ _ _ _ _ NE NE NE];refine tq ?_
  (unfold CQ;dsimp only;(repeat(first|rw[if_pos (by first|assumption|omega)]|rw[if_neg (by first|assumption|omega)]));try rfl)
 ·have hr:Au 32 (0:UInt8)=List.replicate (uniq k).toNat 0:=by rw[QQ,uniq,if_neg hk]
  rw[JB]
  conv=>lhs;whnf
  rw[hr];refine tq ?_;rw[ev_acheck ..];refine tq ?_
  rcases ine_c (Tj {kind:=k,attr:=a,height:=h,policy:=o,unique:=List.replicate (uniq k).toNat 0}) 0 with hc0|hc0
  ·refine tq ?_;rw[ev_wfail _];refine tq ?_
   (unfold CQ;dsimp only;(repeat(first|rw[if_pos (by first|assumption|omega)]|rw[if_neg (by first|assumption|omega)]));try rfl)
  refine tq ?_
  rcases ilt_c 32 (↑auth.length) with hc1|hc1
  ·refine tq ?_;rw[ev_wfail _];refine tq ?_
   (unfold CQ;dsimp only;(repeat(first|rw[if_pos (by first|assumption|omega)]|rw[if_neg (by first|assumption|omega)]));try rfl)
  refine tq ?_
  rcases ilt_c 128 (↑data.length) with hc2|hc2
  ·refine tq ?_;rw[ev_wfail _];refine tq ?_
   (unfold CQ;dsimp only;(repeat(first|rw[if_pos (by first|assumption|omega)]|rw[if_neg (by first|assumption|omega)]));try rfl)
  refine tq ?_
  rcases ilt_c 0 (↑data.length) with hc3|hc3
  ·refine tq ?_
   rcases ine_c k 3 with hc4|hc4
   ·refine tq ?_;rw[ev_wfail _];refine tq ?_
    (unfold CQ;dsimp only;(repeat(first|rw[if_pos (by first|assumption|omega)]|rw[if_neg (by first|assumption|omega)]));try rfl)
   subst hc4;refine tq ?_;rw[show strOf {data := #[115,101,101,100]}=aH from rfl,ev_derive _ _ _ _ zf zh zB];refine tq ?_;rw[ev_wunique _ _ _ _ _ NE NE NE];refine tq ?_
   (unfold CQ;dsimp only;(repeat(first|rw[if_pos (by first|assumption|omega)]|rw[if_neg (by first|assumption|omega)]));try rfl)
  refine tq ?_;rw[show strOf {data := #[115,101,101,100]}=aH from rfl,ev_derive _ _ _ _ zf zh zB];refine tq ?_;rw[ev_wunique _ _ _ _ _ NE NE NE];refine tq ?_
  (unfold CQ;dsimp only;(repeat(first|rw[if_pos (by first|assumption|omega)]|rw[if_neg (by first|assumption|omega)]));try rfl)
end
section
attribute [local irreducible] BL BM BN BO BP BJ BQ CX Cm CY CW Ba Bc BF BC and' BG Bd Aa Ac Ad Ae Af AL AO AP AQ BR D8 BU D5 Be Bf Ag Ah Ai Aj AB AZ AU Ar BA BV BH BB Au Aw BI Bg BX fits BZ BK A7 A8 AC
theorem ev_gfill(x:UInt8):Y E0 (.call 210 [.i 32,.u8 x] [])=some (.ret (.sl .u8 (List.replicate 32 x)) []):=by
 refine tq ?_
 refine tq ?_
 with_reducible rfl
theorem b20:BJ .and (Bc 2 (Bf 0).toNat) 1=0:=by
 rw[show(Bf 0).toNat=0 from by rw[iu64_eq];rfl,ishr_eq zf];exact(iand_mask 1 zh _).trans zB
theorem b21:BJ .and (Bc 2 (Bf 1).toNat) 1=1:=by
 rw[show(Bf 1).toNat=1 from by rw[iu64_eq];rfl,ishr_eq zf];exact(iand_mask 1 zh _).trans zB
theorem ev_dsz1:Y E0 (.call 171 [.i 1] [])=some (.ret (.i 32) []):=by
 refine tq ?_
 with_reducible rfl
theorem ev_pn_i0:Y E0 (.loop 170 1 0 3 [(0,.i 2),(2,.pa 0 0),(3,.pa 1 0),(4,.i 0),(5,.nm 2),(6,.i 0),(12,.i 0)] [(0,some (.var [.nil,.i 0])),(1,some (.var [.nil,.i 0])),(2,some (.row 22 (.sl .u8) []))])=some (.fin (.exit 2) 3 [(0,.i 2),(2,.pa 0 0),(3,.pa 1 0),(5,.nm 2),(12,.i 0)] [(0,some (.var [.nil,.i 0])),(1,some (.var [.nil,.i 0])),(2,some (.row 22 (.sl .u8) []))]):=by
 have b:=b20
 rw[JB];conv=>lhs;whnf
 refine tq ?_
 with_reducible rfl
theorem ev_pn_i1:∀(k j:Nat),j+k=16->Y E0 (.loop 170 1 0 5 [(0,.i 2),(2,.pa 0 0),(3,.pa 1 0),(4,.i 1),(5,.nm 2),(6,.i (j:Int)),(12,.i 1)] [(0,some (.var [.nil,.i 0])),(1,some (.var [.nm 3,.i 0])),(2,some (.row 22 (.sl .u8) (aJ 32 j))),(3,some (.rowA 24 1 1 [.nm 4])),(4,some (.row 22 (.sl .u8) []))])=some (.fin (.exit 2) 5 [(0,.i 2),(2,.pa 0 0),(3,.pa 1 0),(5,.nm 2),(12,.i 1)] [(0,some (.var [.nil,.i 0])),(1,some (.var [.nm 3,.i 0])),(2,some (.row 22 (.sl .u8) (aJ 32 16))),(3,some (.rowA 24 1 1 [.nm 4])),(4,some (.row 22 (.sl .u8) []))])
 | 0,j,hj=>by
  have b:=b21
  obtain rfl:j=16:=zf
  rw[JB];conv=>lhs;whnf
  refine tq ?_
  with_reducible rfl
 | k+1,j,hj=>by
  have b:=b21
  have ih:=ev_pn_i1 k (j+1) zf
  have e:aJ 32 (j+1)=Aw (aJ 32 j) [List.replicate 32 (if(12:Int)<=(j:Int) then(255:UInt8) else 0)]:=(bank_app 1 32 j rfl).symm
  rw[show((j+1:Nat):Int)=(j:Int)+1 from by omega,e] at ih
  by_cases hc:(12:Int)<=(j:Int)
  ·rw[if_pos hc] at ih
   rw[JB];conv=>lhs;whnf
   rw[fH zf]
   conv=>lhs;whnf
   rw[b]
   refine tq ?_
   rw[ev_dsz1]
   refine tq ?_
   rw[ev_gfill _]
   refine tq ?_
   exact ih
  ·rw[if_neg hc] at ih
   rw[JB];conv=>lhs;whnf
   rw[fH zf]
   conv=>lhs;whnf
   rw[b]
   refine tq ?_
   rw[ev_dsz1]
   refine tq ?_
   rw[ev_gfill _]
   refine tq ?_
   exact ih
theorem ev_pn_l:Y E0 (.loop 170 0 0 2 [(0,.i 2),(2,.pa 0 0),(3,.pa 1 0),(12,.i 0)] [(0,some (.var [.nil,.i 0])),(1,some (.var [.nil,.i 0]))])=some (.fin (.exit 0) 5 [(2,.pa 0 0),(3,.pa 1 0)] [(0,some (.var [.nil,.i 0])),(1,some (.var [.nm 2,.i 0])),(2,some (.rowA 24 1 2 [.nm 3,.nm 4])),(3,some (.row 22 (.sl .u8) [])),(4,some (.row 22 (.sl .u8) (aJ 32 16)))]):=by
 have q0:=ev_pn_i0
 have q1:=ev_pn_i1 16 0 rfl
 rw[show((0:Nat):Int)=0 from rfl,show aJ 32 0=[] from rfl] at q1
 refine tq ?_
 rw[q0]
 refine tq ?_
 refine tq ?_
 rw[show(0:Int)+1=1 from rfl,q1]
 refine tq ?_
 exact tq rfl
theorem ev_pnew2:Y E0 (.call 170 [.i 2] [])=some (.ret (.agg [.sl (.sl (.sl .u8)) (newRB 2),.i 0]) []):=by
 have e3:BJ .and 2 3=2:=iand_mask 2 zh 2
 rw[JB]
 conv=>lhs;whnf
 rw[e3]
 refine tq ?_
 rw[ev_pn_l]
 refine tq ?_
 rfl
end
section
attribute [local irreducible] BL BM BN BO BP BJ BQ CX Cm CY CW Ba Bc BF BC and' BG Bd Aa Ac Ad Ae Af AL AO AP AQ BR D8 BU D5 Be Bf Ag Ah Ai Aj AB AZ AU Ar BA BV BH BB Au Aw BI Bg BX fits BZ BK A7 A8 AC
attribute [local irreducible] D7 CG CQ nameB Dh Dv Bh Dp
variable (sd au:List (List UInt8))(en:List UInt8)(ac re rs ck:Int)(od:Bool)(sb:List (List (List UInt8)))(su mc:Int)(ix:List (El FU))(l1 l2 l3 l4 l5 l6:Int)(ks:List (El IJ))(st sp:Bool)(rb:List (List (List UInt8)))(ru vc:Int)(sf:Bool)(dr:Int)(ss:List (El Gi))(ob:List (El objT))(rl wl:List Int)
theorem ev_ofail(e:Int):Y E0 (.call 223 [(sX sd au en ac re rs ck od sb su mc ix l1 l2 l3 l4 l5 l6 ks st sp rb ru vc sf dr ss ob rl wl),.i e] [])=some (.ret (.tup [(sX sd au en ac re rs ck od sb su mc ix l1 l2 l3 l4 l5 l6 ks st sp rb ru vc sf dr ss ob rl wl),.agg [.i e,.sl .i64 [],.sl (.sl .u8) [],.sl (.sl .u8) []]]) []):=by
 exact tq rfl
theorem ev_ofirst(c h:Int)(hs:List Int)(az:List (El MR))(is:List Int)(bs:List (List UInt8))(hl:hs.length<=1000):Y E0 (.call 245 [.agg [.i c,.sl .i64 (h::hs),.sl MR az,.sl .i64 is,.sl (.sl .u8) bs]] [])=some (.ret (.i h) []):=by
 exact tq rfl
theorem ev_onum0(c x:Int)(hs:List Int)(az:List (El MR))(is:List Int)(bs:List (List UInt8))(hl:is.length<=1000):Y E0 (.call 222 [.agg [.i c,.sl .i64 hs,.sl MR az,.sl .i64 (x::is),.sl (.sl .u8) bs],.i 0] [])=some (.ret (.i x) []):=by
 exact tq rfl
theorem ev_onum1(c x y:Int)(hs:List Int)(az:List (El MR))(is:List Int)(bs:List (List UInt8))(hl:is.length<=1000):Y E0 (.call 222 [.agg [.i c,.sl .i64 hs,.sl MR az,.sl .i64 (x::y::is),.sl (.sl .u8) bs],.i 1] [])=some (.ret (.i y) []):=by
 exact tq rfl
theorem ev_onum2(c x y z:Int)(hs:List Int)(az:List (El MR))(is:List Int)(bs:List (List UInt8))(hl:is.length<=1000):Y E0 (.call 222 [.agg [.i c,.sl .i64 hs,.sl MR az,.sl .i64 (x::y::z::is),.sl (.sl .u8) bs],.i 2] [])=some (.ret (.i z) []):=by
 exact tq rfl
theorem ev_oblob0(c:Int)(x:List UInt8)(hs:List Int)(az:List (El MR))(is:List Int)(bs:List (List UInt8))(hl:bs.length<=1000):Y E0 (.call 247 [.agg [.i c,.sl .i64 hs,.sl MR az,.sl .i64 is,.sl (.sl .u8) (x::bs)],.i 0] [])=some (.ret (.sl .u8 x) []):=by
 exact tq rfl
theorem ev_oblob1(c:Int)(x y:List UInt8)(hs:List Int)(az:List (El MR))(is:List Int)(bs:List (List UInt8))(hl:bs.length<=1000):Y E0 (.call 247 [.agg [.i c,.sl .i64 hs,.sl MR az,.sl .i64 is,.sl (.sl .u8) (x::y::bs)],.i 1] [])=some (.ret (.sl .u8 y) []):=by
 exact tq rfl
theorem ev_oblob2(c:Int)(x y z:List UInt8)(hs:List Int)(az:List (El MR))(is:List Int)(bs:List (List UInt8))(hl:bs.length<=1000):Y E0 (.call 247 [.agg [.i c,.sl .i64 hs,.sl MR az,.sl .i64 is,.sl (.sl .u8) (x::y::z::bs)],.i 2] [])=some (.ret (.sl .u8 z) []):=by
 exact tq rfl
theorem ev_otempl(c k a t:Int)(hs:List Int)(az:List (El MR))(o:List UInt8)(bs:List (List UInt8))(hl:bs.length<=1000):Y E0 (.call 246 [.agg [.i c,.sl .i64 hs,.sl MR az,.sl .i64 [k,a,t],.sl (.sl .u8) (o::bs)]] [])=some (.ret (.agg [.i k,.i a,.i t,.sl .u8 o,.sl .u8 []]) []):=by
 refine tq ?_;rw[ev_onum0 (hl:=NE) ..];refine tq ?_;rw[ev_onum1 (hl:=NE) ..];refine tq ?_;rw[ev_onum2 (hl:=NE) ..];refine tq ?_;rw[ev_oblob0 (hl:=NE) ..];exact tq rfl
theorem ev_oload_loop(sd au:List (List UInt8))(en:List UInt8)(ac re rs ck:Int)(od:Bool)(sb:List (List (List UInt8)))(su mc:Int)(ix:List (El FU))(l1 l2 l3 l4 l5 l6:Int)(ks:List (El IJ))(st sp:Bool)(rb:List (List (List UInt8)))(ru vc:Int)(sf:Bool)(dr:Int)(ss:List (El Gi))(ob:List (El objT))(rl wl:List Int)(p1 p2 p3:Int)(p4 p5 s1 s2 s3:List UInt8)(hr:Int)(hl:ob.length<=1000):∀(n j:Nat),j+n=ob.length->QT ob=j+QT (ob.drop j)->Y E0 (.loop 249 0 0 3 [(2,.pa 0 0),(3,.pa 1 0),(4,.pa 2 0),(11,.sl objT ob),(12,.i (Ar ob)),(13,.i (j:Int))] [(0,some (.var (sC sd au en ac re rs ck od sb su mc ix l1 l2 l3 l4 l5 l6 ks st sp rb ru vc sf dr ss ob rl wl))),(1,some (.var [.i p1,.i p2,.i p3,.sl .u8 p4,.sl .u8 p5,.sl .u8 s1,.sl .u8 s2,.sl .u8 s3,.i hr])),(2,some (.var [.nil,.nil,.nil,.i 0,.i 0,.i 0,.i 0,.b false,.nil,.i 0,.i 0,.nil,.i 0,.i 0,.i 0,.i 0,.i 0,.i 0,.nil,.b false,.b false,.nil,.i 0,.i 0,.b false,.i 0,.nil,.nil,.nil,.nil]))]) =
  if QT ob<ob.length then some (.fin .ret 3 [(2,.pa 0 0),(4,.pa 1 0),(5,.i (512+(QT ob:Int))),(6,.i 0)] [(0,some (.var [.sl (.sl .u8) sd,.sl (.sl .u8) au,.sl .u8 en,.i ac,.i re,.i rs,.i ck,.b od,.sl (.sl (.sl .u8)) sb,.i su,.i mc,.sl FU ix,.i l1,.i l2,.i l3,.i l4,.i l5,.i l6,.sl IJ ks,.b st,.b sp,.sl (.sl (.sl .u8)) rb,.i ru,.i vc,.b sf,.i dr,.sl Gi ss,.nm 2,.sl .i64 rl,.sl .i64 wl])),(1,some (.var [.sl (.sl .u8) sd,.sl (.sl .u8) au,.sl .u8 en,.i ac,.i re,.i rs,.i ck,.b od,.sl (.sl (.sl .u8)) sb,.i su,.i mc,.sl FU ix,.i l1,.i l2,.i l3,.i l4,.i l5,.i l6,.sl IJ ks,.b st,.b sp,.sl (.sl (.sl .u8)) rb,.i ru,.i vc,.b sf,.i dr,.sl Gi ss,.nm 2,.sl .i64 rl,.sl .i64 wl])),(2,some (.row 99 objT (ob.set (QT ob) ((p1,p2,p3,p4,p5),(s1,s2,s3),hr))))])
  else some (.fin (.exit 0) 2 [(2,.pa 0 0),(4,.pa 1 0)] [(0,some (.var (sC sd au en ac re rs ck od sb su mc ix l1 l2 l3 l4 l5 l6 ks st sp rb ru vc sf dr ss ob rl wl))),(1,some (.var [.nil,.nil,.nil,.i 0,.i 0,.i 0,.i 0,.b false,.nil,.i 0,.i 0,.nil,.i 0,.i 0,.i 0,.i 0,.i 0,.i 0,.nil,.b false,.b false,.nil,.i 0,.i 0,.b false,.i 0,.nil,.nil,.nil,.nil]))])
 | 0,j,hj,hf=>by
  rw[if_neg (by rw[List.drop_eq_nil_of_le zf,QT] at hf;omega)]
  exact tq rfl
 | n+1,j,hj,hf=>by
  have hd:=List.drop_eq_getElem_cons (l:=ob) (i:=j) zf
  rw[hd] at hf
  have hg:BA ob (j:Int)=some (ob[j]'zf):=lget_n zf
  generalize ob[j]'zf=x at *
  obtain⟨⟨k,a,t,o,u⟩,⟨y1,y2,y3⟩,h⟩:=x
  by_cases hk:k=0
  ·subst hk;rw[QT,if_pos rfl] at hf;rw[if_pos zf,show QT ob=j from hf]
   have hs:∀ x,BH ob (j:Int) x=ob.set j x:=fun x=>by rw[UJ];simp
   refine to ?_;rw[hg];refine tq ?_;rw[ev_clo _ NE];refine to ?_;rw[hg];refine tq ?_
   (rw[hs])
  ·have ih:=ev_oload_loop sd au en ac re rs ck od sb su mc ix l1 l2 l3 l4 l5 l6 ks st sp rb ru vc sf dr ss ob rl wl p1 p2 p3 p4 p5 s1 s2 s3 hr hl n (j+1) zf (by rw[hf,QT,if_neg hk];omega)
   rw[show((j+1:Nat):Int)=(j:Int)+1 from by omega] at ih
   refine to ?_;rw[hg];refine tq ?_;exact ih
theorem ev_oload(p1 p2 p3:Int)(p4 p5 s1 s2 s3:List UInt8)(hr:Int)(hl:ob.length<=1000):Y E0 (.call 249 [(sX sd au en ac re rs ck od sb su mc ix l1 l2 l3 l4 l5 l6 ks st sp rb ru vc sf dr ss ob rl wl),.agg [.i p1,.i p2,.i p3,.sl .u8 p4,.sl .u8 p5,.sl .u8 s1,.sl .u8 s2,.sl .u8 s3,.i hr]] []) =
  if QT ob<ob.length then some (.ret (.tup [(sX sd au en ac re rs ck od sb su mc ix l1 l2 l3 l4 l5 l6 ks st sp rb ru vc sf dr ss (ob.set (QT ob) ((p1,p2,p3,p4,p5),(s1,s2,s3),hr)) rl wl),.i (512+(QT ob:Int)),.i 0]) []) else some (.ret (.tup [(sX sd au en ac re rs ck od sb su mc ix l1 l2 l3 l4 l5 l6 ks st sp rb ru vc sf dr ss ob rl wl),.i 0,.i 25]) []):=by
 have hq:=ev_oload_loop sd au en ac re rs ck od sb su mc ix l1 l2 l3 l4 l5 l6 ks st sp rb ru vc sf dr ss ob rl wl p1 p2 p3 p4 p5 s1 s2 s3 hr hl ob.length 0 zf zB
 rw[show((0:Nat):Int)=0 from rfl] at hq
 by_cases hc:QT ob<ob.length
 ·rw[if_pos hc] at hq ⊢;refine tq ?_;rw[hq];exact tq rfl
 ·rw[if_neg hc] at hq ⊢;refine tq ?_;rw[hq];exact tq rfl
theorem ev_eobj_t(h:Int)(p1 p2 p3:Int)(p4 p5 s1 s2 s3:List UInt8)(hr:Int)(hl:ob.length<=1000)(hx:slotAt ob h=some ((p1,p2,p3,p4,p5),(s1,s2,s3),hr)):Y E0 (.call 182 [(sX sd au en ac re rs ck od sb su mc ix l1 l2 l3 l4 l5 l6 ks st sp rb ru vc sf dr ss ob rl wl),.i h] [])=some (.ret (.tup [.agg [.i p1,.i p2,.i p3,.sl .u8 p4,.sl .u8 p5,.sl .u8 s1,.sl .u8 s2,.sl .u8 s3,.i hr],.i 0]) []):=by
 have hh:512<=h:=by
  unfold slotAt at hx;split at hx
  ·assumption
  ·cases hx
 rw[slotAt,if_pos hh] at hx
 split at hx
 ·rename_i x hq
  split at hx
  ·cases hx
  ·rename_i hk
   obtain rfl:=Option.some.inj hx
   have hlt:=(List.getElem?_eq_some_iff.1 hq).1
   have hg:BA ob (h-512)=some ((p1,p2,p3,p4,p5),(s1,s2,s3),hr):=by rw[Nl];unfold lget0;rw[if_pos zf];exact hq
   simp only at hk
   refine tq ?_;rw[hg];refine tq ?_;rw[hg]
   conv=>lhs;whnf
   try dsimp -iota -beta -eta -zeta only
   rw[JB]
   conv=>lhs;whnf
 ·cases hx
theorem ev_eobj_f(h:Int)(hl:ob.length<=1000)(hh : -1000000<=h/\h<=1000000)(hx:slotAt ob h=none):Y E0 (.call 182 [(sX sd au en ac re rs ck od sb su mc ix l1 l2 l3 l4 l5 l6 ks st sp rb ru vc sf dr ss ob rl wl),.i h] [])=some (.ret (.tup [.agg [.i 0,.i 0,.i 0,.sl .u8 [],.sl .u8 [],.sl .u8 [],.sl .u8 [],.sl .u8 [],.i 0],.i 7]) []):=by
 by_cases h5:512<=h
 ·by_cases hb:h-512<ob.length
  ·rw[slotAt,if_pos h5,List.getElem?_eq_getElem zf] at hx
   have hg:BA ob (h-512)=some (ob[(h-512).toNat]'zf):=lget_i zf
   simp only at hx
   generalize ob[(h-512).toNat]'zf=x at *
   obtain⟨⟨k,a,t,o,u⟩,⟨y1,y2,y3⟩,hi⟩:=x
   split at hx
   ·rename_i hk
    simp only at hk
    subst hk;refine tq ?_;rw[hg];exact tq rfl
   ·cases hx
  ·exact tq rfl
 ·exact tq rfl
theorem ev_oprim(c h k a t:Int)(hs:List Int)(az:List (El MR))(o u d:List UInt8)(hl:ob.length<=1000)(hsd:sd.length<=1000)(hsl:∀ l∈sd,l.length<=1000)(hhs:hs.length<=100)(ho:o.length<=50000)(hd:d.length<=50000):
  Y E0 (.call 196 [(sX sd au en ac re rs ck od sb su mc ix l1 l2 l3 l4 l5 l6 ks st sp rb ru vc sf dr ss ob rl wl),.agg [.i c,.sl .i64 (h::hs),.sl MR az,.sl .i64 [k,a,t],.sl (.sl .u8) [o,u,d]]] [])=some (.ret (.tup [(sX sd au en ac re rs ck od sb su mc ix l1 l2 l3 l4 l5 l6 ks st sp rb ru vc sf dr ss ((Dt sd ob h k a t o u d).1) rl wl),.agg (ansX (Dt sd ob h k a t o u d).2)]) []):=by
 unfold Dt
 by_cases hc:0<=h/\h<sd.length
 ·rw[if_pos hc]
  have hg:BA sd h=some (sd.getD h.toNat []):=by rw[lget_i zf];simp[List.getD,List.getElem?_eq_getElem (show h.toNat<sd.length by omega)]
  have hm:(sd.getD h.toNat []).length<=1000:=by
   have:=hsl (sd[h.toNat]'zf) (List.getElem_mem _)
   simpa [List.getD,List.getElem?_eq_getElem (show h.toNat<sd.length by omega)] using this
  unfold Dp
  generalize sd.getD h.toNat []=seed at *
  have hlen:=make_len (secret:=D7 seed iP (Bh 0 [[D5 k,D5 a,D5 t],o,d]) 32) (auth:=u) (data:=d) (p:=⟨k,a,t,o,[]⟩)
  have hdl:=OY (key:=seed) (label:=iP) (ctx:=Bh 0 [[D5 k,D5 a,D5 t],o,d]) (n:=32) zf
  have em:=ev_wmake (D7 seed iP (Bh 0 [[D5 k,D5 a,D5 t],o,d]) 32) k a t o [] u d zf
  generalize CQ (D7 seed iP (Bh 0 [[D5 k,D5 a,D5 t],o,d]) 32) ⟨k,a,t,o,[]⟩ u d=M at *
  obtain⟨⟨qk,qa,qt,qo,qu⟩,⟨qx,qy,qz⟩,e⟩:=M
  dsimp only[pubX,senX] at *
  by_cases he:e=0
  ·subst he;rw[if_neg zB]
   unfold Fe
   by_cases hf:QT ob<ob.length
   ·rw[if_pos hf];refine tq ?_;rw[ev_ofirst (hl:=NE) ..];refine tq ?_;rw[ev_otempl (hl:=NE) ..];refine tq ?_;rw[ev_oblob2 (hl:=NE) ..];refine tq ?_;rw[ev_dig_frame _ _ NE NE];refine tq ?_;rw[hg];refine tq ?_;rw[show strOf {data := #[112,114,105,109,97,114,121]}=iP from rfl,ev_derive _ _ _ _ zf zh (by simp only[LL,Zh];omega)]
    refine tq ?_;rw[ev_oblob1 (hl:=NE) ..];refine tq ?_;rw[em];refine tq ?_;rw[ev_oload _ _ _ _ _ _ _ _ _ _ _ _ _ _ _ _ _ _ _ _ _ _ _ _ _ _ _ _ _ _ _ _ _ _ _ _ _ _ _ hl,if_pos hf]
    conv=>lhs;whnf
    rw[JB]
    conv=>lhs;whnf
    rw[fG zf]
    conv=>lhs;whnf
    try dsimp -iota -beta -eta -zeta only
    rw[OQ];rw[ev_aenc _ _ _ _ _ NE NE];refine tq ?_;rw[ev_aname _ _ _ _ _ NE NE];exact tq rfl
   ·rw[if_neg hf];refine tq ?_;rw[ev_ofirst (hl:=NE) ..];refine tq ?_;rw[ev_otempl (hl:=NE) ..];refine tq ?_;rw[ev_oblob2 (hl:=NE) ..];refine tq ?_;rw[ev_dig_frame _ _ NE NE];refine tq ?_;rw[hg];refine tq ?_;rw[show strOf {data := #[112,114,105,109,97,114,121]}=iP from rfl,ev_derive _ _ _ _ zf zh (by simp only[LL,Zh];omega)]
    refine tq ?_;rw[ev_oblob1 (hl:=NE) ..];refine tq ?_;rw[em];refine tq ?_;rw[ev_oload _ _ _ _ _ _ _ _ _ _ _ _ _ _ _ _ _ _ _ _ _ _ _ _ _ _ _ _ _ _ _ _ _ _ _ _ _ _ _ hl,if_neg hf]
    conv=>lhs;whnf
    rw[JB]
    conv=>lhs;whnf
    rw[fF zf]
    conv=>lhs;whnf
    try dsimp -iota -beta -eta -zeta only
    rw[OQ];rw[ev_ofail ..];exact tq rfl
  ·rw[if_pos he];refine tq ?_;rw[ev_ofirst (hl:=NE) ..];refine tq ?_;rw[ev_otempl (hl:=NE) ..];refine tq ?_;rw[ev_oblob2 (hl:=NE) ..];refine tq ?_;rw[ev_dig_frame _ _ NE NE];refine tq ?_;rw[hg];refine tq ?_;rw[show strOf {data := #[112,114,105,109,97,114,121]}=iP from rfl,ev_derive _ _ _ _ zf zh (by simp only[LL,Zh];omega)]
   refine tq ?_;rw[ev_oblob1 (hl:=NE) ..];refine tq ?_;rw[em];refine tq ?_;rw[ev_ofail ..];exact tq rfl
 ·rw[if_neg hc];refine tq ?_;rw[ev_ofirst (hl:=NE) ..];refine tq ?_
  rcases ilt_c h 0 with hc0|hc0
  ·refine tq ?_;rw[ev_ofail ..]
   conv=>lhs;whnf
  rw[fJ zf]
  conv=>lhs;whnf
  rw[fK (by(simp only[Gu,Zf,Zg,Zh,Vd,Zi,OO,XX,ZO,Ve,LL] at *<;>omega))]
  conv=>lhs;whnf
  try dsimp -iota -beta -eta -zeta only
  rw[OQ];rw[ev_ofail ..];exact tq rfl
end
end Go.Proofs.YtanagnimhaemgaaGreatDoor
