/-
  Own texts, laid together for this claim: contracts of functions of the program and its references, used by the statements of this seat.
-/
import Derived.Test.YtanagnimhaemgaaGreatDoorMtaa
import Derived.Test.YtanagnimhaemgaaGreatDoorMtab
import Derived.Test.YtanagnimhaemgaaGreatDoorMtac
import Derived.Test.YtanagnimhaemgaaGreatDoorMtad
import Derived.Test.YtanagnimhaemgaaGreatDoorMtaf
import Derived.Test.YtanagnimhaemgaaGreatDoorMtag
import Derived.Test.YtanagnimhaemgaaGreatDoorMtah
import Derived.Test.YtanagnimhaemgaaGreatDoorMtaj
import Derived.Test.YtanagnimhaemgaaGreatDoorMtak
import Derived.Test.YtanagnimhaemgaaGreatDoorMtan
import Derived.Test.YtanagnimhaemgaaGreatDoorMtap
import Derived.Test.YtanagnimhaemgaaGreatDoorMtaq
import Derived.Test.YtanagnimhaemgaaGreatDoorMtar
import Derived.Test.YtanagnimhaemgaaGreatDoorMtas
import Derived.Test.YtanagnimhaemgaaGreatDoorMtat
import Derived.Test.YtanagnimhaemgaaGreatDoorMtaw
import Derived.Test.YtanagnimhaemgaaGreatDoorMtax
import Derived.Test.YtanagnimhaemgaaGreatDoorMtaz
import Derived.Test.YtanagnimhaemgaaGreatDoorMtba
import Derived.Test.YtanagnimhaemgaaGreatDoorMtbb
set_option linter.all false
set_option maxHeartbeats 40000000
set_option maxRecDepth 100000
namespace Go.Proofs.YtanagnimhaemgaaGreatDoor
open Go Go.Ax Go.Eng
variable (A b0 sd:List (List UInt8))(R:Int)(au b1:List (List UInt8))(i:Nat)(en:List UInt8)(ac re rs ck:Int)(od:Bool)(su mc:Int)(ix:List (El FU))(u l1 l2 l3 l4 l5 l6:Int)(ks:List (El IJ))(st sp:Bool)(rb:List (List (List UInt8)))(ru vc:Int)(sf:Bool)(dr:Int)(ss:List (El Gi))(ob:List (El objT))(h:Int)(rl wl:List Int)(c kd:Int)(hs:List Int)(nn:List UInt8)(az:List (El MR))(x5 x6:Int)(qi:List Int)(x7:Int)(qb:List (List UInt8))(x2:List UInt8)
section
attribute [local irreducible] BL BM BN BO BP BJ BQ CX Cm CY CW Ba Bc BF BC and' BG Bd Aa Ac Ad Ae Af AL AO AP AQ BR D8 BU D5 Be Bf Ag Ah Ai Aj AB AZ AU Ar BA BV BH BB Au Aw BI Bg BX fits BZ BK A7 A8 AC
theorem ev_pstart:Y E0 (.call 285 [] [])=some (.ret (.sl .u8 zen) []):=by
 have hz:Au 32 (0:UInt8)=zen:=by rw[QQ,zen];rfl
 refine tq ?_
 (rw[hz])
theorem ev_sop_l(sd:List (List UInt8))(au:List (List UInt8))(en:List UInt8)(ac:Int)(re:Int)(rs:Int)(ck:Int)(od:Bool)(su:Int)(mc:Int)(ix:List (El FU))(l1:Int)(l2:Int)(l3:Int)(l4:Int)(l5:Int)(l6:Int)(ks:List (El IJ))(st:Bool)(sp:Bool)(rb:List (List (List UInt8)))(ru:Int)(vc:Int)(sf:Bool)(dr:Int)(ss:List (El Gi))(ob:List (El objT))(rl:List Int)(wl:List Int)(kd:Int)(hkd:1<=kd/\kd<=3)(hl:ss.length<=10)(hen:en.length<=100000)(k:Nat)(x2 x3:List UInt8)(x4 x5 x6 x7:Int)(x8:Bool)(hk:ss[k]?=some (0,x2,x3,x4,x5,x6,x7,x8))(hu:∀ i<k,∃ x,ss[i]?=some x/\(x.1:Int)≠0):∀(d j:Nat),j+d=k ->
  Y E0 (.loop 225 0 0 2 [(1,.i kd),(2,.pa 0 0),(4,.pa 1 0),(20,.sl Gi ss),(21,.i (ss.length:Int)),(22,.i (j:Int))] [(0,some (.var [.sl (.sl .u8) sd,.sl (.sl .u8) au,.sl .u8 en,.i ac,.i re,.i rs,.i ck,.b od,.sl (.sl (.sl .u8)) [],.i su,.i mc,.sl FU ix,.i l1,.i l2,.i l3,.i l4,.i l5,.i l6,.sl IJ ks,.b st,.b sp,.sl (.sl (.sl .u8)) rb,.i ru,.i vc,.b sf,.i dr,.sl Gi ss,.sl objT ob,.sl .i64 rl,.sl .i64 wl])),(1,some (.var [.nil,.nil,.nil,.i 0,.i 0,.i 0,.i 0,.b false,.nil,.i 0,.i 0,.nil,.i 0,.i 0,.i 0,.i 0,.i 0,.i 0,.nil,.b false,.b false,.nil,.i 0,.i 0,.b false,.i 0,.nil,.nil,.nil,.nil]))])
   = some (.fin .ret 1 [(4,.pa 0 0),(5,.i (768+(k:Int))),(6,.i 0)] [(0,some (.var [.sl (.sl .u8) sd,.sl (.sl .u8) au,.sl .u8 en,.i ac,.i re,.i rs,.i ck,.b od,.sl (.sl (.sl .u8)) [],.i su,.i mc,.sl FU ix,.i l1,.i l2,.i l3,.i l4,.i l5,.i l6,.sl IJ ks,.b st,.b sp,.sl (.sl (.sl .u8)) rb,.i ru,.i vc,.b sf,.i (BL dr 1),.sl Gi (BH ss (k:Int) (kd,iR en re rs dr 16,zen,-1,31,0,0,false)),.sl objT ob,.sl .i64 rl,.sl .i64 wl]))])
 | 0,j,hj=>by
  obtain rfl:j=k:=zf
  have hg:BA ss (j:Int)=some (0,x2,x3,x4,x5,x6,x7,x8):=by rw[lget_nat];exact hk
  have hlt:j<ss.length:=(List.getElem?_eq_some_iff.1 hk).1
  have hr:=ev_srand sd au en ac re rs ck od [] su mc ix l1 l2 l3 l4 l5 l6 ks st sp rb ru vc sf dr ss ob rl wl 16 hen
  rw[JB];conv=>lhs;whnf
  refine to ?_
  rw[hg]
  refine tq ?_
  rw[hr]
  refine tq ?_
  rw[ev_pstart]
  refine tq ?_
  rw[ev_sput (hl:=NE) (hk:=NE) ..]
  exact tq rfl
 | d+1,j,hj=>by
  obtain⟨⟨y1,y2⟩,hy,hn⟩:=hu j zf
  have hg:BA ss (j:Int)=some (y1,y2):=by rw[lget_nat];exact hy
  have hlt:j<ss.length:=(List.getElem?_eq_some_iff.1 hy).1
  have hn:y1≠0:=hn
  have ih:=ev_sop_l sd au en ac re rs ck od su mc ix l1 l2 l3 l4 l5 l6 ks st sp rb ru vc sf dr ss ob rl wl kd hkd hl hen k x2 x3 x4 x5 x6 x7 x8 hk hu d (j+1) zf
  rw[show((j+1:Nat):Int)=(j:Int)+1 from by omega] at ih
  rw[JB];conv=>lhs;whnf
  refine to ?_
  rw[hg]
  refine tq ?_
  exact ih
theorem ev_sopen(hkd:1<=kd/\kd<=3)(hl:ss.length<=10)(hen:en.length<=100000)(k:Nat)(x2 x3:List UInt8)(x4 x5 x6 x7:Int)(x8:Bool)(hk:ss[k]?=some (0,x2,x3,x4,x5,x6,x7,x8))(hu:∀ i<k,∃ x,ss[i]?=some x/\(x.1:Int)≠0):Y E0 (.call 225 [.agg [.sl (.sl .u8) sd,.sl (.sl .u8) au,.sl .u8 en,.i ac,.i re,.i rs,.i ck,.b od,.sl (.sl (.sl .u8)) [],.i su,.i mc,.sl FU ix,.i l1,.i l2,.i l3,.i l4,.i l5,.i l6,.sl IJ ks,.b st,.b sp,.sl (.sl (.sl .u8)) rb,.i ru,.i vc,.b sf,.i dr,.sl Gi ss,.sl objT ob,.sl .i64 rl,.sl .i64 wl],.i kd] [])=some (.ret (.tup [.agg [.sl (.sl .u8) sd,.sl (.sl .u8) au,.sl .u8 en,.i ac,.i re,.i rs,.i ck,.b od,.sl (.sl (.sl .u8)) [],.i su,.i mc,.sl FU ix,.i l1,.i l2,.i l3,.i l4,.i l5,.i l6,.sl IJ ks,.b st,.b sp,.sl (.sl (.sl .u8)) rb,.i ru,.i vc,.b sf,.i (BL dr 1),.sl Gi (BH ss (k:Int) (kd,iR en re rs dr 16,zen,-1,31,0,0,false)),.sl objT ob,.sl .i64 rl,.sl .i64 wl],.i (768+(k:Int)),.i 0]) []):=by
 have h:=ev_sop_l sd au en ac re rs ck od su mc ix l1 l2 l3 l4 l5 l6 ks st sp rb ru vc sf dr ss ob rl wl kd hkd hl hen k x2 x3 x4 x5 x6 x7 x8 hk hu k 0 zf
 rw[show((0:Nat):Int)=0 from rfl,<-QP] at h
 refine tq ?_
 simp only[Nat.reduceAdd];rw[h]
 exact tq rfl
theorem ev_sFind(h:Int)(x1 x4 x5 x6 x7:Int)(x2 x3:List UInt8)(x8:Bool)(hl:ss.length<=1000)(hh:0<=h-768/\h-768<ss.length)(hg:BA ss (h-768)=some (x1,x2,x3,x4,x5,x6,x7,x8))(hz:x1≠0):Y E0 (.call 193 [.agg [.sl (.sl .u8) sd,.sl (.sl .u8) au,.sl .u8 en,.i ac,.i re,.i rs,.i ck,.b od,.sl (.sl (.sl .u8)) [],.i su,.i mc,.sl FU ix,.i l1,.i l2,.i l3,.i l4,.i l5,.i l6,.sl IJ ks,.b st,.b sp,.sl (.sl (.sl .u8)) rb,.i ru,.i vc,.b sf,.i dr,.sl Gi ss,.sl objT ob,.sl .i64 rl,.sl .i64 wl],.i h] [])=some (.ret (.tup [nP x1 x2 x3 x4 x5 x6 x7 x8,.i 0]) []):=by
 have hf:=ev_sfind_t sd au en ac re rs ck od [] su mc ix l1 l2 l3 l4 l5 l6 ks st sp rb ru vc sf dr ss ob rl wl h x1 x4 x5 x6 x7 x2 x3 x8 hl hh hg hz
 refine tq ?_
 rw[hf]
 exact tq rfl
theorem ev_mopen(hkd:1<=kd/\kd<=3)(hl:ss.length<=10)(hen:en.length<=100000)(k:Nat)(x2 x3:List UInt8)(x4 x5 x6 x7:Int)(x8:Bool)(hk:ss[k]?=some (0,x2,x3,x4,x5,x6,x7,x8))(hu:∀ i<k,∃ x,ss[i]?=some x/\(x.1:Int)≠0)(qb:List (List UInt8)):Y E0 (.call 189 [.agg [.sl (.sl .u8) sd,.sl (.sl .u8) au,.sl .u8 en,.i ac,.i re,.i rs,.i ck,.b od,.sl (.sl (.sl .u8)) [],.i su,.i mc,.sl FU ix,.i l1,.i l2,.i l3,.i l4,.i l5,.i l6,.sl IJ ks,.b st,.b sp,.sl (.sl (.sl .u8)) rb,.i ru,.i vc,.b sf,.i dr,.sl Gi ss,.sl objT ob,.sl .i64 rl,.sl .i64 wl],rq 16 [] [] [kd] qb] [])=some (.ret (.tup [.agg [.sl (.sl .u8) sd,.sl (.sl .u8) au,.sl .u8 en,.i ac,.i re,.i rs,.i ck,.b od,.sl (.sl (.sl .u8)) [],.i su,.i mc,.sl FU ix,.i l1,.i l2,.i l3,.i l4,.i l5,.i l6,.sl IJ ks,.b st,.b sp,.sl (.sl (.sl .u8)) rb,.i ru,.i vc,.b sf,.i (BL dr 1),.sl Gi (BH ss (k:Int) (kd,iR en re rs dr 16,zen,-1,31,0,0,false)),.sl objT ob,.sl .i64 rl,.sl .i64 wl],nV 0 [768+(k:Int)] [iR en re rs dr 16] []]) []):=by
 have h:=ev_sopen sd au en ac re rs ck od su mc ix l1 l2 l3 l4 l5 l6 ks st sp rb ru vc sf dr ss ob rl wl kd hkd hl hen k x2 x3 x4 x5 x6 x7 x8 hk hu
 have hlt:k<ss.length:=(List.getElem?_eq_some_iff.1 hk).1
 have hf:=ev_sFind sd au en ac re rs ck od su mc ix l1 l2 l3 l4 l5 l6 ks st sp rb ru vc sf (BL dr 1) (BH ss (k:Int) (kd,iR en re rs dr 16,zen,-1,31,0,0,false)) ob rl wl (768+(k:Int)) kd (-1) 31 0 0 (iR en re rs dr 16) zen false (by rw[UJ,List.length_set];omega) (by rw[UJ,List.length_set];omega) (by rw[show 768+(k:Int)-768=(k:Int) from by omega,lget_nat,UJ];simp[hlt]) zf
 refine tq ?_
 rw[h]
 refine tq ?_
 rw[hf]
 exact tq rfl
theorem ev_plse(hkd:1<=kd/\kd<=3)(hl:ss.length<=10)(hen:en.length<=100000)(k:Nat)(x2 x3:List UInt8)(x4 x5 x6 x7:Int)(x8:Bool)(hk:ss[k]?=some (0,x2,x3,x4,x5,x6,x7,x8))(hu:∀ i<k,∃ x,ss[i]?=some x/\(x.1:Int)≠0)(qb:List (List UInt8)):Y E0 (.call 163 [.agg [.sl (.sl .u8) sd,.sl (.sl .u8) au,.sl .u8 en,.i ac,.i re,.i rs,.i ck,.b od,.sl (.sl (.sl .u8)) [],.i su,.i mc,.sl FU ix,.i l1,.i l2,.i l3,.i l4,.i l5,.i l6,.sl IJ ks,.b st,.b sp,.sl (.sl (.sl .u8)) rb,.i ru,.i vc,.b sf,.i dr,.sl Gi ss,.sl objT ob,.sl .i64 rl,.sl .i64 wl],.i 0,rq 16 [] [] [kd] qb] [])=some (.ret (.tup [.agg [.sl (.sl .u8) sd,.sl (.sl .u8) au,.sl .u8 en,.i ac,.i re,.i rs,.i ck,.b od,.sl (.sl (.sl .u8)) [],.i su,.i mc,.sl FU ix,.i l1,.i l2,.i l3,.i l4,.i l5,.i l6,.sl IJ ks,.b st,.b sp,.sl (.sl (.sl .u8)) rb,.i ru,.i vc,.b sf,.i (BL dr 1),.sl Gi (BH ss (k:Int) (kd,iR en re rs dr 16,zen,-1,31,0,0,false)),.sl objT ob,.sl .i64 rl,.sl .i64 wl],nV 0 [768+(k:Int)] [iR en re rs dr 16] []]) []):=by
 have h:=ev_mopen sd au en ac re rs ck od su mc ix l1 l2 l3 l4 l5 l6 ks st sp rb ru vc sf dr ss ob rl wl kd hkd hl hen k x2 x3 x4 x5 x6 x7 x8 hk hu qb
 refine tq ?_
 rw[h]
 exact tq rfl
theorem ev_exse(hkd:1<=kd/\kd<=3)(hl:ss.length<=10)(hen:en.length<=100000)(k:Nat)(x2 x3:List UInt8)(x4 x5 x6 x7:Int)(x8:Bool)(hk:ss[k]?=some (0,x2,x3,x4,x5,x6,x7,x8))(hu:∀ i<k,∃ x,ss[i]?=some x/\(x.1:Int)≠0)(hst:st=true)(hq:rqG 16 0 [] [] [kd] []):Y E0 (.call 131 [.agg [.sl (.sl .u8) sd,.sl (.sl .u8) au,.sl .u8 en,.i ac,.i re,.i rs,.i ck,.b od,.sl (.sl (.sl .u8)) [],.i su,.i mc,.sl FU ix,.i l1,.i l2,.i l3,.i l4,.i l5,.i l6,.sl IJ ks,.b st,.b sp,.sl (.sl (.sl .u8)) rb,.i ru,.i vc,.b sf,.i dr,.sl Gi ss,.sl objT ob,.sl .i64 rl,.sl .i64 wl],.i 0,rq 16 [] [] [kd] []] [])=some (.ret (.tup [.agg [.sl (.sl .u8) sd,.sl (.sl .u8) au,.sl .u8 en,.i ac,.i re,.i rs,.i ck,.b od,.sl (.sl (.sl .u8)) [],.i su,.i mc,.sl FU ix,.i l1,.i l2,.i l3,.i l4,.i l5,.i l6,.sl IJ ks,.b st,.b sp,.sl (.sl (.sl .u8)) rb,.i ru,.i vc,.b sf,.i (BL dr 1),.sl Gi (BH ss (k:Int) (kd,iR en re rs dr 16,zen,-1,31,0,0,false)),.sl objT ob,.sl .i64 rl,.sl .i64 wl],nV 0 [768+(k:Int)] [iR en re rs dr 16] []]) []):=by
 have hc:=chk_of hq
 have h:=ev_plse sd au en ac re rs ck od su mc ix l1 l2 l3 l4 l5 l6 ks st sp rb ru vc sf dr ss ob rl wl kd hkd hl hen k x2 x3 x4 x5 x6 x7 x8 hk hu []
 subst hst
 refine tq ?_
 rw[hc]
 refine tq ?_
 rw[ev_allowed0 ..]
 refine tq ?_
 rw[h]
 exact tq rfl
end
section
attribute [local irreducible] BL BM BN BO BP BJ BQ CX Cm CY CW Ba Bc BF BC and' BG Bd Aa Ac Ad Ae Af AL AO AP AQ BR D8 BU D5 Be Bf Ag Ah Ai Aj AB AZ AU Ar BA BV BH BB Au Aw BI Bg BX fits BZ BK A7 A8 AC
theorem ev_allowed1(h:Int)(v:List UInt8)(az:List (El MR))(is:List Int)(bs:List (List UInt8))(hh:0<=h/\h<=3)(hl:ix.length<=10)(hx:∀ x∈ix,iU x)(ho:ob.length<=1000)(ha:au.length=4)(hv:BA au h=some v)(hc:c=30\/(c=21\/c=22)/\(h=1\/h=2)):Y E0 (.call 162 [.agg [.sl (.sl .u8) sd,.sl (.sl .u8) au,.sl .u8 en,.i ac,.i re,.i rs,.i ck,.b od,.sl (.sl (.sl .u8)) [],.i su,.i mc,.sl FU ix,.i l1,.i l2,.i l3,.i l4,.i l5,.i l6,.sl IJ ks,.b st,.b sp,.sl (.sl (.sl .u8)) rb,.i ru,.i vc,.b sf,.i dr,.sl Gi ss,.sl objT ob,.sl .i64 rl,.sl .i64 wl],rq c [h] az is bs] [])=some (.ret (.b true) []):=by
 have hn:=ev_ename_h sd au en ac re rs ck od su mc ix l1 l2 l3 l4 l5 l6 ks st sp rb ru vc sf dr ss ob rl wl h v hh hl hx ho ha hv
 have l0:=ev_al_l sd au en ac re rs ck od su mc ix l1 l2 l3 l4 l5 l6 ks st sp rb ru vc sf dr ss ob rl wl c [h] az is bs zB (fun x hx=>by simp at hx;subst hx;exact⟨_,hn⟩) 1 0 rfl
 have e2:Ar [h]=1:=by rw[QP];rfl
 rw[show((List.length [h]:Nat):Int)=1 from rfl,show((0:Nat):Int)=0 from rfl] at l0
 rcases hc with rfl|⟨rfl|rfl,rfl|rfl⟩
 ·refine tq ?_
  simp only[e2,Nat.reduceAdd];rw[l0]
  conv=>lhs;whnf
  rw[e2]
  conv=>lhs;whnf
  rw[fE zf]
  conv=>lhs;whnf
  rw[mf];conv=>lhs;whnf
  rw[fE zf]
  conv=>lhs;whnf
  rw[fE zf]
  conv=>lhs;whnf
  rw[fE zf]
  conv=>lhs;whnf
  rw[fE zf]
  conv=>lhs;whnf
  rw[fE zf]
  conv=>lhs;whnf
  rw[fE zf]
  conv=>lhs;whnf
  rw[fE zf]
  conv=>lhs;whnf
  rw[fE zf]
  conv=>lhs;whnf
  rw[fE zf]
  conv=>lhs;whnf
  rw[fE zf]
  conv=>lhs;whnf
  rw[fE zf]
  conv=>lhs;whnf
  rw[fE zf]
  conv=>lhs;whnf
  rw[fE zf]
  conv=>lhs;whnf
  rw[fE zf]
  conv=>lhs;whnf
  rw[JB]
  conv=>lhs;whnf
  rw[fE zf]
  conv=>lhs;whnf
  rw[fD zf]
  conv=>lhs;whnf
  (congr 3;simp only[bu,bz,ilt_eq,ile_eq,UK,bi,QP];first|rfl|(rw[decide_eq_decide];omega)|(simp;omega))
 ·refine tq ?_
  simp only[e2,Nat.reduceAdd];rw[l0]
  conv=>lhs;whnf
  rw[e2]
  exact tq rfl
 ·refine tq ?_
  simp only[e2,Nat.reduceAdd];rw[l0]
  conv=>lhs;whnf
  rw[e2]
  conv=>lhs;whnf
  rw[fE zf]
  conv=>lhs;whnf
  rw[mf];conv=>lhs;whnf
  rw[fE zf]
  conv=>lhs;whnf
  rw[fE zf]
  conv=>lhs;whnf
  rw[fE zf]
  conv=>lhs;whnf
  rw[fE zf]
  conv=>lhs;whnf
  rw[fE zf]
  conv=>lhs;whnf
  rw[fE zf]
  conv=>lhs;whnf
  rw[fD zf]
  conv=>lhs;whnf
  rw[fE zf]
  conv=>lhs;whnf
  (congr 3;simp only[bu,bz,ilt_eq,ile_eq,UK,bi,QP];first|rfl|(rw[decide_eq_decide];omega)|(simp;omega))
 ·refine tq ?_
  simp only[e2,Nat.reduceAdd];rw[l0]
  conv=>lhs;whnf
  rw[e2]
  exact tq rfl
 ·refine tq ?_
  simp only[e2,Nat.reduceAdd];rw[l0]
  conv=>lhs;whnf
  rw[e2]
  conv=>lhs;whnf
  rw[fE zf]
  conv=>lhs;whnf
  rw[mf];conv=>lhs;whnf
  rw[fE zf]
  conv=>lhs;whnf
  rw[fE zf]
  conv=>lhs;whnf
  rw[fE zf]
  conv=>lhs;whnf
  rw[fE zf]
  conv=>lhs;whnf
  rw[fE zf]
  conv=>lhs;whnf
  rw[fE zf]
  conv=>lhs;whnf
  rw[fE zf]
  conv=>lhs;whnf
  rw[fD zf]
  conv=>lhs;whnf
  rw[fE zf]
  conv=>lhs;whnf
  (congr 3;simp only[bu,bz,ilt_eq,ile_eq,UK,bi,QP];first|rfl|(rw[decide_eq_decide];omega)|(simp;omega))
theorem ev_clbb(l:List (List UInt8))(hn:BX l=false)(hl:l.length<=1001):Y E0 (.call 314 [.sl (.sl .u8) l] [])=some (.ret (.nm 0) [some (.row 22 (.sl .u8) l)]):=by
 have hf:fits (α:=El (.sl .u8)) l 32768=true:=Ls (α:=El (.sl .u8)) (show l.length*32768<=140737488355328 by omega)
 refine tq ?_
 rw[show E0.ov (Req.call 314 [AV.sl (.sl .u8) l] [])=(bif fits (α:=El (.sl .u8)) l 32768 then some (.ret (.nm 0) [some (.row 22 (.sl .u8) l)]) else none) from rfl,hf]
 rfl
theorem ev_replace(l:List (List UInt8))(i:Int)(x:List UInt8)(hl:l.length<=1000)(hi:0<=i/\i<l.length):Y E0 (.call 266 [.sl (.sl .u8) l,.i i,.sl .u8 x] [])=some (.ret (.sl (.sl .u8) (BH l i x)) []):=by
 have hn:BX l=false:=by cases l with|nil=>simp at hi;omega|cons y m=>exact lemp_c y m
 have hc:=ev_clbb l hn zf
 refine tq ?_
 rw[hc]
 conv=>lhs;whnf
 rw[fH (by(simp only[n8_len,n4_len,n2_len,bl_len,Gu,OO,Xa,ZO,LL] at *<;>omega))]
 conv=>lhs;whnf
 rw[bY zf]
 conv=>lhs;whnf
 rw[lget_i zf]
 conv=>lhs;whnf
 rw[JB]
 conv=>lhs;whnf
theorem ev_manage30(h:Int)(az:List (El MR))(a:List UInt8)(ha:au.length=4)(hh:0<=h/\h<=3)(hal:a.length<=32):Y E0 (.call 205 [.agg [.sl (.sl .u8) sd,.sl (.sl .u8) au,.sl .u8 en,.i ac,.i re,.i rs,.i ck,.b od,.sl (.sl (.sl .u8)) [],.i su,.i mc,.sl FU ix,.i l1,.i l2,.i l3,.i l4,.i l5,.i l6,.sl IJ ks,.b st,.b sp,.sl (.sl (.sl .u8)) rb,.i ru,.i vc,.b sf,.i dr,.sl Gi ss,.sl objT ob,.sl .i64 rl,.sl .i64 wl],rq 30 [h] az [] [a]] [])=some (.ret (.tup [.agg [.sl (.sl .u8) sd,.sl (.sl .u8) (BH au h a),.sl .u8 en,.i ac,.i re,.i rs,.i ck,.b od,.sl (.sl (.sl .u8)) [],.i su,.i mc,.sl FU ix,.i l1,.i l2,.i l3,.i l4,.i l5,.i l6,.sl IJ ks,.b st,.b sp,.sl (.sl (.sl .u8)) rb,.i ru,.i vc,.b sf,.i dr,.sl Gi ss,.sl objT ob,.sl .i64 rl,.sl .i64 wl],nV 0 [] [] []]) []):=by
 have hr:=ev_replace au h a zf zf
 refine tq ?_
 rw[hr]
 exact tq rfl
theorem ev_authd30(h:Int)(az:List (El MR))(a:List UInt8)(ha:au.length=4)(hh:0<=h/\h<=3)(hal:a.length<=32):Y E0 (.call 165 [.agg [.sl (.sl .u8) sd,.sl (.sl .u8) au,.sl .u8 en,.i ac,.i re,.i rs,.i ck,.b od,.sl (.sl (.sl .u8)) [],.i su,.i mc,.sl FU ix,.i l1,.i l2,.i l3,.i l4,.i l5,.i l6,.sl IJ ks,.b st,.b sp,.sl (.sl (.sl .u8)) rb,.i ru,.i vc,.b sf,.i dr,.sl Gi ss,.sl objT ob,.sl .i64 rl,.sl .i64 wl],rq 30 [h] az [] [a]] [])=some (.ret (.tup [.agg [.sl (.sl .u8) sd,.sl (.sl .u8) (BH au h a),.sl .u8 en,.i ac,.i re,.i rs,.i ck,.b od,.sl (.sl (.sl .u8)) [],.i su,.i mc,.sl FU ix,.i l1,.i l2,.i l3,.i l4,.i l5,.i l6,.sl IJ ks,.b st,.b sp,.sl (.sl (.sl .u8)) rb,.i ru,.i vc,.b sf,.i dr,.sl Gi ss,.sl objT ob,.sl .i64 rl,.sl .i64 wl],nV 0 [] [] []]) []):=by
 have hr:=ev_manage30 sd au en ac re rs ck od su mc ix l1 l2 l3 l4 l5 l6 ks st sp rb ru vc sf dr ss ob rl wl h az a ha hh hal
 refine tq ?_
 rw[hr]
 exact tq rfl
theorem ev_fin0(v:List UInt8)(az:List (El MR))(qi:List Int)(qb:List (List UInt8)):Y E0 (.call 166 [.agg [.sl (.sl .u8) sd,.sl (.sl .u8) au,.sl .u8 en,.i ac,.i re,.i rs,.i ck,.b od,.sl (.sl (.sl .u8)) [],.i su,.i mc,.sl FU ix,.i l1,.i l2,.i l3,.i l4,.i l5,.i l6,.sl IJ ks,.b st,.b sp,.sl (.sl (.sl .u8)) rb,.i ru,.i vc,.b sf,.i dr,.sl Gi ss,.sl objT ob,.sl .i64 rl,.sl .i64 wl],rq c hs ((0,nn,v)::az) qi qb] [])=some (.ret (.tup [.agg [.sl (.sl .u8) sd,.sl (.sl .u8) au,.sl .u8 en,.i ac,.i re,.i rs,.i ck,.b od,.sl (.sl (.sl .u8)) [],.i su,.i mc,.sl FU ix,.i l1,.i l2,.i l3,.i l4,.i l5,.i l6,.sl IJ ks,.b st,.b sp,.sl (.sl (.sl .u8)) rb,.i ru,.i vc,.b sf,.i dr,.sl Gi ss,.sl objT ob,.sl .i64 rl,.sl .i64 wl],.sl (.sl .u8) []]) []):=by
 refine tq ?_
 with_reducible rfl
theorem ev_exca(h:Int)(nn v a:List UInt8)(hst:st=true)(hh:0<=h/\h<=2)(hl:ix.length<=10)(hx:∀ x∈ix,iU x)(ho:ob.length<=1000)(ha:au.length=4)(hv:BA au h=some v)(hv1:v.length<=1000)(hal:a.length<=32)(hq:rqG 30 1 [h] [(0,nn,v)] [] [a]):Y E0 (.call 131 [.agg [.sl (.sl .u8) sd,.sl (.sl .u8) au,.sl .u8 en,.i ac,.i re,.i rs,.i ck,.b od,.sl (.sl (.sl .u8)) [],.i su,.i mc,.sl FU ix,.i l1,.i l2,.i l3,.i l4,.i l5,.i l6,.sl IJ ks,.b st,.b sp,.sl (.sl (.sl .u8)) rb,.i ru,.i vc,.b sf,.i dr,.sl Gi ss,.sl objT ob,.sl .i64 rl,.sl .i64 wl],.i 0,rq 30 [h] [(0,nn,v)] [] [a]] [])=some (.ret (.tup [.agg [.sl (.sl .u8) sd,.sl (.sl .u8) (BH au h a),.sl .u8 en,.i ac,.i re,.i rs,.i ck,.b od,.sl (.sl (.sl .u8)) [],.i su,.i mc,.sl FU ix,.i l1,.i l2,.i l3,.i l4,.i l5,.i l6,.sl IJ ks,.b st,.b sp,.sl (.sl (.sl .u8)) rb,.i ru,.i vc,.b sf,.i dr,.sl Gi ss,.sl objT ob,.sl .i64 rl,.sl .i64 wl],nV 0 [] [] []]) []):=by
 have k1:=chk_of hq
 have k2:=ev_allowed1 sd au en ac re rs ck od su mc ix l1 l2 l3 l4 l5 l6 ks st sp rb ru vc sf dr ss ob rl wl 30 h v [(0,nn,v)] [] [a] zf hl hx ho ha hv (.inl rfl)
 have k3:=ev_achk sd au en ac re rs ck od su mc ix l1 l2 l3 l4 l5 l6 ks st sp rb ru vc sf dr ss ob rl wl 30 h [] nn v [] [] [a] hh hl hx ho ha hv zf hv1
 have k4:=ev_authd30 sd au en ac re rs ck od su mc ix l1 l2 l3 l4 l5 l6 ks st sp rb ru vc sf dr ss ob rl wl h [(0,nn,v)] a ha zf hal
 have k5:=ev_fin0 sd (BH au h a) en ac re rs ck od su mc ix l1 l2 l3 l4 l5 l6 ks st sp rb ru vc sf dr ss ob rl wl 30 [h] nn v [] [] [a]
 subst hst
 refine tq ?_
 rw[k1]
 refine tq ?_
 rw[k2]
 refine tq ?_
 rw[k3]
 refine tq ?_
 rw[k4]
 conv=>lhs;whnf
 rw[JB]
 conv=>lhs;whnf
 rw[fG zf]
 conv=>lhs;whnf
 try dsimp -iota -beta -eta -zeta only
 rw[OQ]
 rw[k5]
 exact tq rfl
end
section
attribute [local irreducible] BL BM BN BO BP BJ BQ CX Cm CY CW Ba Bc BF BC and' BG Bd Aa Ac Ad Ae Af AL AO AP AQ BR D8 BU D5 Be Bf Ag Ah Ai Aj AB AZ AU Ar BA BV BH BB Au Aw BI Bg BX fits BZ BK A7 A8 AC
theorem ev_achkH_t(x:Int)(qi:List Int)(qb:List (List UInt8))(se:Int)(nn v:List UInt8)(h:Int)(u l cm dl:Int)(n d:List UInt8)(b:Bool)(w:List UInt8)(hsl:ss.length<=1000)(hse:0<=se-768/\se-768<ss.length)(hsg:BA ss (se-768)=some (1,n,d,u,l,cm,dl,b))(hvm:v=dR w (Bh 10 [cmdB c [hierB h] (x::qi) qb,n,nn]))(hvl:v.length<=1000)(hh:0<=h/\h<=2)(hl:ix.length<=10)(hx:∀ x∈ix,iU x)(ho:ob.length<=1000)(ha:au.length=4)(hv:BA au h=some w)(hc:c<23\/29<c)(hwl:w.length<=1000)(hn:n.length<=1000)(hnn:nn.length<=1000)(hqi:(x::qi).length<=10)(hb:qb.length<=10)(hbm:∀ x∈qb,x.length<=2000):Y E0 (.call 164 [.agg [.sl (.sl .u8) sd,.sl (.sl .u8) au,.sl .u8 en,.i ac,.i re,.i rs,.i ck,.b od,.sl (.sl (.sl .u8)) [],.i su,.i mc,.sl FU ix,.i l1,.i l2,.i l3,.i l4,.i l5,.i l6,.sl IJ ks,.b st,.b sp,.sl (.sl (.sl .u8)) rb,.i ru,.i vc,.b sf,.i dr,.sl Gi ss,.sl objT ob,.sl .i64 rl,.sl .i64 wl],.i 0,rq c [h] ((se,nn,v)::az) (x::qi) qb] [])=some (.ret (.tup [.agg [.sl (.sl .u8) sd,.sl (.sl .u8) au,.sl .u8 en,.i ac,.i re,.i rs,.i ck,.b od,.sl (.sl (.sl .u8)) [],.i su,.i mc,.sl FU ix,.i l1,.i l2,.i l3,.i l4,.i l5,.i l6,.sl IJ ks,.b st,.b sp,.sl (.sl (.sl .u8)) rb,.i ru,.i vc,.b sf,.i dr,.sl Gi ss,.sl objT ob,.sl .i64 rl,.sl .i64 wl],.i 0]) []):=by
 have hf:=ev_sFind sd au en ac re rs ck od su mc ix l1 l2 l3 l4 l5 l6 ks st sp rb ru vc sf dr ss ob rl wl se 1 u l cm dl n d b hsl hse hsg zh
 have hk:=ev_kvalH_t sd au en ac re rs ck od su mc ix l1 l2 l3 l4 l5 l6 ks st sp rb ru vc sf dr ss ob rl wl c ((se,nn,v)::az) x qi qb se nn v h 1 u l cm dl n d b w hvm hvl zh hh hl hx ho ha hv hc hwl hn hnn hqi hb hbm
 have hne:se≠0:=zf
 refine tq ?_
 rw[hf]
 refine tq ?_
 rw[hk]
 exact tq rfl
theorem ev_achkH_f(x:Int)(qi:List Int)(qb:List (List UInt8))(se:Int)(nn v:List UInt8)(h:Int)(u l cm dl:Int)(n d:List UInt8)(b:Bool)(w:List UInt8)(hsl:ss.length<=1000)(hse:0<=se-768/\se-768<ss.length)(hsg:BA ss (se-768)=some (1,n,d,u,l,cm,dl,b))(hvm:v≠dR w (Bh 10 [cmdB c [hierB h] (x::qi) qb,n,nn]))(hvl:v.length<=1000)(hh:0<=h/\h<=2)(hl:ix.length<=10)(hx:∀ x∈ix,iU x)(ho:ob.length<=1000)(ha:au.length=4)(hv:BA au h=some w)(hc:c<23\/29<c)(hwl:w.length<=1000)(hn:n.length<=1000)(hnn:nn.length<=1000)(hqi:(x::qi).length<=10)(hb:qb.length<=10)(hbm:∀ x∈qb,x.length<=2000):Y E0 (.call 164 [.agg [.sl (.sl .u8) sd,.sl (.sl .u8) au,.sl .u8 en,.i ac,.i re,.i rs,.i ck,.b od,.sl (.sl (.sl .u8)) [],.i su,.i mc,.sl FU ix,.i l1,.i l2,.i l3,.i l4,.i l5,.i l6,.sl IJ ks,.b st,.b sp,.sl (.sl (.sl .u8)) rb,.i ru,.i vc,.b sf,.i dr,.sl Gi ss,.sl objT ob,.sl .i64 rl,.sl .i64 wl],.i 0,rq c [h] ((se,nn,v)::az) (x::qi) qb] [])=some (.ret (.tup [.agg [.sl (.sl .u8) sd,.sl (.sl .u8) au,.sl .u8 en,.i ac,.i re,.i rs,.i ck,.b od,.sl (.sl (.sl .u8)) [],.i su,.i mc,.sl FU ix,.i l1,.i l2,.i l3,.i l4,.i l5,.i l6,.sl IJ ks,.b st,.b sp,.sl (.sl (.sl .u8)) rb,.i ru,.i vc,.b sf,.i dr,.sl Gi ss,.sl objT ob,.sl .i64 rl,.sl .i64 wl],.i 9]) []):=by
 have hf:=ev_sFind sd au en ac re rs ck od su mc ix l1 l2 l3 l4 l5 l6 ks st sp rb ru vc sf dr ss ob rl wl se 1 u l cm dl n d b hsl hse hsg zh
 have hk:=ev_kvalH_f sd au en ac re rs ck od su mc ix l1 l2 l3 l4 l5 l6 ks st sp rb ru vc sf dr ss ob rl wl c ((se,nn,v)::az) x qi qb se nn v h 1 u l cm dl n d b w hvm hvl zh hh hl hx ho ha hv hc hwl hn hnn hqi hb hbm
 have hne:se≠0:=zf
 refine tq ?_
 rw[hf]
 refine tq ?_
 rw[hk]
 exact tq rfl
theorem ev_finH(v:List UInt8)(az:List (El MR))(qi:List Int)(qb:List (List UInt8))(se u l cm dl:Int)(n d:List UInt8)(b:Bool)(hen:en.length<=100000)(hsl:ss.length<=1000)(hse:0<=se-768/\se-768<ss.length)(hsg:BA ss (se-768)=some (1,n,d,u,l,cm,dl,b)):Y E0 (.call 166 [.agg [.sl (.sl .u8) sd,.sl (.sl .u8) au,.sl .u8 en,.i ac,.i re,.i rs,.i ck,.b od,.sl (.sl (.sl .u8)) [],.i su,.i mc,.sl FU ix,.i l1,.i l2,.i l3,.i l4,.i l5,.i l6,.sl IJ ks,.b st,.b sp,.sl (.sl (.sl .u8)) rb,.i ru,.i vc,.b sf,.i dr,.sl Gi ss,.sl objT ob,.sl .i64 rl,.sl .i64 wl],rq c hs ((se,nn,v)::az) qi qb] [])=some (.ret (.tup [.agg [.sl (.sl .u8) sd,.sl (.sl .u8) au,.sl .u8 en,.i ac,.i re,.i rs,.i ck,.b od,.sl (.sl (.sl .u8)) [],.i su,.i mc,.sl FU ix,.i l1,.i l2,.i l3,.i l4,.i l5,.i l6,.sl IJ ks,.b st,.b sp,.sl (.sl (.sl .u8)) rb,.i ru,.i vc,.b sf,.i (BL dr 1),.sl Gi (BH ss (se-768) (1,iR en re rs dr 16,d,u,l,cm,dl,b)),.sl objT ob,.sl .i64 rl,.sl .i64 wl],.sl (.sl .u8) [iR en re rs dr 16]]) []):=by
 have hf:=ev_sFind sd au en ac re rs ck od su mc ix l1 l2 l3 l4 l5 l6 ks st sp rb ru vc sf dr ss ob rl wl se 1 u l cm dl n d b hsl hse hsg zh
 have hr:=ev_srand sd au en ac re rs ck od [] su mc ix l1 l2 l3 l4 l5 l6 ks st sp rb ru vc sf dr ss ob rl wl 16 hen
 have hne:se≠0:=zf
 have hc:Y E0 (.call 208 [.sl Gi ss] [])=some (.ret (.nm 0) [some (.row 256 Gi ss)]):=by
  cases ss with
  | nil=>simp at hse;omega
  | cons y m =>
   obtain⟨y1,y2,y3,y4,y5,y6,y7,y8⟩:=y
   rw[List.length_cons] at hsl
   exact ev_clse y1 y4 y5 y6 y7 y2 y3 y8 m zf
 refine tq ?_
 rw[hf]
 refine tq ?_
 rw[hr]
 refine tq ?_
 rw[hc]
 conv=>lhs;whnf
 rw[ZG zf]
 rw[bY zf]
 conv=>lhs;whnf
 rw[lget_i zf]
 conv=>lhs;whnf
end
section
attribute [local irreducible] BL BM BN BO BP BJ BQ CX Cm CY CW Ba Bc BF BC and' BG Bd Aa Ac Ad Ae Af AL AO AP AQ BR D8 BU D5 Be Bf Ag Ah Ai Aj AB AZ AU Ar BA BV BH BB Au Aw BI Bg BX fits BZ BK A7 A8 AC
theorem ev_authd21(h:Int)(az:List (El MR))(hix:ix=[]):Y E0 (.call 165 [.agg [.sl (.sl .u8) sd,.sl (.sl .u8) au,.sl .u8 en,.i ac,.i re,.i rs,.i ck,.b od,.sl (.sl (.sl .u8)) [],.i su,.i mc,.sl FU ix,.i l1,.i l2,.i l3,.i l4,.i l5,.i l6,.sl IJ ks,.b st,.b sp,.sl (.sl (.sl .u8)) rb,.i ru,.i vc,.b sf,.i dr,.sl Gi ss,.sl objT ob,.sl .i64 rl,.sl .i64 wl],rq 21 [h] az [1,2,3,8] [[],[]]] [])=some (.ret (.tup [.agg [.sl (.sl .u8) sd,.sl (.sl .u8) au,.sl .u8 en,.i ac,.i re,.i rs,.i ck,.b od,.sl (.sl (.sl .u8)) [],.i su,.i mc,.sl FU [ctr],.i l1,.i l2,.i l3,.i l4,.i l5,.i l6,.sl IJ ks,.b st,.b sp,.sl (.sl (.sl .u8)) rb,.i ru,.i vc,.b sf,.i dr,.sl Gi ss,.sl objT ob,.sl .i64 rl,.sl .i64 wl],nV 0 [] [] []]) []):=by
 have k:=ev_define sd au en ac re rs ck od su mc ix l1 l2 l3 l4 l5 l6 ks st sp rb ru vc sf dr ss ob rl wl h az hix
 refine tq ?_
 rw[k]
 exact tq rfl
theorem ev_authd22(h:Int)(az:List (El MR))(hix:ix=[ctr])(hrl:rl=[])(hwl:wl=[]):Y E0 (.call 165 [.agg [.sl (.sl .u8) sd,.sl (.sl .u8) au,.sl .u8 en,.i ac,.i re,.i rs,.i ck,.b od,.sl (.sl (.sl .u8)) [],.i su,.i mc,.sl FU ix,.i l1,.i l2,.i l3,.i l4,.i l5,.i l6,.sl IJ ks,.b st,.b sp,.sl (.sl (.sl .u8)) rb,.i ru,.i vc,.b sf,.i dr,.sl Gi ss,.sl objT ob,.sl .i64 rl,.sl .i64 wl],rq 22 [h] az [1] []] [])=some (.ret (.tup [.agg [.sl (.sl .u8) sd,.sl (.sl .u8) au,.sl .u8 en,.i ac,.i re,.i rs,.i ck,.b od,.sl (.sl (.sl .u8)) [],.i su,.i mc,.sl FU [],.i l1,.i l2,.i l3,.i l4,.i l5,.i l6,.sl IJ ks,.b st,.b sp,.sl (.sl (.sl .u8)) rb,.i ru,.i vc,.b sf,.i dr,.sl Gi ss,.sl objT ob,.sl .i64 rl,.sl .i64 wl],nV 0 [] [] []]) []):=by
 have k:=ev_undefine sd au en ac re rs ck od su mc ix l1 l2 l3 l4 l5 l6 ks st sp rb ru vc sf dr ss ob rl wl hix hrl hwl
 refine tq ?_
 rw[k]
 exact tq rfl
theorem ev_exdf_t(h se u l cm dl:Int)(nn v n d w:List UInt8)(b:Bool)(hst:st=true)(hix:ix=[])(hh:h=1\/h=2)(hen:en.length<=100000)(hsl:ss.length<=1000)(hse:0<=se-768/\se-768<ss.length)(hsg:BA ss (se-768)=some (1,n,d,u,l,cm,dl,b))(hvm:v=dR w (Bh 10 [cmdB 21 [hierB h] [1,2,3,8] [[],[]],n,nn]))(hvl:v.length<=1000)(ho:ob.length<=1000)(ha:au.length=4)(hv:BA au h=some w)(hwl:w.length<=1000)(hn:n.length<=1000)(hnn:nn.length<=1000)(hq:rqG 21 2 [h] [(se,nn,v)] [1,2,3,8] [[],[]]):Y E0 (.call 131 [.agg [.sl (.sl .u8) sd,.sl (.sl .u8) au,.sl .u8 en,.i ac,.i re,.i rs,.i ck,.b od,.sl (.sl (.sl .u8)) [],.i su,.i mc,.sl FU ix,.i l1,.i l2,.i l3,.i l4,.i l5,.i l6,.sl IJ ks,.b st,.b sp,.sl (.sl (.sl .u8)) rb,.i ru,.i vc,.b sf,.i dr,.sl Gi ss,.sl objT ob,.sl .i64 rl,.sl .i64 wl],.i 0,rq 21 [h] [(se,nn,v)] [1,2,3,8] [[],[]]] [])=some (.ret (.tup [.agg [.sl (.sl .u8) sd,.sl (.sl .u8) au,.sl .u8 en,.i ac,.i re,.i rs,.i ck,.b od,.sl (.sl (.sl .u8)) [],.i su,.i mc,.sl FU [ctr],.i l1,.i l2,.i l3,.i l4,.i l5,.i l6,.sl IJ ks,.b st,.b sp,.sl (.sl (.sl .u8)) rb,.i ru,.i vc,.b sf,.i (BL dr 1),.sl Gi (BH ss (se-768) (1,iR en re rs dr 16,d,u,l,cm,dl,b)),.sl objT ob,.sl .i64 rl,.sl .i64 wl],nV 0 [] [] [iR en re rs dr 16]]) []):=by
 have hl:ix.length<=10:=by rw[hix];simp
 have hx:∀ x∈ix,iU x:=by rw[hix];intro x hx;cases hx
 have k1:=chk_of hq
 have k2:=ev_allowed1 sd au en ac re rs ck od su mc ix l1 l2 l3 l4 l5 l6 ks st sp rb ru vc sf dr ss ob rl wl 21 h w [(se,nn,v)] [1,2,3,8] [[],[]] zf hl hx ho ha hv (.inr ⟨.inl rfl,hh⟩)
 have k3:=ev_achkH_t sd au en ac re rs ck od su mc ix l1 l2 l3 l4 l5 l6 ks st sp rb ru vc sf dr ss ob rl wl 21 [] 1 [2,3,8] [[],[]] se nn v h u l cm dl n d b w hsl hse hsg hvm hvl zf hl hx ho ha hv zf hwl hn hnn zB zB (by intro x hx;simp at hx;subst hx;simp)
 have k4:=ev_authd21 sd au en ac re rs ck od su mc ix l1 l2 l3 l4 l5 l6 ks st sp rb ru vc sf dr ss ob rl wl h [(se,nn,v)] hix
 have k5:=ev_finH sd au en ac re rs ck od su mc [ctr] l1 l2 l3 l4 l5 l6 ks st sp rb ru vc sf dr ss ob rl wl 21 [h] nn v [] [1,2,3,8] [[],[]] se u l cm dl n d b hen hsl hse hsg
 subst hst
 refine tq ?_
 rw[k1]
 refine tq ?_
 rw[k2]
 refine tq ?_
 rw[k3]
 refine tq ?_
 rw[k4]
 conv=>lhs;whnf
 rw[JB]
 conv=>lhs;whnf
 rw[fG zf]
 conv=>lhs;whnf
 try dsimp -iota -beta -eta -zeta only
 rw[OQ]
 rw[k5]
 exact tq rfl
theorem ev_exdf_f(h se u l cm dl:Int)(nn v n d w:List UInt8)(b:Bool)(hst:st=true)(hix:ix=[])(hh:h=1\/h=2)(hsl:ss.length<=1000)(hse:0<=se-768/\se-768<ss.length)(hsg:BA ss (se-768)=some (1,n,d,u,l,cm,dl,b))(hvm:v≠dR w (Bh 10 [cmdB 21 [hierB h] [1,2,3,8] [[],[]],n,nn]))(hvl:v.length<=1000)(ho:ob.length<=1000)(ha:au.length=4)(hv:BA au h=some w)(hwl:w.length<=1000)(hn:n.length<=1000)(hnn:nn.length<=1000)(hq:rqG 21 2 [h] [(se,nn,v)] [1,2,3,8] [[],[]]):Y E0 (.call 131 [.agg [.sl (.sl .u8) sd,.sl (.sl .u8) au,.sl .u8 en,.i ac,.i re,.i rs,.i ck,.b od,.sl (.sl (.sl .u8)) [],.i su,.i mc,.sl FU ix,.i l1,.i l2,.i l3,.i l4,.i l5,.i l6,.sl IJ ks,.b st,.b sp,.sl (.sl (.sl .u8)) rb,.i ru,.i vc,.b sf,.i dr,.sl Gi ss,.sl objT ob,.sl .i64 rl,.sl .i64 wl],.i 0,rq 21 [h] [(se,nn,v)] [1,2,3,8] [[],[]]] [])=some (.ret (.tup [.agg [.sl (.sl .u8) sd,.sl (.sl .u8) au,.sl .u8 en,.i ac,.i re,.i rs,.i ck,.b od,.sl (.sl (.sl .u8)) [],.i su,.i mc,.sl FU ix,.i l1,.i l2,.i l3,.i l4,.i l5,.i l6,.sl IJ ks,.b st,.b sp,.sl (.sl (.sl .u8)) rb,.i ru,.i vc,.b sf,.i dr,.sl Gi ss,.sl objT ob,.sl .i64 rl,.sl .i64 wl],nV 9 [] [] []]) []):=by
 have hl:ix.length<=10:=by rw[hix];simp
 have hx:∀ x∈ix,iU x:=by rw[hix];intro x hx;cases hx
 have k1:=chk_of hq
 have k2:=ev_allowed1 sd au en ac re rs ck od su mc ix l1 l2 l3 l4 l5 l6 ks st sp rb ru vc sf dr ss ob rl wl 21 h w [(se,nn,v)] [1,2,3,8] [[],[]] zf hl hx ho ha hv (.inr ⟨.inl rfl,hh⟩)
 have k3:=ev_achkH_f sd au en ac re rs ck od su mc ix l1 l2 l3 l4 l5 l6 ks st sp rb ru vc sf dr ss ob rl wl 21 [] 1 [2,3,8] [[],[]] se nn v h u l cm dl n d b w hsl hse hsg hvm hvl zf hl hx ho ha hv zf hwl hn hnn zB zB (by intro x hx;simp at hx;subst hx;simp)
 have k4:=ev_mfail sd au en ac re rs ck od su mc ix l1 l2 l3 l4 l5 l6 ks st sp rb ru vc sf dr ss ob rl wl 9
 subst hst
 refine tq ?_
 rw[k1]
 refine tq ?_
 rw[k2]
 refine tq ?_
 rw[k3]
 refine tq ?_
 rw[k4]
 exact tq rfl
theorem ev_exud(h:Int)(v:List UInt8)(hst:st=true)(hix:ix=[ctr])(hrl:rl=[])(hwl:wl=[])(hh:h=1\/h=2)(ho:ob.length<=1000)(ha:au.length=4)(hv:BA au h=some v)(hv1:v.length<=1000)(hq:rqG 22 0 [h] [(0,[],v)] [1] []):Y E0 (.call 131 [.agg [.sl (.sl .u8) sd,.sl (.sl .u8) au,.sl .u8 en,.i ac,.i re,.i rs,.i ck,.b od,.sl (.sl (.sl .u8)) [],.i su,.i mc,.sl FU ix,.i l1,.i l2,.i l3,.i l4,.i l5,.i l6,.sl IJ ks,.b st,.b sp,.sl (.sl (.sl .u8)) rb,.i ru,.i vc,.b sf,.i dr,.sl Gi ss,.sl objT ob,.sl .i64 rl,.sl .i64 wl],.i 0,rq 22 [h] [(0,[],v)] [1] []] [])=some (.ret (.tup [.agg [.sl (.sl .u8) sd,.sl (.sl .u8) au,.sl .u8 en,.i ac,.i re,.i rs,.i ck,.b od,.sl (.sl (.sl .u8)) [],.i su,.i mc,.sl FU [],.i l1,.i l2,.i l3,.i l4,.i l5,.i l6,.sl IJ ks,.b st,.b sp,.sl (.sl (.sl .u8)) rb,.i ru,.i vc,.b sf,.i dr,.sl Gi ss,.sl objT ob,.sl .i64 rl,.sl .i64 wl],nV 0 [] [] []]) []):=by
 have hl:ix.length<=10:=by rw[hix];simp
 have hx:∀ x∈ix,iU x:=by rw[hix];intro x hx;simp at hx;subst hx;exact ctr_ok
 have k1:=chk_of hq
 have k2:=ev_allowed1 sd au en ac re rs ck od su mc ix l1 l2 l3 l4 l5 l6 ks st sp rb ru vc sf dr ss ob rl wl 22 h v [(0,[],v)] [1] [] zf hl hx ho ha hv (.inr ⟨.inr rfl,hh⟩)
 have k3:=ev_achk sd au en ac re rs ck od su mc ix l1 l2 l3 l4 l5 l6 ks st sp rb ru vc sf dr ss ob rl wl 22 h [] [] v [] [1] [] zf hl hx ho ha hv zf hv1
 have k4:=ev_authd22 sd au en ac re rs ck od su mc ix l1 l2 l3 l4 l5 l6 ks st sp rb ru vc sf dr ss ob rl wl h [(0,[],v)] hix hrl hwl
 have k5:=ev_fin0 sd au en ac re rs ck od su mc [] l1 l2 l3 l4 l5 l6 ks st sp rb ru vc sf dr ss ob rl wl 22 [h] [] v [] [1] []
 subst hst
 refine tq ?_
 rw[k1]
 refine tq ?_
 rw[k2]
 refine tq ?_
 rw[k3]
 refine tq ?_
 rw[k4]
 conv=>lhs;whnf
 rw[JB]
 conv=>lhs;whnf
 rw[fG zf]
 conv=>lhs;whnf
 try dsimp -iota -beta -eta -zeta only
 rw[OQ]
 rw[k5]
 exact tq rfl
end
section
attribute [local irreducible] BL BM BN BO BP BJ BQ CX Cm CY CW Ba Bc BF BC and' BG Bd Aa Ac Ad Ae Af AL AO AP AQ BR D8 BU D5 Be Bf Ag Ah Ai Aj AB AZ AU Ar BA BV BH BB Au Aw BI Bg BX fits BZ BK A7 A8 AC
attribute [local irreducible] D7 CG CQ nameB Dh Dv Bh Dp Dt Dn Di Ef Bz Fe Eo FY GH Ff G5 ER Hz I4 Gp
theorem bits4:BJ .or 0 (Ba 1 (Bf 0).toNat)=1/\BJ .or 0 (Ba 1 (Bf (0+1)).toNat)=2/\BJ .or 1 (Ba 1 (Bf (0+1)).toNat)=3:=by
 rw[aZ,ae,ak]
 decide +kernel
def actI(b0 b1:List (List UInt8)):Int:=(if b0.length=16 then 1 else 0)+(if b1.length=16 then 2 else 0)
theorem ev_gactG(h0:b0.length=0\/b0.length=16)(h1:b1.length=0\/b1.length=16):Y E0 (.call 155 [.agg [.sl (.sl (.sl .u8)) [b0,b1],.i u]] [])=some (.ret (.i (actI b0 b1)) []):=by
 have hg1:BA [b0,b1] (0+1)=some b1:=mi _ _ _
 have hq:Y E0 (.loop 155 0 0 1 [(1,.pa 0 0),(3,.i 0),(7,.i (Ar [b0,b1])),(8,.i 0)] [(0,some (.var [.sl (.sl (.sl .u8)) [b0,b1],.i u]))])=some (.fin (.exit 0) 0 [(3,.i (actI b0 b1))] []):=by
  unfold actI
  rcases h0 with h0|h0<;>rcases h1 with h1|h1
  ·rw[if_neg zf,if_neg zf];refine tq ?_;refine tq ?_;rw[hg1];refine tq ?_;refine tq ?_
   rfl
  ·rw[if_neg zf,if_pos h1];refine tq ?_;refine tq ?_;rw[hg1];refine tq ?_;refine tq ?_
   (rw[bits4.2.1];rfl)
  ·rw[if_pos h0,if_neg zf];refine tq ?_;refine tq ?_;rw[hg1];refine tq ?_;refine tq ?_
   (rw[bits4.1];rfl)
  ·rw[if_pos h0,if_pos h1];refine tq ?_;refine tq ?_;rw[hg1];refine tq ?_;refine tq ?_
   (rw[bits4.1,bits4.2.2];rfl)
 refine tq ?_;rw[hq];exact tq rfl
theorem bitsOn:(∀ v:Int,v=0\/v=2->BJ .and (Bc v (Bf 0).toNat) 1=0)/\(∀ v:Int,v=1\/v=3->BJ .and (Bc v (Bf 0).toNat) 1=1)/\(∀ v:Int,v=0\/v=1->BJ .and (Bc v (Bf 1).toNat) 1=0)/\(∀ v:Int,v=2\/v=3->BJ .and (Bc v (Bf 1).toNat) 1=1):=by
 rw[aZ,ah,ak]
 refine⟨?_,?_,?_,?_⟩<;>(rintro v (rfl|rfl)<;>decide +kernel)
theorem ev_gon0(h0:b0.length=0\/b0.length=16)(h1:b1.length=0\/b1.length=16):Y E0 (.call 283 [.agg [.sl (.sl (.sl .u8)) [b0,b1],.i u],.i 0] [])=some (.ret (.b (decide (0<b0.length))) []):=by
 have hb:BJ .and (Bc (actI b0 b1) (Bf 0).toNat) 1=if 0<b0.length then 1 else 0:=by
  unfold actI
  rcases h0 with h0|h0
  ·rw[if_neg (show ¬b0.length=16 by omega),if_neg (show ¬0<b0.length by omega)]
   exact bitsOn.1 _ (by split<;>omega)
  ·rw[if_pos h0,if_pos (show 0<b0.length by omega)]
   exact bitsOn.2.1 _ (by split<;>omega)
 refine tq ?_;rw[ev_gactG _ _ _ h0 h1];refine tq ?_;rw[hb]
 (rw[bu];by_cases h:0<b0.length<;>simp[h])
theorem ev_gon1(h0:b0.length=0\/b0.length=16)(h1:b1.length=0\/b1.length=16):Y E0 (.call 283 [.agg [.sl (.sl (.sl .u8)) [b0,b1],.i u],.i 1] [])=some (.ret (.b (decide (0<b1.length))) []):=by
 have hb:BJ .and (Bc (actI b0 b1) (Bf 1).toNat) 1=if 0<b1.length then 1 else 0:=by
  unfold actI
  rcases h1 with h1|h1
  ·rw[if_neg (show ¬b1.length=16 by omega),if_neg (show ¬0<b1.length by omega)]
   exact bitsOn.2.2.1 _ (by split<;>omega)
  ·rw[if_pos h1,if_pos (show 0<b1.length by omega)]
   exact bitsOn.2.2.2 _ (by split<;>omega)
 refine tq ?_;rw[ev_gactG _ _ _ h0 h1];refine tq ?_;rw[hb]
 (rw[bu];by_cases h:0<b1.length<;>simp[h])
theorem ex_gdig_l0(s0 s1:Int):Rets E0 (.loop 256 0 0 3 [(2,.pa 0 0),(3,.pa 1 0),(6,.nil),(7,.nm 2),(13,AV.agg [AV.i s0,AV.i s1]),(14,AV.i 0)] [(0,some (Rs.var [AV.sl Ty.u8.sl.sl [b0,b1],AV.i u])),(1,some (Rs.var [AV.i s0,AV.i s1])),(2,some (Rs.row 5 Ty.u8 []))]) fun r=>(∃ x:AV,(¬(0<=s0/\s0<=65535/\0<=s1/\s1<=65535))/\r=some (.fin .ret 3 [(2,.pa 0 0),(3,.pa 1 0),(4,.nil),(5,.i 1),(6,x),(7,.nm 2)] [(0,some (Rs.var [AV.sl Ty.u8.sl.sl [b0,b1],AV.i u])),(1,some (Rs.var [AV.i s0,AV.i s1])),(2,some (Rs.row 5 Ty.u8 []))]))\/((0<=s0/\s0<=65535/\0<=s1/\s1<=65535)/\r=some (.fin (.exit 0) 3 [(2,AV.pa 0 0),(3,AV.pa 1 0),(6,AV.sl Ty.u8 (Bz (Bz [] 2 s0) 2 s1)),(7,AV.nm 2)] [(0,some (Rs.var [AV.sl Ty.u8.sl.sl [b0,b1],AV.i u])),(1,some (Rs.var [AV.i s0,AV.i s1])),(2,some (Rs.row 5 Ty.u8 []))])):=by
 refine byP fun P hP=>?_
 refine tw ?_
 rcases ilt_c s0 0 with hc0|hc0
 ·refine tw ?_;exact hP _ (Or.inl ⟨AV.nil,NE,rfl⟩)
 refine tw ?_
 rcases ilt_c 65535 s0 with hc1|hc1
 ·refine tw ?_;exact hP _ (Or.inl ⟨AV.nil,NE,rfl⟩)
 refine tw ?_;rw[ev_uint _ _ _ NE];refine tw ?_;refine tw ?_
 rcases ilt_c s1 0 with hc2|hc2
 ·refine tw ?_;exact hP _ (Or.inl ⟨AV.sl Ty.u8 (Bz [] 2 s0),NE,rfl⟩)
 refine tw ?_
 rcases ilt_c 65535 s1 with hc3|hc3
 ·refine tw ?_;exact hP _ (Or.inl ⟨AV.sl Ty.u8 (Bz [] 2 s0),NE,rfl⟩)
 refine tw ?_;rw[ev_uint _ _ _ NE];refine tw ?_;refine tw ?_;exact hP _ (Or.inr ⟨NE,rfl⟩)
theorem ev_gdig_i(b0 b1 b:List (List UInt8))(u a s s0 s1:Int)(hd acc:List UInt8)(ha:acc.length<=20000)(hgb:BA [b0,b1] a=some b)(h:s=0\/b.length=16)(hm:∀ x∈b,x.length<=1000):∀(n j:Nat),j+n=16->Y E0 (.loop 256 2 0 2 [(2,.pa 0 0),(6,.sl .u8 hd),(7,.nm 1),(10,.i a),(11,.i s),(27,.agg [.i s0,.i s1]),(28,.i a),(40,.i (j:Int))] [(0,some (.var [.sl (.sl (.sl .u8)) [b0,b1],.i u])),(1,some (.row 5 .u8 (acc++selJ s b j)))])=some (.fin (.exit 4) 2 [(2,.pa 0 0),(6,.sl .u8 hd),(7,.nm 1),(27,.agg [.i s0,.i s1]),(28,.i a)] [(0,some (.var [.sl (.sl (.sl .u8)) [b0,b1],.i u])),(1,some (.row 5 .u8 (acc++selB s b)))])
 | 0,j,hj=>by
  obtain rfl:j=16:=zf
  refine tq ?_
  rfl
 | n+1,j,hj=>by
  have ih:=ev_gdig_i b0 b1 b u a s s0 s1 hd acc ha hgb h hm n (j+1) zf
  rw[show((j+1:Nat):Int)=(j:Int)+1 from by omega,selJ] at ih
  have hle:=selJ_le (s:=s) hm j
  by_cases hb:BJ .and (Bc s (Bf ((j:Nat):Int)).toNat) 1=1
  ·have hs:b.length=16:=by
    rcases h with h|h
    ·subst h;rw[bits0 j zf] at hb;cases hb
    ·exact h
   rw[if_pos hb,<-List.append_assoc] at ih
   have hg:BA b (j:Int)=some (b.getD j []):=by rw[lget_n zf];simp[List.getD,List.getElem?_eq_getElem (show j<b.length by omega)]
   have hx:(b.getD j []).length<=1000:=by
    have:=hm _ (List.getElem_mem (show j<b.length by omega))
    simpa [List.getD,List.getElem?_eq_getElem (show j<b.length by omega)] using this
   have happ:Aw (acc++selJ s b j) (b.getD j [])=acc++selJ s b j++b.getD j []:=UH _ _
   rw[JB];conv=>lhs;whnf
   rw[fH zf]
   conv=>lhs;whnf
   rw[fD hb];refine tq ?_;rw[hgb];refine to ?_;rw[hg];refine tq ?_;rw[happ];exact ih
  ·rw[if_neg hb,List.append_nil] at ih
   rw[JB];conv=>lhs;whnf
   rw[fH zf]
   conv=>lhs;whnf
   rw[fE hb];refine tq ?_;exact ih
theorem ex_gdig_l1(s0 s1:Int)(hd:List UInt8)(h0:b0=[]\/dX 20 b0)(h1:b1=[]\/dX 32 b1):Rets E0 (.loop 256 1 0 2 [(2,.pa 0 0),(6,.sl .u8 hd),(7,.nm 1),(27,AV.agg [AV.i s0,AV.i s1]),(28,AV.i 0)] [(0,some (Rs.var [AV.sl Ty.u8.sl.sl [b0,b1],AV.i u])),(1,some (Rs.row 5 Ty.u8 []))]) fun r=>(∃ x:List UInt8,(¬((s0=0\/0<b0.length)/\(s1=0\/0<b1.length)))/\r=some (.fin .ret 0 [(4,.nil),(5,.i 27),(6,.sl .u8 hd),(7,.sl .u8 x)] []))\/(((s0=0\/0<b0.length)/\(s1=0\/0<b1.length))/\r=some (.fin (.exit 2) 0 [(6,.sl .u8 hd),(7,AV.sl Ty.u8 (selB s0 b0++selB s1 b1))] [])):=by
 have q0:=bk_16 h0
 have q1:=bk_16 h1
 have k0:=(bk_le h0 zh).2
 have k1:=(bk_le h1 zh).2
 have g0:BA [b0,b1] 0=some b0:=mf _ _
 have g1:BA [b0,b1] 1=some b1:=mi _ _ _
 have e0:=fun h=>ev_gdig_i b0 b1 b0 u 0 s0 s0 s1 hd [] zB g0 h k0 16 0 zf
 have e1:=fun h=>ev_gdig_i b0 b1 b1 u 1 s1 s0 s1 hd (selB s0 b0) (by have:=selB_le (s:=s0) k0;omega) g1 h k1 16 0 zf
 simp only[List.nil_append,show ∀ s b,selJ s b 0=[] from fun _ _=>rfl,List.append_nil,show((0:Nat):Int)=0 from rfl] at e0 e1
 refine byP fun P hP=>?_
 refine tw ?_
 rcases ine_c s0 0 with hc0|hc0
 ·refine tw ?_;rw[ev_gon0 _ _ _ q0 q1];refine tw ?_
  rcases Decidable.em (0<b0.length) with hc1|hc1
  ·refine tw ?_;rw[e0 zf];refine tw ?_;refine tw ?_
   rcases ine_c s1 0 with hc2|hc2
   ·refine tw ?_;rw[ev_gon1 _ _ _ q0 q1];refine tw ?_
    rcases Decidable.em (0<b1.length) with hc3|hc3
    ·refine tw ?_;rw[e1 zf];refine tw ?_;refine tw ?_;exact hP _ (Or.inr ⟨NE,rfl⟩)
    refine tw ?_;exact hP _ (Or.inl ⟨selB s0 b0,NE,rfl⟩)
   subst hc2;refine tw ?_;rw[e1 zf];refine tw ?_;refine tw ?_;exact hP _ (Or.inr ⟨NE,rfl⟩)
  refine tw ?_;exact hP _ (Or.inl ⟨[],NE,rfl⟩)
 subst hc0;refine tw ?_;rw[e0 zf];refine tw ?_;refine tw ?_
 rcases ine_c s1 0 with hc4|hc4
 ·refine tw ?_;rw[ev_gon1 _ _ _ q0 q1];refine tw ?_
  rcases Decidable.em (0<b1.length) with hc5|hc5
  ·refine tw ?_;rw[e1 zf];refine tw ?_;refine tw ?_;exact hP _ (Or.inr ⟨NE,rfl⟩)
  refine tw ?_;exact hP _ (Or.inl ⟨selB 0 b0,NE,rfl⟩)
 subst hc4;refine tw ?_;rw[e1 zf];refine tw ?_;refine tw ?_;exact hP _ (Or.inr ⟨NE,rfl⟩)
theorem ex_gdig(s0 s1:Int)(h0:b0=[]\/dX 20 b0)(h1:b1=[]\/dX 32 b1):Rets E0 (.call 256 [.agg [.sl (.sl (.sl .u8)) [b0,b1],.i u],.agg [.i s0,.i s1]] []) fun r=>(∃ e:Int,(e=1/\¬(0<=s0/\s0<=65535/\0<=s1/\s1<=65535)\/e=27/\(0<=s0/\s0<=65535/\0<=s1/\s1<=65535)/\¬((s0=0\/0<b0.length)/\(s1=0\/0<b1.length)))/\r=some (.ret (.tup [.sl .u8 [],.i e]) []))\/(((0<=s0/\s0<=65535/\0<=s1/\s1<=65535)/\(s0=0\/0<b0.length)/\(s1=0\/0<b1.length))/\r=some (.ret (.tup [.sl .u8 (digR s0 s1 b0 b1),.i 0]) [])):=by
 have k0:=(bk_le h0 zh).2
 have k1:=(bk_le h1 zh).2
 have l0:=selB_le (s:=s0) k0
 have l1:=selB_le (s:=s1) k1
 have hf:(Bh 5 [Bz (Bz [] 2 s0) 2 s1,selB s0 b0++selB s1 b1]).length<=4294967295:=by rw[Zg,OO,OO,List.length_append,List.length_nil];omega
 refine byP fun P hP=>tw ?_
 obtain(⟨x0,h0_1,yy0⟩|⟨⟨h0_2,h0_3,h0_4,h0_5⟩,yy0⟩):=ex_gdig_l0 b0 b1 u s0 s1
 ·refine twn yy0 ?_;exact hP _ (Or.inl ⟨1,NE,rfl⟩)
 refine twn yy0 ?_
 obtain(⟨x1,h1_1,yy1⟩|⟨⟨h1_2,h1_3⟩,yy1⟩):=ex_gdig_l1 b0 b1 u s0 s1 (Bz (Bz [] 2 s0) 2 s1) NE NE
 ·refine twn yy1 ?_;exact hP _ (Or.inl ⟨27,NE,rfl⟩)
 refine twn yy1 ?_;rw[ev_dig_hash _ _ hf zB];refine tw ?_;exact hP _ (Or.inr ⟨NE,rfl⟩)
end
section
attribute [local irreducible] BL BM BN BO BP BJ BQ CX Cm CY CW Ba Bc BF BC and' BG Bd Aa Ac Ad Ae Af AL AO AP AQ BR D8 BU D5 Be Bf Ag Ah Ai Aj AB AZ AU Ar BA BV BH BB Au Aw BI Bg BX fits BZ BK A7 A8 AC
attribute [local irreducible] D7 CG CQ nameB Dh Dv Bh Dp Dt Dn Di Ef Bz Fe Eo FY GH Ff G5 ER Hz I4 Gp
theorem rets_ex{E:Env}{q:Rq}{R:Option Rsp->Prop}(h:Rets E q R):∃ r,Y E q=r/\R r:=⟨_,rfl,h⟩
theorem ex_r8digC(s0 s1:Int)(h0:b0=[]\/dX 20 b0)(h1:b1=[]\/dX 32 b1):Rets E0 (.call 32 [rgA [b0,b1] u,.agg [.i s0,.i s1]] []) fun r=>(∃ e:Int,(e=1/\¬(0<=s0/\s0<=65535/\0<=s1/\s1<=65535)\/e=27/\(0<=s0/\s0<=65535/\0<=s1/\s1<=65535)/\¬((s0=0\/0<b0.length)/\(s1=0\/0<b1.length)))/\r=some (.ret (.tup [.sl .u8 [],.i e]) []))\/(((0<=s0/\s0<=65535/\0<=s1/\s1<=65535)/\(s0=0\/0<b0.length)/\(s1=0\/0<b1.length))/\r=some (.ret (.tup [.sl .u8 (digR s0 s1 b0 b1),.i 0]) [])):=by
 have k0:=(bk_le h0 zh).2
 have k1:=(bk_le h1 zh).2
 have l0:=selB_le (s:=s0) k0
 have l1:=selB_le (s:=s1) k1
 have hf:(Bh 5 [Bz (Bz [] 2 s0) 2 s1,selB s0 b0++selB s1 b1]).length<=4294967295:=by rw[Zg,OO,OO,List.length_append,List.length_nil];omega
 refine byP fun P hP=>?_
 refine tw ?_
 obtain(⟨h0_0,yy0⟩|⟨⟨h0_1,h0_2,h0_3,h0_4⟩,yy0⟩):=ex_r8dig_l0 b0 b1 u s0 s1
 ·
  refine twn yy0 ?_
  exact hP _ (Or.inl ⟨1,NE,rfl⟩)
 refine twn yy0 ?_
 obtain(⟨x1,h1_1,yy1⟩|⟨⟨h1_2,h1_3⟩,yy1⟩):=ex_r8dig_l1 b0 b1 u s0 s1 NE NE
 ·
  refine twn yy1 ?_
  exact hP _ (Or.inl ⟨27,NE,rfl⟩)
 refine twn yy1 ?_
 rw[ev_r3uint _ _ _ NE]
 refine tw ?_
 rw[ev_r3uint _ _ _ NE]
 refine tw ?_
 rw[ev_ref_hash _ _ hf zB]
 refine tw ?_
 exact hP _ (Or.inr ⟨NE,rfl⟩)
theorem ex_r8digZ_l0(s0 s1:Int):Rets E0 (.loop 32 0 0 2 [(2,AV.pa 0 0),(3,AV.pa 1 0),(6,AV.i 0)] [(0,some (Rs.var [AV.sl Ty.u8.sl.sl [],AV.i u])),(1,some (Rs.var [AV.i s0,AV.i s1]))]) fun r=>(¬(0<=s0/\s0<=65535/\0<=s1/\s1<=65535)/\r=some (.fin .ret 2 [(2,.pa 0 0),(3,.pa 1 0),(4,.nil),(5,.i 1)] [(0,some (Rs.var [AV.sl Ty.u8.sl.sl [],AV.i u])),(1,some (Rs.var [AV.i s0,AV.i s1]))]))\/((0<=s0/\s0<=65535/\0<=s1/\s1<=65535)/\r=some (.fin (.exit 0) 2 [(2,.pa 0 0),(3,.pa 1 0)] [(0,some (Rs.var [AV.sl Ty.u8.sl.sl [],AV.i u])),(1,some (Rs.var [AV.i s0,AV.i s1]))])):=by
 refine byP fun P hP=>?_
 rw[JB];conv=>arg 1;whnf
 refine tw ?_
 rcases ilt_c s0 0 with hc0|hc0
 ·
  refine tw ?_
  exact hP _ (Or.inl ⟨NE,rfl⟩)
 refine tw ?_
 rcases ilt_c 65535 s0 with hc1|hc1
 ·
  refine tw ?_
  exact hP _ (Or.inl ⟨NE,rfl⟩)
 refine tw ?_
 refine tw ?_
 rcases ilt_c s1 0 with hc2|hc2
 ·
  refine tw ?_
  exact hP _ (Or.inl ⟨NE,rfl⟩)
 refine tw ?_
 rcases ilt_c 65535 s1 with hc3|hc3
 ·
  refine tw ?_
  exact hP _ (Or.inl ⟨NE,rfl⟩)
 refine tw ?_
 refine tw ?_
 exact hP _ (Or.inr ⟨NE,rfl⟩)
theorem ev_r8digZ_i0(u s0 s1:Int)(acc:List UInt8)(ha:acc.length<=20000)(hs:s0=0):∀(n j:Nat),j+n=16->Y E0 (.loop 32 2 0 3 [(2,AV.pa 0 0),(3,AV.pa 1 0),(7,AV.nm 2),(8,AV.i 0),(9,AV.i (j:Int))] [(0,some (Rs.var [AV.sl Ty.u8.sl.sl [],AV.i u])),(1,some (Rs.var [AV.i s0,AV.i s1])),(2,some (Rs.row 5 Ty.u8 acc))])=some (.fin (.exit 4) 3 [(2,AV.pa 0 0),(3,AV.pa 1 0),(7,AV.nm 2),(8,AV.i 0)] [(0,some (Rs.var [AV.sl Ty.u8.sl.sl [],AV.i u])),(1,some (Rs.var [AV.i s0,AV.i s1])),(2,some (Rs.row 5 Ty.u8 acc))])
 | 0,j,hj=>by
  obtain rfl:j=16:=zf
  rw[JB];conv=>lhs;whnf
  refine tq ?_
  with_reducible rfl
 | n+1,j,hj=>by
  have ih:=ev_r8digZ_i0 u s0 s1 acc ha hs n (j+1) zf
  rw[show((j+1:Nat):Int)=(j:Int)+1 from by omega] at ih
  have hb:¬BJ .and (Bc s0 (Bf ((j:Nat):Int)).toNat) 1=1:=by rw[hs,bits0 j zf];decide
  rw[JB];conv=>lhs;whnf
  refine tq ?_
  exact ih
theorem ev_r8digZ_i1(u s0 s1:Int)(acc:List UInt8)(ha:acc.length<=20000)(hs:s1=0):∀(n j:Nat),j+n=16->Y E0 (.loop 32 2 0 3 [(2,AV.pa 0 0),(3,AV.pa 1 0),(7,AV.nm 2),(8,AV.i 1),(9,AV.i (j:Int))] [(0,some (Rs.var [AV.sl Ty.u8.sl.sl [],AV.i u])),(1,some (Rs.var [AV.i s0,AV.i s1])),(2,some (Rs.row 5 Ty.u8 acc))])=some (.fin (.exit 4) 3 [(2,AV.pa 0 0),(3,AV.pa 1 0),(7,AV.nm 2),(8,AV.i 1)] [(0,some (Rs.var [AV.sl Ty.u8.sl.sl [],AV.i u])),(1,some (Rs.var [AV.i s0,AV.i s1])),(2,some (Rs.row 5 Ty.u8 acc))])
 | 0,j,hj=>by
  obtain rfl:j=16:=zf
  rw[JB];conv=>lhs;whnf
  refine tq ?_
  with_reducible rfl
 | n+1,j,hj=>by
  have ih:=ev_r8digZ_i1 u s0 s1 acc ha hs n (j+1) zf
  rw[show((j+1:Nat):Int)=(j:Int)+1 from by omega] at ih
  have hb:¬BJ .and (Bc s1 (Bf ((j:Nat):Int)).toNat) 1=1:=by rw[hs,bits0 j zf];decide
  rw[JB];conv=>lhs;whnf
  refine tq ?_
  exact ih
theorem ex_r8digZ_l1(s0 s1:Int):Rets E0 (.loop 32 1 0 3 [(2,AV.pa 0 0),(3,AV.pa 1 0),(7,AV.nm 2),(8,AV.i 0)] [(0,some (Rs.var [AV.sl Ty.u8.sl.sl [],AV.i u])),(1,some (Rs.var [AV.i s0,AV.i s1])),(2,some (Rs.row 5 Ty.u8 []))]) fun r=>(∃ x:List UInt8,(¬(s0=0/\s1=0))/\r=some (.fin .ret 1 [(3,AV.pa 0 0),(4,AV.nil),(5,AV.i 27),(7,AV.sl Ty.u8 x)] [(0,some (Rs.var [AV.i s0,AV.i s1]))]))\/((s0=0/\s1=0)/\r=some (.fin (.exit 2) 1 [(3,AV.pa 0 0),(7,AV.sl Ty.u8 [])] [(0,some (Rs.var [AV.i s0,AV.i s1]))])):=by
 have e0:=fun h=>ev_r8digZ_i0 u s0 s1 [] zB h 16 0 zf
 have e1:=fun h=>ev_r8digZ_i1 u s0 s1 [] zB h 16 0 zf
 simp only[show((0:Nat):Int)=0 from rfl] at e0 e1
 refine byP fun P hP=>?_
 rw[JB];conv=>arg 1;whnf
 refine tw ?_
 rcases ine_c s0 0 with hc0|hc0
 ·
  refine tw ?_
  rw[ev_r8actn _ _ NE]
  refine tw ?_
  exact hP _ (Or.inl ⟨[],NE,rfl⟩)
 subst hc0
 replace e0:=e0 rfl
 refine tw ?_
 rw[e0]
 refine tw ?_
 refine tw ?_
 rcases ine_c s1 0 with hc1|hc1
 ·
  refine tw ?_
  rw[ev_r8actn _ _ NE]
  refine tw ?_
  exact hP _ (Or.inl ⟨[],NE,rfl⟩)
 subst hc1
 replace e1:=e1 rfl
 refine tw ?_
 rw[e1]
 refine tw ?_
 refine tw ?_
 exact hP _ (Or.inr ⟨NE,rfl⟩)
theorem ex_r8digZ(s0 s1:Int):Rets E0 (.call 32 [.agg [AV.sl Ty.u8.sl.sl [],AV.i u],.agg [.i s0,.i s1]] []) fun r=>(∃ e:Int,(e=1/\¬(0<=s0/\s0<=65535/\0<=s1/\s1<=65535)\/e=27/\(0<=s0/\s0<=65535/\0<=s1/\s1<=65535)/\¬(s0=0/\s1=0))/\r=some (.ret (.tup [.sl .u8 [],.i e]) []))\/(((0<=s0/\s0<=65535/\0<=s1/\s1<=65535)/\(s0=0/\s1=0))/\r=some (.ret (.tup [.sl .u8 (sha256 (Bh 5 [Bz (Bz [] 2 s0) 2 s1,[]])),.i 0]) [])):=by
 have hf:(Bh 5 [Bz (Bz [] 2 s0) 2 s1,[]]).length<=4294967295:=by rw[Zg,OO,OO,List.length_nil];simp
 obtain⟨r0,e0,hr0⟩:=rets_ex (ex_r8digZ_l0 u s0 s1)
 obtain⟨r1,e1,hr1⟩:=rets_ex (ex_r8digZ_l1 u s0 s1)
 rcases hr0 with⟨hn,rfl⟩|⟨hn,rfl⟩
 ·refine byP fun P hP=>?_
  refine tw ?_
  rw[e0]
  refine tw ?_
  exact hP _ (Or.inl ⟨1,NE,rfl⟩)
 ·rcases hr1 with⟨x,hm,rfl⟩|⟨hm,rfl⟩
  ·refine byP fun P hP=>?_
   refine tw ?_
   rw[e0]
   refine tw ?_
   rw[e1]
   refine tw ?_
   exact hP _ (Or.inl ⟨27,NE,rfl⟩)
  ·refine byP fun P hP=>?_
   refine tw ?_
   rw[e0]
   refine tw ?_
   rw[e1]
   refine tw ?_
   rw[ev_r3uint _ _ _ NE]
   refine tw ?_
   rw[ev_r3uint _ _ _ NE]
   refine tw ?_
   rw[ev_ref_hash _ _ hf zB]
   refine tw ?_
   exact hP _ (Or.inr ⟨NE,rfl⟩)
theorem ev_gactZ:Y E0 (.call 155 [.agg [AV.sl Ty.u8.sl.sl [],AV.i u]] [])=some (.ret (.i 0) []):=by
 have hq:Y E0 (.loop 155 0 0 1 [(1,.pa 0 0),(3,.i 0),(7,.i (Ar ([]:List (List (List UInt8))))),(8,.i 0)] [(0,some (.var [AV.sl Ty.u8.sl.sl [],AV.i u]))])=some (.fin (.exit 0) 0 [(3,.i 0)] []):=by
  exact tq rfl
 refine tq ?_
 rw[hq]
 exact tq rfl
theorem ev_gonZ(a:Int)(ha:a=0\/a=1):Y E0 (.call 283 [.agg [AV.sl Ty.u8.sl.sl [],AV.i u],.i a] [])=some (.ret (.b false) []):=by
 rcases ha with rfl|rfl
 ·refine tq ?_
  rw[ev_gactZ]
  refine tq ?_
  rw[bitsOn.1 0 zf]
  (congr 3;simp only[bu,bz,ilt_eq,ile_eq,UK,bi,QP];first|rfl|(rw[decide_eq_decide];omega)|(simp;omega))
 ·refine tq ?_
  rw[ev_gactZ]
  refine tq ?_
  rw[bitsOn.2.2.1 0 zf]
  (congr 3;simp only[bu,bz,ilt_eq,ile_eq,UK,bi,QP];first|rfl|(rw[decide_eq_decide];omega)|(simp;omega))
theorem ex_gdigZ_l0(s0 s1:Int):Rets E0 (.loop 256 0 0 3 [(2,.pa 0 0),(3,.pa 1 0),(6,.nil),(7,.nm 2),(13,AV.agg [AV.i s0,AV.i s1]),(14,AV.i 0)] [(0,some (Rs.var [AV.sl Ty.u8.sl.sl [],AV.i u])),(1,some (Rs.var [AV.i s0,AV.i s1])),(2,some (Rs.row 5 Ty.u8 []))]) fun r=>(∃ x:AV,(¬(0<=s0/\s0<=65535/\0<=s1/\s1<=65535))/\r=some (.fin .ret 3 [(2,.pa 0 0),(3,.pa 1 0),(4,.nil),(5,.i 1),(6,x),(7,.nm 2)] [(0,some (Rs.var [AV.sl Ty.u8.sl.sl [],AV.i u])),(1,some (Rs.var [AV.i s0,AV.i s1])),(2,some (Rs.row 5 Ty.u8 []))]))\/((0<=s0/\s0<=65535/\0<=s1/\s1<=65535)/\r=some (.fin (.exit 0) 3 [(2,AV.pa 0 0),(3,AV.pa 1 0),(6,AV.sl Ty.u8 (Bz (Bz [] 2 s0) 2 s1)),(7,AV.nm 2)] [(0,some (Rs.var [AV.sl Ty.u8.sl.sl [],AV.i u])),(1,some (Rs.var [AV.i s0,AV.i s1])),(2,some (Rs.row 5 Ty.u8 []))])):=by
 refine byP fun P hP=>?_
 rw[JB];conv=>arg 1;whnf
 refine tw ?_
 rcases ilt_c s0 0 with hc0|hc0
 ·
  refine tw ?_
  exact hP _ (Or.inl ⟨AV.nil,NE,rfl⟩)
 refine tw ?_
 rcases ilt_c 65535 s0 with hc1|hc1
 ·
  refine tw ?_
  exact hP _ (Or.inl ⟨AV.nil,NE,rfl⟩)
 refine tw ?_
 rw[ev_uint _ _ _ NE]
 refine tw ?_
 refine tw ?_
 rcases ilt_c s1 0 with hc2|hc2
 ·
  refine tw ?_
  exact hP _ (Or.inl ⟨AV.sl Ty.u8 (Bz [] 2 s0),NE,rfl⟩)
 refine tw ?_
 rcases ilt_c 65535 s1 with hc3|hc3
 ·
  refine tw ?_
  exact hP _ (Or.inl ⟨AV.sl Ty.u8 (Bz [] 2 s0),NE,rfl⟩)
 refine tw ?_
 rw[ev_uint _ _ _ NE]
 refine tw ?_
 refine tw ?_
 exact hP _ (Or.inr ⟨NE,rfl⟩)
theorem ev_gdigZ_i(u a s s0 s1:Int)(hd acc:List UInt8)(ha:acc.length<=20000)(h:s=0):∀(n j:Nat),j+n=16->Y E0 (.loop 256 2 0 2 [(2,.pa 0 0),(6,.sl .u8 hd),(7,.nm 1),(10,.i a),(11,.i s),(27,.agg [.i s0,.i s1]),(28,.i a),(40,.i (j:Int))] [(0,some (.var [AV.sl Ty.u8.sl.sl [],AV.i u])),(1,some (.row 5 .u8 acc))])=some (.fin (.exit 4) 2 [(2,.pa 0 0),(6,.sl .u8 hd),(7,.nm 1),(27,.agg [.i s0,.i s1]),(28,.i a)] [(0,some (.var [AV.sl Ty.u8.sl.sl [],AV.i u])),(1,some (.row 5 .u8 acc))])
 | 0,j,hj=>by
  obtain rfl:j=16:=zf
  rw[JB];conv=>lhs;whnf
  refine tq ?_
  with_reducible rfl
 | n+1,j,hj=>by
  have ih:=ev_gdigZ_i u a s s0 s1 hd acc ha h n (j+1) zf
  rw[show((j+1:Nat):Int)=(j:Int)+1 from by omega] at ih
  have hb:¬BJ .and (Bc s (Bf ((j:Nat):Int)).toNat) 1=1:=by rw[h,bits0 j zf];decide
  rw[JB];conv=>lhs;whnf
  refine tq ?_
  exact ih
theorem ex_gdigZ_l1(s0 s1:Int)(hd:List UInt8):Rets E0 (.loop 256 1 0 2 [(2,.pa 0 0),(6,.sl .u8 hd),(7,.nm 1),(27,AV.agg [AV.i s0,AV.i s1]),(28,AV.i 0)] [(0,some (Rs.var [AV.sl Ty.u8.sl.sl [],AV.i u])),(1,some (Rs.row 5 Ty.u8 []))]) fun r=>(∃ x:List UInt8,(¬(s0=0/\s1=0))/\r=some (.fin .ret 0 [(4,.nil),(5,.i 27),(6,.sl .u8 hd),(7,.sl .u8 x)] []))\/((s0=0/\s1=0)/\r=some (.fin (.exit 2) 0 [(6,.sl .u8 hd),(7,AV.sl Ty.u8 [])] [])):=by
 have e0:=fun h=>ev_gdigZ_i u 0 s0 s0 s1 hd [] zB h 16 0 zf
 have e1:=fun h=>ev_gdigZ_i u 1 s1 s0 s1 hd [] zB h 16 0 zf
 simp only[show((0:Nat):Int)=0 from rfl] at e0 e1
 refine byP fun P hP=>?_
 rw[JB];conv=>arg 1;whnf
 refine tw ?_
 rcases ine_c s0 0 with hc0|hc0
 ·
  refine tw ?_
  rw[ev_gonZ _ _ zf]
  refine tw ?_
  exact hP _ (Or.inl ⟨[],NE,rfl⟩)
 subst hc0
 replace e0:=e0 rfl
 refine tw ?_
 rw[e0]
 refine tw ?_
 refine tw ?_
 rcases ine_c s1 0 with hc1|hc1
 ·
  refine tw ?_
  rw[ev_gonZ _ _ zf]
  refine tw ?_
  exact hP _ (Or.inl ⟨[],NE,rfl⟩)
 subst hc1
 replace e1:=e1 rfl
 refine tw ?_
 rw[e1]
 refine tw ?_
 refine tw ?_
 exact hP _ (Or.inr ⟨NE,rfl⟩)
theorem ex_gdigZ(s0 s1:Int):Rets E0 (.call 256 [.agg [AV.sl Ty.u8.sl.sl [],AV.i u],.agg [.i s0,.i s1]] []) fun r=>(∃ e:Int,(e=1/\¬(0<=s0/\s0<=65535/\0<=s1/\s1<=65535)\/e=27/\(0<=s0/\s0<=65535/\0<=s1/\s1<=65535)/\¬(s0=0/\s1=0))/\r=some (.ret (.tup [.sl .u8 [],.i e]) []))\/(((0<=s0/\s0<=65535/\0<=s1/\s1<=65535)/\(s0=0/\s1=0))/\r=some (.ret (.tup [.sl .u8 (sha256 (Bh 5 [Bz (Bz [] 2 s0) 2 s1,[]])),.i 0]) [])):=by
 have hf:(Bh 5 [Bz (Bz [] 2 s0) 2 s1,[]]).length<=4294967295:=by rw[Zg,OO,OO,List.length_nil];simp
 refine byP fun P hP=>?_
 refine tw ?_
 obtain(⟨x0,h0_1,yy0⟩|⟨⟨h0_2,h0_3,h0_4,h0_5⟩,yy0⟩):=ex_gdigZ_l0 u s0 s1
 ·
  refine twn yy0 ?_
  exact hP _ (Or.inl ⟨1,NE,rfl⟩)
 refine twn yy0 ?_
 obtain(⟨x1,h1_1,yy1⟩|⟨⟨h1_2,h1_3⟩,yy1⟩):=ex_gdigZ_l1 u s0 s1 (Bz (Bz [] 2 s0) 2 s1)
 ·
  refine twn yy1 ?_
  exact hP _ (Or.inl ⟨27,NE,rfl⟩)
 refine twn yy1 ?_
 rw[ev_dig_hash _ _ hf zB]
 refine tw ?_
 exact hP _ (Or.inr ⟨NE,rfl⟩)
theorem dig_both{a:Int}{rb:List (List (List UInt8))}(q0 q1:Int)(h:iq a rb):∃(d:List UInt8) (er:Int),d.length<=1000/\Y E0 (.call 256 [.agg [.sl (.sl (.sl .u8)) rb,.i u],.agg [.i q0,.i q1]] [])=some (.ret (.tup [.sl .u8 d,.i er]) [])/\Y E0 (.call 32 [.agg [.sl (.sl (.sl .u8)) rb,.i u],.agg [.i q0,.i q1]] [])=some (.ret (.tup [.sl .u8 d,.i er]) []):=by
 rcases h with rfl|⟨b0,b1,rfl,h0,h1,_⟩
 ·obtain⟨r,er,hr⟩:=rets_ex (ex_gdigZ u q0 q1)
  obtain⟨r',er',hr'⟩:=rets_ex (ex_r8digZ u q0 q1)
  rcases hr with⟨e,he,rfl⟩|⟨he,rfl⟩<;>rcases hr' with⟨e',he',rfl⟩|⟨he',rfl⟩
  ·obtain rfl:e=e':=zf
   exact⟨_,_,by simp,er,er'⟩
  ·exfalso;omega
  ·exfalso;omega
  ·exact⟨_,_,by rw[Gu];decide,er,er'⟩
 ·obtain⟨r,er,hr⟩:=rets_ex (ex_gdig b0 b1 u q0 q1 h0 h1)
  obtain⟨r',er',hr'⟩:=rets_ex (ex_r8digC b0 b1 u q0 q1 h0 h1)
  rcases hr with⟨e,he,rfl⟩|⟨he,rfl⟩<;>rcases hr' with⟨e',he',rfl⟩|⟨he',rfl⟩
  ·obtain rfl:e=e':=zf
   exact⟨_,_,by simp,er,er'⟩
  ·exfalso;omega
  ·exfalso;omega
  ·exact⟨_,_,by unfold digR;rw[Gu];decide,er,er'⟩
end
section
attribute [local irreducible] BL BM BN BO BP BJ BQ CX Cm CY CW Ba Bc BF BC and' BG Bd Aa Ac Ad Ae Af AL AO AP AQ BR D8 BU D5 Be Bf Ag Ah Ai Aj AB AZ AU Ar BA BV BH BB Au Aw BI Bg BX fits BZ BK A7 A8 AC
theorem dig01_len:dig01.length=32:=Gu _
theorem ev_polses(h kd x4 x5 x6 x7:Int)(x2 x3:List UInt8)(x8:Bool)(hl:ss.length<=1000)(hh:0<=h-768/\h-768<ss.length)(hg:BA ss (h-768)=some (kd,x2,x3,x4,x5,x6,x7,x8))(hz:kd=2):Y E0 (.call 229 [.agg [.sl (.sl .u8) sd,.sl (.sl .u8) au,.sl .u8 en,.i ac,.i re,.i rs,.i ck,.b od,.sl (.sl (.sl .u8)) [],.i su,.i mc,.sl FU ix,.i l1,.i l2,.i l3,.i l4,.i l5,.i l6,.sl IJ ks,.b st,.b sp,.sl (.sl (.sl .u8)) rb,.i ru,.i vc,.b sf,.i dr,.sl Gi ss,.sl objT ob,.sl .i64 rl,.sl .i64 wl],.i h] [])=some (.ret (.tup [.i (h-768),nP kd x2 x3 x4 x5 x6 x7 x8,.b true]) []):=by
 subst hz
 refine tq ?_
 rw[ev_sfind_t (hl:=NE) (hh:=NE) (hg:=NE) (hz:=NE) ..]
 exact tq rfl
theorem ev_chkreg(x3:List UInt8)(x8:Bool)(hrb:rb=newRB 2):Y E0 (.call 321 [.agg [.sl (.sl .u8) sd,.sl (.sl .u8) au,.sl .u8 en,.i ac,.i re,.i rs,.i ck,.b od,.sl (.sl (.sl .u8)) [],.i su,.i mc,.sl FU ix,.i l1,.i l2,.i l3,.i l4,.i l5,.i l6,.sl IJ ks,.b st,.b sp,.sl (.sl (.sl .u8)) rb,.i ru,.i vc,.b sf,.i dr,.sl Gi ss,.sl objT ob,.sl .i64 rl,.sl .i64 wl],nP 2 x2 x3 (-1) x5 x6 x7 x8,asA 1 0 1 [] 0 0 [] [] [] []] [])=some (.ret (.tup [nP 2 x2 x3 ru x5 x6 x7 x8,asA 1 0 1 dig01 0 0 [] [] [] [],.i 0]) []):=by
 have hRB:newRB 2=[[],bankB 32]:=rfl
 subst hrb
 have hd:=ev_gdig ru
 rw[<-hRB] at hd
 refine tq ?_
 rw[hd]
 exact tq rfl
theorem ev_scheck(x3:List UInt8)(x8:Bool)(hrb:rb=newRB 2):Y E0 (.call 286 [.agg [.sl (.sl .u8) sd,.sl (.sl .u8) au,.sl .u8 en,.i ac,.i re,.i rs,.i ck,.b od,.sl (.sl (.sl .u8)) [],.i su,.i mc,.sl FU ix,.i l1,.i l2,.i l3,.i l4,.i l5,.i l6,.sl IJ ks,.b st,.b sp,.sl (.sl (.sl .u8)) rb,.i ru,.i vc,.b sf,.i dr,.sl Gi ss,.sl objT ob,.sl .i64 rl,.sl .i64 wl],nP 2 x2 x3 (-1) x5 x6 x7 x8,asA 1 0 1 [] 0 0 [] [] [] []] [])=some (.ret (.tup [nP 2 x2 x3 ru x5 x6 x7 x8,asA 1 0 1 dig01 0 0 [] [] [] [],.i 0]) []):=by
 rw[JB]
 conv=>lhs;whnf
 rw[fD zf]
 conv=>lhs;whnf
 try dsimp -iota -beta -eta -zeta only
 rw[OQ]
 rw[ev_chkreg (hrb:=NE) ..]
 exact tq rfl
theorem ev_sext(k x4 x5 x6 x7:Int)(x2 x3 d:List UInt8)(x8:Bool)(hl:ss.length<=1000)(hk:0<=k/\k<ss.length)(h3:x3.length<=1000)(hd:d.length=32):Y E0 (.call 232 [.agg [.sl (.sl .u8) sd,.sl (.sl .u8) au,.sl .u8 en,.i ac,.i re,.i rs,.i ck,.b od,.sl (.sl (.sl .u8)) [],.i su,.i mc,.sl FU ix,.i l1,.i l2,.i l3,.i l4,.i l5,.i l6,.sl IJ ks,.b st,.b sp,.sl (.sl (.sl .u8)) rb,.i ru,.i vc,.b sf,.i dr,.sl Gi ss,.sl objT ob,.sl .i64 rl,.sl .i64 wl],.i k,nP 2 x2 x3 x4 x5 x6 x7 x8,asA 1 0 1 d 0 0 [] [] [] []] [])=some (.ret (.agg [.sl (.sl .u8) sd,.sl (.sl .u8) au,.sl .u8 en,.i ac,.i re,.i rs,.i ck,.b od,.sl (.sl (.sl .u8)) [],.i su,.i mc,.sl FU ix,.i l1,.i l2,.i l3,.i l4,.i l5,.i l6,.sl IJ ks,.b st,.b sp,.sl (.sl (.sl .u8)) rb,.i ru,.i vc,.b sf,.i dr,.sl Gi (BH ss k (2,x2,polX x3 d,x4,x5,x6,x7,x8)),.sl objT ob,.sl .i64 rl,.sl .i64 wl]) []):=by
 have k1:=ev_polext x3 d h3 hd
 refine tq ?_
 rw[k1]
 refine tq ?_
 rw[ev_sput (hl:=NE) (hk:=NE) ..]
 exact tq rfl
theorem ev_assert(h x5 x6 x7:Int)(x2 x3:List UInt8)(x8:Bool)(hrb:rb=newRB 2)(hl:ss.length<=1000)(hh:0<=h-768/\h-768<ss.length)(hg:BA ss (h-768)=some (2,x2,x3,(-1:Int),x5,x6,x7,x8))(h3:x3.length<=1000):Y E0 (.call 227 [.agg [.sl (.sl .u8) sd,.sl (.sl .u8) au,.sl .u8 en,.i ac,.i re,.i rs,.i ck,.b od,.sl (.sl (.sl .u8)) [],.i su,.i mc,.sl FU ix,.i l1,.i l2,.i l3,.i l4,.i l5,.i l6,.sl IJ ks,.b st,.b sp,.sl (.sl (.sl .u8)) rb,.i ru,.i vc,.b sf,.i dr,.sl Gi ss,.sl objT ob,.sl .i64 rl,.sl .i64 wl],.i h,asA 1 0 1 [] 0 0 [] [] [] []] [])=some (.ret (.tup [.agg [.sl (.sl .u8) sd,.sl (.sl .u8) au,.sl .u8 en,.i ac,.i re,.i rs,.i ck,.b od,.sl (.sl (.sl .u8)) [],.i su,.i mc,.sl FU ix,.i l1,.i l2,.i l3,.i l4,.i l5,.i l6,.sl IJ ks,.b st,.b sp,.sl (.sl (.sl .u8)) rb,.i ru,.i vc,.b sf,.i dr,.sl Gi (BH ss (h-768) (2,x2,polX x3 dig01,ru,x5,x6,x7,x8)),.sl objT ob,.sl .i64 rl,.sl .i64 wl],.i 0]) []):=by
 have k1:=ev_sext sd au en ac re rs ck od su mc ix l1 l2 l3 l4 l5 l6 ks st sp rb ru vc sf dr ss ob rl wl (h-768) ru x5 x6 x7 x2 x3 dig01 x8 hl hh h3 dig01_len
 refine tq ?_
 rw[ev_polses (hl:=NE) (hh:=NE) (hg:=NE) (hz:=NE) ..]
 refine tq ?_
 rw[ev_pstart]
 refine tq ?_
 rw[ev_polchk _ (by(simp only[n8_len,n4_len,n2_len,bl_len,Gu,OO,Xa,ZO,zen_len,LL] at *<;>omega))]
 refine tq ?_
 rw[ev_scheck (hrb:=NE) ..]
 refine tq ?_
 rw[k1]
 exact tq rfl
theorem g17_3:BA [h,1,0,1,0,0] 3=some 1:=by rw[lget_i zB];rfl
theorem g17_4:BA [h,1,0,1,0,0] 4=some 0:=by rw[lget_i zB];rfl
theorem g17_5:BA [h,1,0,1,0,0] 5=some 0:=by rw[lget_i zB];rfl
theorem ev_massert(h x5 x6 x7:Int)(x2 x3:List UInt8)(x8:Bool)(hrb:rb=newRB 2)(hl:ss.length<=1000)(hh:0<=h-768/\h-768<ss.length)(hg:BA ss (h-768)=some (2,x2,x3,(-1:Int),x5,x6,x7,x8))(h3:x3.length<=1000):Y E0 (.call 190 [.agg [.sl (.sl .u8) sd,.sl (.sl .u8) au,.sl .u8 en,.i ac,.i re,.i rs,.i ck,.b od,.sl (.sl (.sl .u8)) [],.i su,.i mc,.sl FU ix,.i l1,.i l2,.i l3,.i l4,.i l5,.i l6,.sl IJ ks,.b st,.b sp,.sl (.sl (.sl .u8)) rb,.i ru,.i vc,.b sf,.i dr,.sl Gi ss,.sl objT ob,.sl .i64 rl,.sl .i64 wl],rq 17 [] [] [h,1,0,1,0,0] [[]]] [])=some (.ret (.tup [.agg [.sl (.sl .u8) sd,.sl (.sl .u8) au,.sl .u8 en,.i ac,.i re,.i rs,.i ck,.b od,.sl (.sl (.sl .u8)) [],.i su,.i mc,.sl FU ix,.i l1,.i l2,.i l3,.i l4,.i l5,.i l6,.sl IJ ks,.b st,.b sp,.sl (.sl (.sl .u8)) rb,.i ru,.i vc,.b sf,.i dr,.sl Gi (BH ss (h-768) (2,x2,polX x3 dig01,ru,x5,x6,x7,x8)),.sl objT ob,.sl .i64 rl,.sl .i64 wl],nV 0 [] [] []]) []):=by
 refine tq ?_
 rw[g17_3]
 refine tq ?_
 rw[g17_4]
 refine tq ?_
 rw[g17_5]
 refine tq ?_
 rw[ev_assert (hrb:=NE) (hl:=NE) (hh:=NE) (hg:=NE) (h3:=NE) ..]
 refine tq ?_
 rw[ev_done ..]
 exact tq rfl
theorem ev_plpo(h x5 x6 x7:Int)(x2 x3:List UInt8)(x8:Bool)(hrb:rb=newRB 2)(hl:ss.length<=1000)(hh:0<=h-768/\h-768<ss.length)(hg:BA ss (h-768)=some (2,x2,x3,(-1:Int),x5,x6,x7,x8))(h3:x3.length<=1000):Y E0 (.call 163 [.agg [.sl (.sl .u8) sd,.sl (.sl .u8) au,.sl .u8 en,.i ac,.i re,.i rs,.i ck,.b od,.sl (.sl (.sl .u8)) [],.i su,.i mc,.sl FU ix,.i l1,.i l2,.i l3,.i l4,.i l5,.i l6,.sl IJ ks,.b st,.b sp,.sl (.sl (.sl .u8)) rb,.i ru,.i vc,.b sf,.i dr,.sl Gi ss,.sl objT ob,.sl .i64 rl,.sl .i64 wl],.i 0,rq 17 [] [] [h,1,0,1,0,0] [[]]] [])=some (.ret (.tup [.agg [.sl (.sl .u8) sd,.sl (.sl .u8) au,.sl .u8 en,.i ac,.i re,.i rs,.i ck,.b od,.sl (.sl (.sl .u8)) [],.i su,.i mc,.sl FU ix,.i l1,.i l2,.i l3,.i l4,.i l5,.i l6,.sl IJ ks,.b st,.b sp,.sl (.sl (.sl .u8)) rb,.i ru,.i vc,.b sf,.i dr,.sl Gi (BH ss (h-768) (2,x2,polX x3 dig01,ru,x5,x6,x7,x8)),.sl objT ob,.sl .i64 rl,.sl .i64 wl],nV 0 [] [] []]) []):=by
 refine tq ?_
 rw[ev_massert (hrb:=NE) (hl:=NE) (hh:=NE) (hg:=NE) (h3:=NE) ..]
 exact tq rfl
theorem ev_expo(h x5 x6 x7:Int)(x2 x3:List UInt8)(x8:Bool)(hst:st=true)(hrb:rb=newRB 2)(hl:ss.length<=1000)(hh:0<=h-768/\h-768<ss.length)(hg:BA ss (h-768)=some (2,x2,x3,(-1:Int),x5,x6,x7,x8))(h3:x3.length<=1000)(hq:rqG 17 (-1) [] [] [h,1,0,1,0,0] [[]]):Y E0 (.call 131 [.agg [.sl (.sl .u8) sd,.sl (.sl .u8) au,.sl .u8 en,.i ac,.i re,.i rs,.i ck,.b od,.sl (.sl (.sl .u8)) [],.i su,.i mc,.sl FU ix,.i l1,.i l2,.i l3,.i l4,.i l5,.i l6,.sl IJ ks,.b st,.b sp,.sl (.sl (.sl .u8)) rb,.i ru,.i vc,.b sf,.i dr,.sl Gi ss,.sl objT ob,.sl .i64 rl,.sl .i64 wl],.i 0,rq 17 [] [] [h,1,0,1,0,0] [[]]] [])=some (.ret (.tup [.agg [.sl (.sl .u8) sd,.sl (.sl .u8) au,.sl .u8 en,.i ac,.i re,.i rs,.i ck,.b od,.sl (.sl (.sl .u8)) [],.i su,.i mc,.sl FU ix,.i l1,.i l2,.i l3,.i l4,.i l5,.i l6,.sl IJ ks,.b st,.b sp,.sl (.sl (.sl .u8)) rb,.i ru,.i vc,.b sf,.i dr,.sl Gi (BH ss (h-768) (2,x2,polX x3 dig01,ru,x5,x6,x7,x8)),.sl objT ob,.sl .i64 rl,.sl .i64 wl],nV 0 [] [] []]) []):=by
 have k1:=chk_of hq
 have k2:=ev_allowed0 sd au en ac re rs ck od su mc ix l1 l2 l3 l4 l5 l6 ks st sp rb ru vc sf dr ss ob rl wl 17 [] [h,1,0,1,0,0] [[]]
 subst hst
 refine tq ?_
 rw[k1]
 refine tq ?_
 rw[k2]
 refine tq ?_
 rw[ev_plpo (hrb:=NE) (hl:=NE) (hh:=NE) (hg:=NE) (h3:=NE) ..]
 exact tq rfl
end
section
attribute [local irreducible] BL BM BN BO BP BJ BQ CX Cm CY CW Ba Bc BF BC and' BG Bd Aa Ac Ad Ae Af AL AO AP AQ BR D8 BU D5 Be Bf Ag Ah Ai Aj AB AZ AU Ar BA BV BH BB Au Aw BI Bg BX fits BZ BK A7 A8 AC
attribute [local irreducible] Dt
theorem ev_allowed9(h:Int)(v:List UInt8)(az:List (El MR))(is:List Int)(bs:List (List UInt8))(hh:0<=h/\h<=2)(hl:ix.length<=10)(hx:∀ x∈ix,iU x)(ho:ob.length<=1000)(ha:au.length=4)(hv:BA au h=some v):Y E0 (.call 162 [.agg [.sl (.sl .u8) sd,.sl (.sl .u8) au,.sl .u8 en,.i ac,.i re,.i rs,.i ck,.b od,.sl (.sl (.sl .u8)) [],.i su,.i mc,.sl FU ix,.i l1,.i l2,.i l3,.i l4,.i l5,.i l6,.sl IJ ks,.b st,.b sp,.sl (.sl (.sl .u8)) rb,.i ru,.i vc,.b sf,.i dr,.sl Gi ss,.sl objT ob,.sl .i64 rl,.sl .i64 wl],rq 9 [h] az is bs] [])=some (.ret (.b true) []):=by
 have hn:=ev_ename_h sd au en ac re rs ck od su mc ix l1 l2 l3 l4 l5 l6 ks st sp rb ru vc sf dr ss ob rl wl h v zf hl hx ho ha hv
 have l0:=ev_al_l sd au en ac re rs ck od su mc ix l1 l2 l3 l4 l5 l6 ks st sp rb ru vc sf dr ss ob rl wl 9 [h] az is bs zB (fun x hx=>by simp at hx;subst hx;exact⟨_,hn⟩) 1 0 rfl
 have e2:Ar [h]=1:=by rw[QP];rfl
 rw[show((List.length [h]:Nat):Int)=1 from rfl,show((0:Nat):Int)=0 from rfl] at l0
 refine tq ?_
 simp only[e2,Nat.reduceAdd];rw[l0]
 conv=>lhs;whnf
 rw[e2]
 conv=>lhs;whnf
 rw[fE zf]
 conv=>lhs;whnf
 rw[mf];conv=>lhs;whnf
 rw[fD zf]
 conv=>lhs;whnf
 (congr 3;simp only[bu,bz,ilt_eq,ile_eq,UK,bi,QP];first|rfl|(rw[decide_eq_decide];omega)|(simp;omega))
theorem ev_authd9(h k a t:Int)(az:List (El MR))(o u d:List UInt8)(hl:ob.length<=1000)(hsd:sd.length<=1000)(hsl:∀ l∈sd,l.length<=1000)(ho:o.length<=50000)(hd:d.length<=50000)(e:Int)(is:List Int)(bs:List (List UInt8))(ob2:List (El objT))(hp:Dt sd ob h k a t o u d=(ob2,⟨e,is,bs⟩)):Y E0 (.call 165 [.agg [.sl (.sl .u8) sd,.sl (.sl .u8) au,.sl .u8 en,.i ac,.i re,.i rs,.i ck,.b od,.sl (.sl (.sl .u8)) [],.i su,.i mc,.sl FU ix,.i l1,.i l2,.i l3,.i l4,.i l5,.i l6,.sl IJ ks,.b st,.b sp,.sl (.sl (.sl .u8)) rb,.i ru,.i vc,.b sf,.i dr,.sl Gi ss,.sl objT ob,.sl .i64 rl,.sl .i64 wl],rq 9 [h] az [k,a,t] [o,u,d]] [])=some (.ret (.tup [.agg [.sl (.sl .u8) sd,.sl (.sl .u8) au,.sl .u8 en,.i ac,.i re,.i rs,.i ck,.b od,.sl (.sl (.sl .u8)) [],.i su,.i mc,.sl FU ix,.i l1,.i l2,.i l3,.i l4,.i l5,.i l6,.sl IJ ks,.b st,.b sp,.sl (.sl (.sl .u8)) rb,.i ru,.i vc,.b sf,.i dr,.sl Gi ss,.sl objT ob2,.sl .i64 rl,.sl .i64 wl],nV e is bs []]) []):=by
 have hr:=ev_oprim sd au en ac re rs ck od [] su mc ix l1 l2 l3 l4 l5 l6 ks st sp rb ru vc sf dr ss ob rl wl 9 h k a t [] az o u d hl hsd hsl zB ho hd
 rw[hp] at hr
 refine tq ?_
 rw[hr]
 exact tq rfl
theorem ev_expr(h k a t:Int)(o u d:List UInt8)(hst:st=true)(hh:0<=h/\h<=2)(hl:ix.length<=10)(hx:∀ x∈ix,iU x)(hol:ob.length<=1000)(ha:au.length=4)(hv:BA au h=some ([]:List UInt8))(hsd:sd.length<=1000)(hsl:∀ l∈sd,l.length<=1000)(ho:o.length<=50000)(hd:d.length<=50000)(is:List Int)(bs:List (List UInt8))(ob2:List (El objT))(hp:Dt sd ob h k a t o u d=(ob2,⟨0,is,bs⟩))(hq:rqG 9 3 [h] [(0,[],[])] [k,a,t] [o,u,d]):Y E0 (.call 131 [.agg [.sl (.sl .u8) sd,.sl (.sl .u8) au,.sl .u8 en,.i ac,.i re,.i rs,.i ck,.b od,.sl (.sl (.sl .u8)) [],.i su,.i mc,.sl FU ix,.i l1,.i l2,.i l3,.i l4,.i l5,.i l6,.sl IJ ks,.b st,.b sp,.sl (.sl (.sl .u8)) rb,.i ru,.i vc,.b sf,.i dr,.sl Gi ss,.sl objT ob,.sl .i64 rl,.sl .i64 wl],.i 0,rq 9 [h] [(0,[],[])] [k,a,t] [o,u,d]] [])=some (.ret (.tup [.agg [.sl (.sl .u8) sd,.sl (.sl .u8) au,.sl .u8 en,.i ac,.i re,.i rs,.i ck,.b od,.sl (.sl (.sl .u8)) [],.i su,.i mc,.sl FU ix,.i l1,.i l2,.i l3,.i l4,.i l5,.i l6,.sl IJ ks,.b st,.b sp,.sl (.sl (.sl .u8)) rb,.i ru,.i vc,.b sf,.i dr,.sl Gi ss,.sl objT ob2,.sl .i64 rl,.sl .i64 wl],nV 0 is bs []]) []):=by
 have k1:=chk_of hq
 have k2:=ev_allowed9 sd au en ac re rs ck od su mc ix l1 l2 l3 l4 l5 l6 ks st sp rb ru vc sf dr ss ob rl wl h [] [(0,[],[])] [k,a,t] [o,u,d] hh hl hx hol ha hv
 have k3:=ev_achk sd au en ac re rs ck od su mc ix l1 l2 l3 l4 l5 l6 ks st sp rb ru vc sf dr ss ob rl wl 9 h [] [] [] [] [k,a,t] [o,u,d] hh hl hx hol ha hv zf zB
 have k4:=ev_authd9 sd au en ac re rs ck od su mc ix l1 l2 l3 l4 l5 l6 ks st sp rb ru vc sf dr ss ob rl wl h k a t [(0,[],[])] o u d hol hsd hsl ho hd 0 is bs ob2 hp
 have k5:=ev_fin0 sd au en ac re rs ck od su mc ix l1 l2 l3 l4 l5 l6 ks st sp rb ru vc sf dr ss ob2 rl wl 9 [h] [] [] [] [k,a,t] [o,u,d]
 subst hst
 refine tq ?_
 rw[k1]
 refine tq ?_
 rw[k2]
 refine tq ?_
 rw[k3]
 refine tq ?_
 rw[k4]
 conv=>lhs;whnf
 rw[JB]
 conv=>lhs;whnf
 rw[fG zf]
 conv=>lhs;whnf
 try dsimp -iota -beta -eta -zeta only
 rw[OQ]
 rw[k5]
 exact tq rfl
end
section
attribute [local irreducible] BL BM BN BO BP BJ BQ CX Cm CY CW Ba Bc BF BC and' BG Bd Aa Ac Ad Ae Af AL AO AP AQ BR D8 BU D5 Be Bf Ag Ah Ai Aj AB AZ AU Ar BA BV BH BB Au Aw BI Bg BX fits BZ BK A7 A8 AC
theorem ev_eidx0_l:Y E0 (.loop 183 0 0 0 [(1,.i h),(10,.sl FU []),(11,.i 0),(12,.i 0)] [])=some (.fin (.exit 0) 0 [] []):=by
 rw[JB];conv=>lhs;whnf
 refine tq ?_
 with_reducible rfl
theorem ev_eidx0(h:Int)(hix:ix=[]):Y E0 (.call 183 [.agg [.sl (.sl .u8) sd,.sl (.sl .u8) au,.sl .u8 en,.i ac,.i re,.i rs,.i ck,.b od,.sl (.sl (.sl .u8)) [],.i su,.i mc,.sl FU ix,.i l1,.i l2,.i l3,.i l4,.i l5,.i l6,.sl IJ ks,.b st,.b sp,.sl (.sl (.sl .u8)) rb,.i ru,.i vc,.b sf,.i dr,.sl Gi ss,.sl objT ob,.sl .i64 rl,.sl .i64 wl],.i h] [])=some (.ret (.tup [.i 0,.i 7]) []):=by
 have e0:Ar ([]:List (El FU))=0:=by rw[QP];rfl
 subst hix
 refine tq ?_
 rw[e0,ev_eidx0_l]
 exact tq rfl
theorem ev_efind_o(h:Int)(p1 p2 p3:Int)(p4 p5 s1 s2 s3:List UInt8)(hr:Int)(hh:512<=h/\h<=515)(hix:ix=[])(hol:ob.length<=1000)(hx:slotAt ob h=some ((p1,p2,p3,p4,p5),(s1,s2,s3),hr))(h4:p4.length<=1000)(h5:p5.length<=1000):Y E0 (.call 216 [.agg [.sl (.sl .u8) sd,.sl (.sl .u8) au,.sl .u8 en,.i ac,.i re,.i rs,.i ck,.b od,.sl (.sl (.sl .u8)) [],.i su,.i mc,.sl FU ix,.i l1,.i l2,.i l3,.i l4,.i l5,.i l6,.sl IJ ks,.b st,.b sp,.sl (.sl (.sl .u8)) rb,.i ru,.i vc,.b sf,.i dr,.sl Gi ss,.sl objT ob,.sl .i64 rl,.sl .i64 wl],.i h] [])=some (.ret (.tup [.agg [.sl .u8 (nameB ⟨p1,p2,p3,p4,p5⟩),.sl .u8 s1,.sl .u8 p4,.b (CX (BJ .and p2 2) 0)],.i 0]) []):=by
 have k1:=ev_eidx0 sd au en ac re rs ck od su mc ix l1 l2 l3 l4 l5 l6 ks st sp rb ru vc sf dr ss ob rl wl h hix
 have k2:=ev_eobj_t sd au en ac re rs ck od [] su mc ix l1 l2 l3 l4 l5 l6 ks st sp rb ru vc sf dr ss ob rl wl h p1 p2 p3 p4 p5 s1 s2 s3 hr hol hx
 refine tq ?_
 rw[k1]
 refine tq ?_
 rw[k2]
 refine tq ?_
 rw[ev_aname _ _ _ _ _ NE NE]
 exact tq rfl
theorem ev_epol_o(h:Int)(p1 p2 p3:Int)(p4 p5 s1 s2 s3:List UInt8)(hr:Int)(hh:512<=h/\h<=515)(hix:ix=[])(hol:ob.length<=1000)(hx:slotAt ob h=some ((p1,p2,p3,p4,p5),(s1,s2,s3),hr))(h4:p4.length<=1000)(h5:p5.length<=1000):Y E0 (.call 241 [.agg [.sl (.sl .u8) sd,.sl (.sl .u8) au,.sl .u8 en,.i ac,.i re,.i rs,.i ck,.b od,.sl (.sl (.sl .u8)) [],.i su,.i mc,.sl FU ix,.i l1,.i l2,.i l3,.i l4,.i l5,.i l6,.sl IJ ks,.b st,.b sp,.sl (.sl (.sl .u8)) rb,.i ru,.i vc,.b sf,.i dr,.sl Gi ss,.sl objT ob,.sl .i64 rl,.sl .i64 wl],.i h] [])=some (.ret (.tup [.sl .u8 p4,.i 0]) []):=by
 have k:=ev_efind_o sd au en ac re rs ck od su mc ix l1 l2 l3 l4 l5 l6 ks st sp rb ru vc sf dr ss ob rl wl h p1 p2 p3 p4 p5 s1 s2 s3 hr hh hix hol hx h4 h5
 refine tq ?_
 rw[k]
 exact tq rfl
theorem ev_ename_o(h:Int)(p1 p2 p3:Int)(p4 p5 s1 s2 s3:List UInt8)(hr:Int)(hh:512<=h/\h<=515)(hix:ix=[])(hol:ob.length<=1000)(hx:slotAt ob h=some ((p1,p2,p3,p4,p5),(s1,s2,s3),hr))(h4:p4.length<=1000)(h5:p5.length<=1000):Y E0 (.call 181 [.agg [.sl (.sl .u8) sd,.sl (.sl .u8) au,.sl .u8 en,.i ac,.i re,.i rs,.i ck,.b od,.sl (.sl (.sl .u8)) [],.i su,.i mc,.sl FU ix,.i l1,.i l2,.i l3,.i l4,.i l5,.i l6,.sl IJ ks,.b st,.b sp,.sl (.sl (.sl .u8)) rb,.i ru,.i vc,.b sf,.i dr,.sl Gi ss,.sl objT ob,.sl .i64 rl,.sl .i64 wl],.i h] [])=some (.ret (.tup [.sl .u8 (nameB ⟨p1,p2,p3,p4,p5⟩),.i 0]) []):=by
 have k:=ev_efind_o sd au en ac re rs ck od su mc ix l1 l2 l3 l4 l5 l6 ks st sp rb ru vc sf dr ss ob rl wl h p1 p2 p3 p4 p5 s1 s2 s3 hr hh hix hol hx h4 h5
 refine tq ?_
 rw[k]
 exact tq rfl
theorem ev_kattr0(se:Int)(nn v:List UInt8)(g h:Int)(hix:ix=[]):Y E0 (.call 242 [.agg [.sl (.sl .u8) sd,.sl (.sl .u8) au,.sl .u8 en,.i ac,.i re,.i rs,.i ck,.b od,.sl (.sl (.sl .u8)) [],.i su,.i mc,.sl FU ix,.i l1,.i l2,.i l3,.i l4,.i l5,.i l6,.sl IJ ks,.b st,.b sp,.sl (.sl (.sl .u8)) rb,.i ru,.i vc,.b sf,.i dr,.sl Gi ss,.sl objT ob,.sl .i64 rl,.sl .i64 wl,.i c,.sl .i64 hs,.sl MR az,.sl .i64 qi,.sl (.sl .u8) qb,.i se,.sl .u8 nn,.sl .u8 v,.i g],.i h] [])=some (.ret (.tup [.i 0,.b false]) []):=by
 have k:=ev_eidx0 sd au en ac re rs ck od su mc ix l1 l2 l3 l4 l5 l6 ks st sp rb ru vc sf dr ss ob rl wl h hix
 refine tq ?_
 rw[k]
 exact tq rfl
theorem ev_kpol(se:Int)(nn v:List UInt8)(h:Int)(p1 p2 p3:Int)(p4 p5 s1 s2 s3:List UInt8)(hr:Int)(x2:List UInt8)(hh:512<=h/\h<=515)(hix:ix=[])(hol:ob.length<=1000)(hx:slotAt ob h=some ((p1,p2,p3,p4,p5),(s1,s2,s3),hr))(h4:p4.length=32)(h5:p5.length<=1000)(hru:ru ≠ -1):Y E0 (.call 195 [.agg [.sl (.sl .u8) sd,.sl (.sl .u8) au,.sl .u8 en,.i ac,.i re,.i rs,.i ck,.b od,.sl (.sl (.sl .u8)) [],.i su,.i mc,.sl FU ix,.i l1,.i l2,.i l3,.i l4,.i l5,.i l6,.sl IJ ks,.b st,.b sp,.sl (.sl (.sl .u8)) rb,.i ru,.i vc,.b sf,.i dr,.sl Gi ss,.sl objT ob,.sl .i64 rl,.sl .i64 wl,.i c,.sl .i64 hs,.sl MR az,.sl .i64 qi,.sl (.sl .u8) qb,.i se,.sl .u8 nn,.sl .u8 v,.i h],nP 2 x2 p4 ru 31 0 0 false,.i 0] [])=some (.ret (.tup [.agg [.sl (.sl .u8) sd,.sl (.sl .u8) au,.sl .u8 en,.i ac,.i re,.i rs,.i ck,.b od,.sl (.sl (.sl .u8)) [],.i su,.i mc,.sl FU ix,.i l1,.i l2,.i l3,.i l4,.i l5,.i l6,.sl IJ ks,.b st,.b sp,.sl (.sl (.sl .u8)) rb,.i ru,.i vc,.b sf,.i dr,.sl Gi ss,.sl objT ob,.sl .i64 rl,.sl .i64 wl],.i 0]) []):=by
 have k1:=ev_epol_o sd au en ac re rs ck od su mc ix l1 l2 l3 l4 l5 l6 ks st sp rb ru vc sf dr ss ob rl wl h p1 p2 p3 p4 p5 s1 s2 s3 hr hh hix hol hx zf h5
 have k2:=ev_kattr0 sd au en ac re rs ck od su mc ix l1 l2 l3 l4 l5 l6 ks st sp rb ru vc sf dr ss ob rl wl c hs az qi qb se nn v h h hix
 have b1:BJ .and (Bc 31 (Bf 0).toNat) 1=1:=by
  rw[show(Bf 0).toNat=0 from by rw[iu64_eq];rfl,ishr_eq zf];exact(iand_mask 1 zh _).trans zB
 refine tq ?_
 rw[k1]
 refine tq ?_
 rw[k2]
 conv=>lhs;whnf
 rw[fK zf]
 conv=>lhs;whnf
 rw[fM zf]
 conv=>lhs;whnf
 rw[fE (by(simp only[n8_len,n4_len,n2_len,bl_len,Gu,OO,Xa,ZO,zen_len,LL] at *<;>omega))]
 conv=>lhs;whnf
 rw[fG zf]
 conv=>lhs;whnf
 try dsimp -iota -beta -eta -zeta only
 rw[drw zi];conv=>lhs;whnf
 rw[fJ zf]
 conv=>lhs;whnf
 rw[JB]
 conv=>lhs;whnf
 rw[fJ zf]
 conv=>lhs;whnf
 rw[b1]
 conv=>lhs;whnf
 rw[fE zf]
 conv=>lhs;whnf
 rw[fG zf]
 conv=>lhs;whnf
 rw[fF zf]
 conv=>lhs;whnf
 rw[JB]
 conv=>lhs;whnf
 rw[fG zf]
 conv=>lhs;whnf
 rw[UK];conv=>lhs;whnf
 rw[fO (by(simp only[n8_len,n4_len,n2_len,bl_len,Gu,OO,Xa,ZO,zen_len,LL] at *<;>omega))]
 conv=>lhs;whnf
 rw[UK];conv=>lhs;whnf
theorem ev_achkP(v:List UInt8)(az:List (El MR))(qi:List Int)(qb:List (List UInt8))(se h:Int)(p1 p2 p3:Int)(p4 p5 s1 s2 s3:List UInt8)(hr:Int)(x2:List UInt8)(hh:512<=h/\h<=515)(hix:ix=[])(hol:ob.length<=1000)(hx:slotAt ob h=some ((p1,p2,p3,p4,p5),(s1,s2,s3),hr))(h4:p4.length=32)(h5:p5.length<=1000)(hru:ru ≠ -1)(hsl:ss.length<=1000)(hse:0<=se-768/\se-768<ss.length)(hsg:BA ss (se-768)=some (2,x2,p4,ru,31,0,0,false)):Y E0 (.call 164 [.agg [.sl (.sl .u8) sd,.sl (.sl .u8) au,.sl .u8 en,.i ac,.i re,.i rs,.i ck,.b od,.sl (.sl (.sl .u8)) [],.i su,.i mc,.sl FU ix,.i l1,.i l2,.i l3,.i l4,.i l5,.i l6,.sl IJ ks,.b st,.b sp,.sl (.sl (.sl .u8)) rb,.i ru,.i vc,.b sf,.i dr,.sl Gi ss,.sl objT ob,.sl .i64 rl,.sl .i64 wl],.i 0,rq c [h] ((se,nn,v)::az) qi qb] [])=some (.ret (.tup [.agg [.sl (.sl .u8) sd,.sl (.sl .u8) au,.sl .u8 en,.i ac,.i re,.i rs,.i ck,.b od,.sl (.sl (.sl .u8)) [],.i su,.i mc,.sl FU ix,.i l1,.i l2,.i l3,.i l4,.i l5,.i l6,.sl IJ ks,.b st,.b sp,.sl (.sl (.sl .u8)) rb,.i ru,.i vc,.b sf,.i dr,.sl Gi ss,.sl objT ob,.sl .i64 rl,.sl .i64 wl],.i 0]) []):=by
 have k1:=ev_kpol sd au en ac re rs ck od su mc ix l1 l2 l3 l4 l5 l6 ks st sp rb ru vc sf dr ss ob rl wl c [h] ((se,nn,v)::az) qi qb se nn v h p1 p2 p3 p4 p5 s1 s2 s3 hr x2 hh hix hol hx h4 h5 hru
 have k2:=ev_sFind sd au en ac re rs ck od su mc ix l1 l2 l3 l4 l5 l6 ks st sp rb ru vc sf dr ss ob rl wl se 2 ru 31 0 0 x2 p4 false hsl hse hsg zf
 refine tq ?_
 rw[k2]
 refine tq ?_
 rw[k1]
 exact tq rfl
theorem ev_finP(v:List UInt8)(az:List (El MR))(qi:List Int)(qb:List (List UInt8))(se u l cm dl:Int)(n d:List UInt8)(b:Bool)(hsl:ss.length<=1000)(hse:0<=se-768/\se-768<ss.length)(hsg:BA ss (se-768)=some (2,n,d,u,l,cm,dl,b)):Y E0 (.call 166 [.agg [.sl (.sl .u8) sd,.sl (.sl .u8) au,.sl .u8 en,.i ac,.i re,.i rs,.i ck,.b od,.sl (.sl (.sl .u8)) [],.i su,.i mc,.sl FU ix,.i l1,.i l2,.i l3,.i l4,.i l5,.i l6,.sl IJ ks,.b st,.b sp,.sl (.sl (.sl .u8)) rb,.i ru,.i vc,.b sf,.i dr,.sl Gi ss,.sl objT ob,.sl .i64 rl,.sl .i64 wl],rq c hs ((se,nn,v)::az) qi qb] [])=some (.ret (.tup [.agg [.sl (.sl .u8) sd,.sl (.sl .u8) au,.sl .u8 en,.i ac,.i re,.i rs,.i ck,.b od,.sl (.sl (.sl .u8)) [],.i su,.i mc,.sl FU ix,.i l1,.i l2,.i l3,.i l4,.i l5,.i l6,.sl IJ ks,.b st,.b sp,.sl (.sl (.sl .u8)) rb,.i ru,.i vc,.b sf,.i dr,.sl Gi (BH ss (se-768) ses0),.sl objT ob,.sl .i64 rl,.sl .i64 wl],.sl (.sl .u8) []]) []):=by
 have k2:=ev_sFind sd au en ac re rs ck od su mc ix l1 l2 l3 l4 l5 l6 ks st sp rb ru vc sf dr ss ob rl wl se 2 u l cm dl n d b hsl hse hsg zf
 have k3:=ev_sclose_t sd au en ac re rs ck od [] su mc ix l1 l2 l3 l4 l5 l6 ks st sp rb ru vc sf dr ss ob rl wl se 2 u l cm dl n d b hsl hse hsg zf
 refine tq ?_
 rw[k2]
 refine tq ?_
 rw[k3]
 exact tq rfl
theorem ev_allowed13(h:Int)(az:List (El MR))(is:List Int)(bs:List (List UInt8))(p1 p2 p3:Int)(p4 p5 s1 s2 s3:List UInt8)(hr:Int)(hh:512<=h/\h<=515)(hix:ix=[])(hol:ob.length<=1000)(hx:slotAt ob h=some ((p1,p2,p3,p4,p5),(s1,s2,s3),hr))(h4:p4.length<=1000)(h5:p5.length<=1000):Y E0 (.call 162 [.agg [.sl (.sl .u8) sd,.sl (.sl .u8) au,.sl .u8 en,.i ac,.i re,.i rs,.i ck,.b od,.sl (.sl (.sl .u8)) [],.i su,.i mc,.sl FU ix,.i l1,.i l2,.i l3,.i l4,.i l5,.i l6,.sl IJ ks,.b st,.b sp,.sl (.sl (.sl .u8)) rb,.i ru,.i vc,.b sf,.i dr,.sl Gi ss,.sl objT ob,.sl .i64 rl,.sl .i64 wl],rq 13 [h] az is bs] [])=some (.ret (.b true) []):=by
 have hn:=ev_ename_o sd au en ac re rs ck od su mc ix l1 l2 l3 l4 l5 l6 ks st sp rb ru vc sf dr ss ob rl wl h p1 p2 p3 p4 p5 s1 s2 s3 hr hh hix hol hx h4 h5
 have l0:=ev_al_l sd au en ac re rs ck od su mc ix l1 l2 l3 l4 l5 l6 ks st sp rb ru vc sf dr ss ob rl wl 13 [h] az is bs zB (fun x hx=>by simp at hx;subst hx;exact⟨_,hn⟩) 1 0 rfl
 have k2:=ev_eobj_t sd au en ac re rs ck od [] su mc ix l1 l2 l3 l4 l5 l6 ks st sp rb ru vc sf dr ss ob rl wl h p1 p2 p3 p4 p5 s1 s2 s3 hr hol hx
 have e2:Ar [h]=1:=by rw[QP];rfl
 rw[show((List.length [h]:Nat):Int)=1 from rfl,show((0:Nat):Int)=0 from rfl] at l0
 refine tq ?_
 simp only[e2,Nat.reduceAdd];rw[l0]
 conv=>lhs;whnf
 rw[e2]
 refine tq ?_
 rw[k2]
 conv=>lhs;whnf
 (congr 3;simp only[bu,bz,ilt_eq,ile_eq,UK,bi,QP];first|rfl|(rw[decide_eq_decide];omega)|(simp;omega))
theorem ev_authd13(h:Int)(az:List (El MR))(is:List Int)(bs:List (List UInt8))(p1 p2 p3:Int)(p4 p5 s1 s2 s3:List UInt8)(hr:Int)(hol:ob.length<=1000)(hx:slotAt ob h=some ((p1,p2,p3,p4,p5),(s1,s2,s3),hr))(h3:p1=3):Y E0 (.call 165 [.agg [.sl (.sl .u8) sd,.sl (.sl .u8) au,.sl .u8 en,.i ac,.i re,.i rs,.i ck,.b od,.sl (.sl (.sl .u8)) [],.i su,.i mc,.sl FU ix,.i l1,.i l2,.i l3,.i l4,.i l5,.i l6,.sl IJ ks,.b st,.b sp,.sl (.sl (.sl .u8)) rb,.i ru,.i vc,.b sf,.i dr,.sl Gi ss,.sl objT ob,.sl .i64 rl,.sl .i64 wl],rq 13 [h] az is bs] [])=some (.ret (.tup [.agg [.sl (.sl .u8) sd,.sl (.sl .u8) au,.sl .u8 en,.i ac,.i re,.i rs,.i ck,.b od,.sl (.sl (.sl .u8)) [],.i su,.i mc,.sl FU ix,.i l1,.i l2,.i l3,.i l4,.i l5,.i l6,.sl IJ ks,.b st,.b sp,.sl (.sl (.sl .u8)) rb,.i ru,.i vc,.b sf,.i dr,.sl Gi ss,.sl objT ob,.sl .i64 rl,.sl .i64 wl],nV 0 [] [s3] []]) []):=by
 have k:=ev_ounseal_t sd au en ac re rs ck od [] su mc ix l1 l2 l3 l4 l5 l6 ks st sp rb ru vc sf dr ss ob rl wl 13 h [] az is bs p1 p2 p3 p4 p5 s1 s2 s3 hr hol zB hx h3
 refine tq ?_
 rw[k]
 exact tq rfl
theorem ev_exun(h se:Int)(nn v:List UInt8)(p1 p2 p3:Int)(p4 p5 s1 s2 s3:List UInt8)(hr:Int)(x2:List UInt8)(hst:st=true)(hh:512<=h/\h<=515)(hix:ix=[])(hol:ob.length<=1000)(hx:slotAt ob h=some ((p1,p2,p3,p4,p5),(s1,s2,s3),hr))(h3:p1=3)(h4:p4.length=32)(h5:p5.length<=1000)(hru:ru ≠ -1)(hsl:ss.length<=1000)(hse:0<=se-768/\se-768<ss.length)(hsg:BA ss (se-768)=some (2,x2,p4,ru,31,0,0,false))(hq:rqG 13 0 [h] [(se,nn,v)] [] []):Y E0 (.call 131 [.agg [.sl (.sl .u8) sd,.sl (.sl .u8) au,.sl .u8 en,.i ac,.i re,.i rs,.i ck,.b od,.sl (.sl (.sl .u8)) [],.i su,.i mc,.sl FU ix,.i l1,.i l2,.i l3,.i l4,.i l5,.i l6,.sl IJ ks,.b st,.b sp,.sl (.sl (.sl .u8)) rb,.i ru,.i vc,.b sf,.i dr,.sl Gi ss,.sl objT ob,.sl .i64 rl,.sl .i64 wl],.i 0,rq 13 [h] [(se,nn,v)] [] []] [])=some (.ret (.tup [.agg [.sl (.sl .u8) sd,.sl (.sl .u8) au,.sl .u8 en,.i ac,.i re,.i rs,.i ck,.b od,.sl (.sl (.sl .u8)) [],.i su,.i mc,.sl FU ix,.i l1,.i l2,.i l3,.i l4,.i l5,.i l6,.sl IJ ks,.b st,.b sp,.sl (.sl (.sl .u8)) rb,.i ru,.i vc,.b sf,.i dr,.sl Gi (BH ss (se-768) ses0),.sl objT ob,.sl .i64 rl,.sl .i64 wl],nV 0 [] [s3] []]) []):=by
 have k1:=chk_of hq
 have k2:=ev_allowed13 sd au en ac re rs ck od su mc ix l1 l2 l3 l4 l5 l6 ks st sp rb ru vc sf dr ss ob rl wl h [(se,nn,v)] [] [] p1 p2 p3 p4 p5 s1 s2 s3 hr hh hix hol hx zf h5
 have k3:=ev_achkP sd au en ac re rs ck od su mc ix l1 l2 l3 l4 l5 l6 ks st sp rb ru vc sf dr ss ob rl wl 13 nn v [] [] [] se h p1 p2 p3 p4 p5 s1 s2 s3 hr x2 hh hix hol hx h4 h5 hru hsl hse hsg
 have k4:=ev_authd13 sd au en ac re rs ck od su mc ix l1 l2 l3 l4 l5 l6 ks st sp rb ru vc sf dr ss ob rl wl h [(se,nn,v)] [] [] p1 p2 p3 p4 p5 s1 s2 s3 hr hol hx h3
 have k5:=ev_finP sd au en ac re rs ck od su mc ix l1 l2 l3 l4 l5 l6 ks st sp rb ru vc sf dr ss ob rl wl 13 [h] nn v [] [] [] se ru 31 0 0 x2 p4 false hsl hse hsg
 subst hst
 refine tq ?_
 rw[k1]
 refine tq ?_
 rw[k2]
 refine tq ?_
 rw[k3]
 refine tq ?_
 rw[k4]
 conv=>lhs;whnf
 rw[JB]
 conv=>lhs;whnf
 rw[fG zf]
 conv=>lhs;whnf
 try dsimp -iota -beta -eta -zeta only
 rw[OQ]
 rw[k5]
 exact tq rfl
end
section
attribute [local irreducible] BL BM BN BO BP BJ BQ CX Cm CY CW Ba Bc BF BC and' BG Bd Aa Ac Ad Ae Af AL AO AP AQ BR D8 BU D5 Be Bf Ag Ah Ai Aj AB AZ AU Ar BA BV BH BB Au Aw BI Bg BX fits BZ BK A7 A8 AC
theorem i01:BL 0 1=1:=by rw[ZF zf];rfl
theorem chk_pol(p:List UInt8)(hp:p.length=32):Tj ⟨3,0,0,p,List.replicate (uniq 3).toNat 0⟩=0:=by
 unfold Tj
 simp[uniq,hp];rfl
theorem rp_ok(e:Int)(he:e=0\/0<e/\e<=255):rpG e [] [] [] :=
 ⟨by rcases he with h|h<;>simp[h],by simp,by simp,by simp,by simp,by simp,by simp⟩
theorem noEn:(D7 zen entrL [] 32).length<=100000:=by rw[OY (n:=32) zf];decide
theorem noSd:∀ l∈seedsE zen,l.length<=1000:=fun l hl=>(ok_new 1 zf).sm l hl
theorem noSl:(seedsE zen).length=3:=(ok_new 1 zf).sl
theorem aw_1(P:List UInt8)(hP:P.length=32):∃ ar wr nx ar1 wr1 nx1 U S B1 B2,U.length=32/\S.length=32/\arOK ar1 (nx1-1) (encS (seedsE zen) [[],[],[],[]] (D7 zen entrL [] 32) 2 1 0 0 false [] 0 0 [] 0 5 100 0 0 1000 [])/\(0<=wr1/\wr1<=nx1)/\nx1<=3/\Y E0 (.call 8 [.i 2] [])=some (.ret (.tup [nG ar wr 0 0 false (seedsE zen) [[],[],[],[]] (D7 zen entrL [] 32) 2 1 0 0 false [] 0 0 [] 0 5 100 0 0 1000 [] true false (newRB 2) 0 0 true 0 nH nI [] [] true nx,.b true]) []) /\
  Y E0 (.call 9 [nG ar wr 0 0 false (seedsE zen) [[],[],[],[]] (D7 zen entrL [] 32) 2 1 0 0 false [] 0 0 [] 0 5 100 0 0 1000 [] true false (newRB 2) 0 0 true 0 nH nI [] [] true nx,.i 0,rq 9 [0] [(0,[],[])] [3,0,0] [P,[],[9]],.i 1,.i 2] [])=some (.ret (.tup [nG ar1 wr1 0 0 false (seedsE zen) [[],[],[],[]] (D7 zen entrL [] 32) 2 1 0 0 false [] 0 0 [] 0 5 100 0 0 1000 [] true false (newRB 2) 0 0 true 0 nH [((3,0,0,P,U),([],S,[9]),0),obj0,obj0] [] [] true nx1,nV 0 [512] [B1,B2] [],.b true]) []):=by
 obtain⟨ar,wr,nx,h1,h2,h3,h4,hf⟩:=ev_fresh
 obtain⟨S,-,hS,hp⟩:=prim_ex (sd:=seedsE zen) (ob:=nI) (h:=0) (k:=3) (a:=0) (t:=0) (o:=P) (auth:=[]) (d:=[9]) (by rw[noSl];decide) zh (chk_pol P hP) zB zB (fun _=>rfl)
 rw[show QT nI=0 from rfl] at hp
 have hu:(Dv 3 0 ⟨[],S,[9]⟩).length=32:=by unfold Dv;rw[if_neg zh];exact Gu _
 have hb1:(Dh ⟨3,0,0,P,Dv 3 0 ⟨[],S,[9]⟩⟩).length<=1024:=by rw[encP_len (by simp only;omega) (by simp only;omega)];simp only;omega
 have hb2:(nameB ⟨3,0,0,P,Dv 3 0 ⟨[],S,[9]⟩⟩).length<=1024:=by rw[Vd];decide
 generalize Dh ⟨3,0,0,P,Dv 3 0 ⟨[],S,[9]⟩⟩=B1 at hp hb1
 generalize nameB ⟨3,0,0,P,Dv 3 0 ⟨[],S,[9]⟩⟩=B2 at hp hb2
 generalize Dv 3 0 ⟨[],S,[9]⟩=U at hp hu
 have ok:=ok_new 1 zf
 have hq:=rq_pr 0 3 0 0 P [] [9] zf zf zf zf zf zB zB
 have x1:=ev_expr (seedsE zen) [[],[],[],[]] (D7 zen entrL [] 32) 2 1 0 0 false 0 0 [] 0 5 100 0 0 1000 [] true false (newRB 2) 0 0 true 0 nH nI [] [] 0 3 0 0 P [] [9] rfl zf zB zB zB rfl (by rw[mf]) (by rw[noSl];omega) noSd zf zB _ _ _ hp hq
 obtain⟨ar1,wr1,nx1,k1,k2,k3,k4,k5,q1⟩:=ask_of ar wr 0 nx 0 (seedsE zen) [[],[],[],[]] (D7 zen entrL [] 32) 2 1 0 0 false 0 0 [] 0 5 100 0 0 1000 [] true false (newRB 2) 0 0 true 0 nH nI [] [] (seedsE zen) [[],[],[],[]] (D7 zen entrL [] 32) 2 1 0 0 false 0 0 [] 0 5 100 0 0 1000 [] true false (newRB 2) 0 0 true 0 nH [((3,0,0,P,U),([],S,[9]),0),obj0,obj0] [] [] 9 3 [0] [(0,[],[])] [3,0,0] [P,[],[9]] 0 [512] [B1,B2] [] hq ⟨.inl rfl,by simp,by simp,by simp,by simp,by intro x hx;simp at hx;rcases hx with rfl|rfl<;>assumption,by simp⟩ ok ok h1 ⟨h2,h3⟩ zf x1
 have m1:=ev_must ar ar1 wr 0 nx wr1 nx1 0 (seedsE zen) [[],[],[],[]] (D7 zen entrL [] 32) 2 1 0 0 false 0 0 [] 0 5 100 0 0 1000 [] true false (newRB 2) 0 0 true 0 nH nI [] [] (seedsE zen) [[],[],[],[]] (D7 zen entrL [] 32) 2 1 0 0 false 0 0 [] 0 5 100 0 0 1000 [] true false (newRB 2) 0 0 true 0 nH [((3,0,0,P,U),([],S,[9]),0),obj0,obj0] [] [] 9 [0] [(0,[],[])] [3,0,0] [P,[],[9]] 0 1 2 [512] [B1,B2] [] q1 zB rfl rfl rfl
 exact⟨ar,wr,nx,ar1,wr1,nx1,U,S,B1,B2,hu,hS,k1,⟨k2,k3⟩,by have:=k5 rfl;omega,hf,m1⟩
abbrev ob9(P U S:List UInt8):List (El objT):=[((3,0,0,P,U),([],S,[9]),0),obj0,obj0]
theorem aw_2(P U S:List UInt8)(hP:P=polX zen dig01)(hU:U.length=32)(ar:List (List UInt8))(wr nx:Int)(h1:arOK ar (nx-1) (encS (seedsE zen) [[],[],[],[]] (D7 zen entrL [] 32) 2 1 0 0 false [] 0 0 [] 0 5 100 0 0 1000 []))(h2:0<=wr/\wr<=nx)(h3:nx<=3):∃ ar1 wr1 nx1 ar2 wr2 nx2 ar3 wr3 nx3 n s1 s2 s3,
  Y E0 (.call 9 [nG ar wr 0 0 false (seedsE zen) [[],[],[],[]] (D7 zen entrL [] 32) 2 1 0 0 false [] 0 0 [] 0 5 100 0 0 1000 [] true false (newRB 2) 0 0 true 0 nH (ob9 P U S) [] [] true nx,.i 0,rq 16 [] [] [2] [],.i 1,.i 1] [])=some (.ret (.tup [nG ar1 wr1 0 0 false (seedsE zen) [[],[],[],[]] (D7 zen entrL [] 32) 2 1 0 0 false [] 0 0 [] 0 5 100 0 0 1000 [] true false (newRB 2) 0 0 true 1 s1 (ob9 P U S) [] [] true nx1,nV 0 [768] [n] [],.b true]) []) /\
  Y E0 (.call 9 [nG ar1 wr1 0 0 false (seedsE zen) [[],[],[],[]] (D7 zen entrL [] 32) 2 1 0 0 false [] 0 0 [] 0 5 100 0 0 1000 [] true false (newRB 2) 0 0 true 1 s1 (ob9 P U S) [] [] true nx1,.i 0,rq 17 [] [] [768,1,0,1,0,0] [[]],.i 0,.i 0] [])=some (.ret (.tup [nG ar2 wr2 0 0 false (seedsE zen) [[],[],[],[]] (D7 zen entrL [] 32) 2 1 0 0 false [] 0 0 [] 0 5 100 0 0 1000 [] true false (newRB 2) 0 0 true 1 s2 (ob9 P U S) [] [] true nx2,nV 0 [] [] [],.b true]) []) /\
  Y E0 (.call 9 [nG ar2 wr2 0 0 false (seedsE zen) [[],[],[],[]] (D7 zen entrL [] 32) 2 1 0 0 false [] 0 0 [] 0 5 100 0 0 1000 [] true false (newRB 2) 0 0 true 1 s2 (ob9 P U S) [] [] true nx2,.i 0,rq 13 [512] [(768,[],[])] [] [],.i 0,.i 1] [])=some (.ret (.tup [nG ar3 wr3 0 0 false (seedsE zen) [[],[],[],[]] (D7 zen entrL [] 32) 2 1 0 0 false [] 0 0 [] 0 5 100 0 0 1000 [] true false (newRB 2) 0 0 true 1 s3 (ob9 P U S) [] [] true nx3,nV 0 [] [[9]] [],.b true]) []):=by
 have ok:=ok_new 1 zf
 have hq1:=rq_se 2 zf
 have x1:=ev_exse (seedsE zen) [[],[],[],[]] (D7 zen entrL [] 32) 2 1 0 0 false 0 0 [] 0 5 100 0 0 1000 [] true false (newRB 2) 0 0 true 0 nH (ob9 P U S) [] [] 2 zf zB noEn 0 [] [] 0 0 0 0 false rfl (fun i hi=>by omega) rfl hq1
 obtain⟨n,hn⟩:∃ n,iR (D7 zen entrL [] 32) 1 0 0 16=n:=⟨_,rfl⟩
 rw[hn,i01,show((0:Nat):Int)=0 from rfl,show(768:Int)+0=768 from rfl] at x1
 have hnl:n.length<=1024:=by rw[<-hn,iR];exact Nat.le_trans (Nat.le_of_eq (OY (n:=16) zf)) zh
 obtain⟨ar1,wr1,nx1,k1,k2,k3,k4,k5,q1⟩:=ask_of ar wr 0 nx 0 (seedsE zen) [[],[],[],[]] (D7 zen entrL [] 32) 2 1 0 0 false 0 0 [] 0 5 100 0 0 1000 [] true false (newRB 2) 0 0 true 0 nH (ob9 P U S) [] [] (seedsE zen) [[],[],[],[]] (D7 zen entrL [] 32) 2 1 0 0 false 0 0 [] 0 5 100 0 0 1000 [] true false (newRB 2) 0 0 true 1 (BH nH 0 (2,n,zen,-1,31,0,0,false)) (ob9 P U S) [] [] 16 0 [] [] [2] [] 0 [768] [n] [] hq1 ⟨.inl rfl,by simp,by simp,by simp,by simp,by intro x hx;simp at hx;subst hx;exact hnl,by simp⟩ ok ok h1 h2 zf x1
 have m1:=ev_must ar ar1 wr 0 nx wr1 nx1 0 (seedsE zen) [[],[],[],[]] (D7 zen entrL [] 32) 2 1 0 0 false 0 0 [] 0 5 100 0 0 1000 [] true false (newRB 2) 0 0 true 0 nH (ob9 P U S) [] [] (seedsE zen) [[],[],[],[]] (D7 zen entrL [] 32) 2 1 0 0 false 0 0 [] 0 5 100 0 0 1000 [] true false (newRB 2) 0 0 true 1 (BH nH 0 (2,n,zen,-1,31,0,0,false)) (ob9 P U S) [] [] 16 [] [] [2] [] 0 1 1 [768] [n] [] q1 zB rfl rfl rfl
 obtain⟨s1,hs1⟩:∃ s1,BH nH 0 (2,n,zen,-1,31,0,0,false)=s1:=⟨_,rfl⟩
 have hl1:s1.length=3:=by rw[<-hs1,UJ,List.length_set];rfl
 have hg1:BA s1 (768-768)=some (2,n,zen,(-1:Int),31,0,0,false):=by rw[<-hs1,UJ];exact mf _ _
 rw[hs1] at m1 q1
 have hq2:=rq_po 768 zf
 have x2:=ev_expo (seedsE zen) [[],[],[],[]] (D7 zen entrL [] 32) 2 1 0 0 false 0 0 [] 0 5 100 0 0 1000 [] true false (newRB 2) 0 0 true 1 s1 (ob9 P U S) [] [] 768 31 0 0 n zen false rfl rfl zf zf hg1 (by rw[zen_len];decide) hq2
 rw[<-hP,show(768:Int)-768=0 from rfl] at x2
 obtain⟨ar2,wr2,nx2,j1,j2,j3,j4,j5,q2⟩:=ask_of ar1 wr1 0 nx1 0 (seedsE zen) [[],[],[],[]] (D7 zen entrL [] 32) 2 1 0 0 false 0 0 [] 0 5 100 0 0 1000 [] true false (newRB 2) 0 0 true 1 s1 (ob9 P U S) [] [] (seedsE zen) [[],[],[],[]] (D7 zen entrL [] 32) 2 1 0 0 false 0 0 [] 0 5 100 0 0 1000 [] true false (newRB 2) 0 0 true 1 (BH s1 0 (2,n,P,0,31,0,0,false)) (ob9 P U S) [] [] 17 (-1) [] [] [768,1,0,1,0,0] [[]] 0 [] [] [] hq2 (rp_ok 0 (.inl rfl)) ok ok k1 ⟨k2,k3⟩ (by have:=k5 rfl;omega) x2
 have m2:=ev_must ar1 ar2 wr1 0 nx1 wr2 nx2 0 (seedsE zen) [[],[],[],[]] (D7 zen entrL [] 32) 2 1 0 0 false 0 0 [] 0 5 100 0 0 1000 [] true false (newRB 2) 0 0 true 1 s1 (ob9 P U S) [] [] (seedsE zen) [[],[],[],[]] (D7 zen entrL [] 32) 2 1 0 0 false 0 0 [] 0 5 100 0 0 1000 [] true false (newRB 2) 0 0 true 1 (BH s1 0 (2,n,P,0,31,0,0,false)) (ob9 P U S) [] [] 17 [] [] [768,1,0,1,0,0] [[]] 0 0 0 [] [] [] q2 zB rfl rfl rfl
 obtain⟨s2,hs2⟩:∃ s2,BH s1 0 (2,n,P,0,31,0,0,false)=s2:=⟨_,rfl⟩
 have hl2:s2.length=3:=by rw[<-hs2,UJ,List.length_set,hl1]
 have hg2:BA s2 (768-768)=some (2,n,P,(0:Int),31,0,0,false):=by
  rw[<-hs2,UJ,lget_i (by rw[List.length_set,hl1];decide)];simp
 rw[hs2] at m2 q2
 have hq3:=rq_un 512 768 zf zf [] zB
 have hPl:P.length=32:=by rw[hP];exact polX_len _ _
 have x3:=ev_exun (seedsE zen) [[],[],[],[]] (D7 zen entrL [] 32) 2 1 0 0 false 0 0 [] 0 5 100 0 0 1000 [] true false (newRB 2) 0 0 true 1 s2 (ob9 P U S) [] [] 512 768 [] [] 3 0 0 P U [] S [9] 0 n rfl zf rfl zB rfl rfl hPl zf zh zf zf hg2 hq3
 rw[show(768:Int)-768=0 from rfl] at x3
 obtain⟨ar3,wr3,nx3,i1,i2,i3,i4,i5,q3⟩:=ask_of ar2 wr2 0 nx2 0 (seedsE zen) [[],[],[],[]] (D7 zen entrL [] 32) 2 1 0 0 false 0 0 [] 0 5 100 0 0 1000 [] true false (newRB 2) 0 0 true 1 s2 (ob9 P U S) [] [] (seedsE zen) [[],[],[],[]] (D7 zen entrL [] 32) 2 1 0 0 false 0 0 [] 0 5 100 0 0 1000 [] true false (newRB 2) 0 0 true 1 (BH s2 0 ses0) (ob9 P U S) [] [] 13 0 [512] [(768,[],[])] [] [] 0 [] [[9]] [] hq3 ⟨.inl rfl,by simp,by simp,by simp,by simp,by intro x hx;simp at hx;subst hx;simp,by simp⟩ ok ok j1 ⟨j2,j3⟩ (by have:=k5 rfl;have:=j5 rfl;omega) x3
 have m3:=ev_must ar2 ar3 wr2 0 nx2 wr3 nx3 0 (seedsE zen) [[],[],[],[]] (D7 zen entrL [] 32) 2 1 0 0 false 0 0 [] 0 5 100 0 0 1000 [] true false (newRB 2) 0 0 true 1 s2 (ob9 P U S) [] [] (seedsE zen) [[],[],[],[]] (D7 zen entrL [] 32) 2 1 0 0 false 0 0 [] 0 5 100 0 0 1000 [] true false (newRB 2) 0 0 true 1 (BH s2 0 ses0) (ob9 P U S) [] [] 13 [512] [(768,[],[])] [] [] 0 0 1 [] [[9]] [] q3 zB rfl rfl rfl
 exact⟨ar1,wr1,nx1,ar2,wr2,nx2,ar3,wr3,nx3,n,s1,s2,_,m1,m2,m3⟩
end
section
attribute [local irreducible] BL BM BN BO BP BJ BQ CX Cm CY CW Ba Bc BF BC and' BG Bd Aa Ac Ad Ae Af AL AO AP AQ BR D8 BU D5 Be Bf Ag Ah Ai Aj AB AZ AU Ar BA BV BH BB Au Aw BI Bg BX fits BZ BK A7 A8 AC
theorem bank_ok:dX 32 (bankB 32):=⟨Ve 32 16,fun x hx=>by
 simp only[bankB,aJ,List.mem_map] at hx
 obtain⟨i,-,rfl⟩:=hx
 exact List.length_replicate⟩
theorem rg_new:iq 2 (newRB 2):=.inr ⟨[],bankB 32,rfl,.inl rfl,.inr bank_ok,fun _=>bank_ok⟩
theorem ev_r8dig01:Y E0 (.call 32 [.agg [.sl (.sl (.sl .u8)) (newRB 2),.i 0],.agg [.i 0,.i 1]] [])=some (.ret (.tup [.sl .u8 dig01,.i 0]) []):=by
 obtain⟨d,er,-,h1,h2⟩:=dig_both 0 0 1 rg_new
 have h3:=ev_gdig 0
 rw[show([[],bankB 32]:List (List (List UInt8)))=newRB 2 from rfl,h1] at h3
 simp only[Option.some.injEq,Rsp.ret.injEq,AV.tup.injEq,List.cons.injEq,AV.sl.injEq,AV.i.injEq,heq_eq_eq,true_and,and_true] at h3
 rw[h2,h3.1,h3.2]
theorem ev_tawake:Y E0 (.call 7 [] [])=some (.ret (.b true) []):=by
 obtain⟨P,hP⟩:∃ P,polX zen dig01=P:=⟨_,rfl⟩
 have hPl:P.length=32:=by rw[<-hP];exact polX_len _ _
 obtain⟨ar,wr,nx,ar1,wr1,nx1,U,S,B1,B2,hU,hS,k1,k2,k3,hf,m1⟩:=aw_1 P hPl
 obtain⟨ar2,wr2,nx2,ar3,wr3,nx3,ar4,wr4,nx4,n,s1,s2,s3,c1,c2,c3⟩:=aw_2 P U S hP.symm hU ar1 wr1 nx1 k1 k2 k3
 have h8:=ev_r8new 2 zf
 have h9:=ev_r9dig dig01 dig01_len
 rw[hP] at h9
 refine tq ?_
 rw[hf]
 refine tq ?_
 rw[h8]
 refine tq ?_
 rw[ev_r8dig01]
 refine tq ?_
 rw[h9]
 refine tq ?_
 rw[ev_primary ..]
 refine tq ?_
 rw[show([UInt8.ofNat 9]:List UInt8)=[9] from rfl,m1]
 refine tq ?_
 rw[ev_topen _]
 refine tq ?_
 rw[c1]
 refine tq ?_
 rw[ev_tpolicy _]
 refine tq ?_
 rw[c2]
 refine tq ?_
 rw[ev_on ..]
 refine tq ?_
 rw[ev_by ..]
 refine tq ?_
 rw[c3]
 conv=>lhs;whnf
 try dsimp -iota -beta -eta -zeta only
 rw[drw zi];conv=>lhs;whnf
 rw[mf];conv=>lhs;whnf
 rw[fD (by(simp only[n8_len,n4_len,n2_len,bl_len,Gu,OO,Xa,ZO,zen_len,LL] at *<;>omega))]
 conv=>lhs;whnf
 rw[mf];conv=>lhs;whnf
 rw[mf];conv=>lhs;whnf
 rw[VJ,fD (by rfl)]
end
section
attribute [local irreducible] BL BM BN BO BP BJ BQ CX Cm CY CW Ba Bc BF BC and' BG Bd Aa Ac Ad Ae Af AL AO AP AQ BR D8 BU D5 Be Bf Ag Ah Ai Aj AB AZ AU Ar BA BV BH BB Au Aw BI Bg BX fits BZ BK A7 A8 AC
noncomputable def rnd(R:Int)(i:Nat):List UInt8:=iR (D7 zen entrL [] 32) R 0 (i:Int) 16
theorem rnd_len:(rnd R i).length=16:=by rw[rnd,iR];exact OY (n:=16) zf
noncomputable def sesK(R:Int)(i:Nat):List (El Gi):=(List.range 3).map fun j=>if j<i then(1,rnd R j,zen,-1,31,0,0,false) else(0,[],[],0,0,0,0,false)
theorem sesK0:sesK R 0=nH:=rfl
theorem sesK_len:(sesK R i).length=3:=by simp[sesK]
theorem sesK_at(hi:i<3):(sesK R i)[i]?=some (0,[],[],0,0,0,0,false):=by
 rcases(by omega:i=0\/i=1\/i=2) with rfl|rfl|rfl<;>rfl
theorem sesK_lo(j:Nat)(hi:i<3)(hj:j<i):∃ x,(sesK R i)[j]?=some x/\(x.1:Int)≠0:=by
 rcases(by omega:i=0\/i=1\/i=2) with rfl|rfl|rfl
 ·omega
 ·rcases(by omega:j=0) with rfl;exact⟨_,rfl,by show(1:Int)≠0;decide⟩
 ·rcases(by omega:j=0\/j=1) with rfl|rfl<;>exact⟨_,rfl,by show(1:Int)≠0;decide⟩
theorem sesK_set(hi:i<3):BH (sesK R i) (i:Int) (1,rnd R i,zen,-1,31,0,0,false)=sesK R (i+1):=by
 rw[UJ]
 rcases(by omega:i=0\/i=1\/i=2) with rfl|rfl|rfl<;>rfl
theorem sesK_get(hi:i<3):BA (sesK R (i+1)) (i:Int)=some (1,rnd R i,zen,(-1:Int),31,0,0,false):=by
 rw[lget_i (by rw[sesK_len];omega)]
 rcases(by omega:i=0\/i=1\/i=2) with rfl|rfl|rfl<;>rfl
theorem okA(hA:A.length=4)(hm:∀ x∈A,x.length<=1000)(R:Int)(hR:0<=R/\R<=10)(X:List (El FU))(hX:X=[]\/X=[ctr]):stOK (seedsE zen) A (D7 zen entrL [] 32) 2 R 0 0 0 0 X 0 5 100 0 0 1000 []:=by
 have k:=ok_new R hR
 refine⟨k.sl,hA,k.sm,hm,k.en,k.ac,k.re,k.rs,k.ck,k.su,k.mc,?_,?_,k.lk,k.kl,k.km⟩
 ·rcases hX with rfl|rfl<;>simp
 ·rcases hX with rfl|rfl
  ·intro x hx;cases hx
  ·intro x hx;simp at hx;subst hx;exact ctr_ok
theorem op_1(hA:A.length=4)(hm:∀ x∈A,x.length<=1000)(R:Int)(hR:0<=R/\R<=10)(F:Bool)(i:Nat)(hi:i<3)(ar:List (List UInt8))(wr nx:Int)(h1:arOK ar (nx-1) (encS (seedsE zen) A (D7 zen entrL [] 32) 2 R 0 0 false [] 0 0 [] 0 5 100 0 0 1000 []))(h2:0<=wr/\wr<=nx)(h3:nx<=1000):∃ ar1 wr1 nx1,arOK ar1 (nx1-1) (encS (seedsE zen) A (D7 zen entrL [] 32) 2 R 0 0 false [] 0 0 [] 0 5 100 0 0 1000 [])/\(0<=wr1/\wr1<=nx1)/\nx1<=nx /\
  Y E0 (.call 9 [nG ar wr 0 0 false (seedsE zen) A (D7 zen entrL [] 32) 2 R 0 0 false [] 0 0 [] 0 5 100 0 0 1000 [] true false (newRB 2) 0 0 F (i:Int) (sesK R i) nI [] [] true nx,.i 0,rq 16 [] [] [1] [],.i 1,.i 1] [])=some (.ret (.tup [nG ar1 wr1 0 0 false (seedsE zen) A (D7 zen entrL [] 32) 2 R 0 0 false [] 0 0 [] 0 5 100 0 0 1000 [] true false (newRB 2) 0 0 F ((i:Int)+1) (sesK R (i+1)) nI [] [] true nx1,nV 0 [768+(i:Int)] [rnd R i] [],.b true]) []):=by
 have ok:=okA A hA hm R hR [] (.inl rfl)
 have hq1:=rq_se 1 zf
 have x1:=ev_exse (seedsE zen) A (D7 zen entrL [] 32) 2 R 0 0 false 0 0 [] 0 5 100 0 0 1000 [] true false (newRB 2) 0 0 F (i:Int) (sesK R i) nI [] [] 1 zf (by rw[sesK_len];omega) noEn i [] [] 0 0 0 0 false (sesK_at R i hi) (fun j hj=>sesK_lo R i j hi hj) rfl hq1
 rw[show iR (D7 zen entrL [] 32) R 0 (i:Int) 16=rnd R i from rfl,sesK_set R i hi,ZF zf] at x1
 have hnl:(rnd R i).length<=1024:=by rw[rnd_len];decide
 obtain⟨ar1,wr1,nx1,k1,k2,k3,k4,k5,q1⟩:=ask_of ar wr 0 nx 0 (seedsE zen) A (D7 zen entrL [] 32) 2 R 0 0 false 0 0 [] 0 5 100 0 0 1000 [] true false (newRB 2) 0 0 F (i:Int) (sesK R i) nI [] [] (seedsE zen) A (D7 zen entrL [] 32) 2 R 0 0 false 0 0 [] 0 5 100 0 0 1000 [] true false (newRB 2) 0 0 F ((i:Int)+1) (sesK R (i+1)) nI [] [] 16 0 [] [] [1] [] 0 [768+(i:Int)] [rnd R i] [] hq1 ⟨.inl rfl,by simp,by simp,by simp,by intro x hx;simp at hx;omega,by intro x hx;simp at hx;subst hx;exact hnl,by simp⟩ ok ok h1 h2 zf x1
 have m1:=ev_must ar ar1 wr 0 nx wr1 nx1 0 (seedsE zen) A (D7 zen entrL [] 32) 2 R 0 0 false 0 0 [] 0 5 100 0 0 1000 [] true false (newRB 2) 0 0 F (i:Int) (sesK R i) nI [] [] (seedsE zen) A (D7 zen entrL [] 32) 2 R 0 0 false 0 0 [] 0 5 100 0 0 1000 [] true false (newRB 2) 0 0 F ((i:Int)+1) (sesK R (i+1)) nI [] [] 16 [] [] [1] [] 0 1 1 [768+(i:Int)] [rnd R i] [] q1 zB rfl rfl rfl
 exact⟨ar1,wr1,nx1,k1,⟨k2,k3⟩,by have:=k5 rfl;omega,m1⟩
end
section
attribute [local irreducible] BL BM BN BO BP BJ BQ CX Cm CY CW Ba Bc BF BC and' BG Bd Aa Ac Ad Ae Af AL AO AP AQ BR D8 BU D5 Be Bf Ag Ah Ai Aj AB AZ AU Ar BA BV BH BB Au Aw BI Bg BX fits BZ BK A7 A8 AC
noncomputable def macR(au nn ca:List UInt8):List UInt8:=dR au (Bh 10 [cmdB 21 [hierB 2] [1,2,3,8] [[],[]],nn,ca])
theorem macR_len(au nn ca:List UInt8):(macR au nn ca).length=32:=OW _ _
theorem df_t(au ca:List UInt8)(hA:A.length=4)(hm:∀ x∈A,x.length<=1000)(hau:BA A 2=some au)(hal:au.length<=1000)(hca:ca.length<=60)(R:Int)(hR:0<=R/\R<=10)(F:Bool)(n:Nat)(hn:n<3)(D:Int)(hD:0<=D/\D<=100)(Z:List (El Gi))(N v:List UInt8)(hN:N.length=16)(hZ:Z.length=3)(hz:BA Z (n:Int)=some (1,N,zen,(-1:Int),31,0,0,false))(hv:v=macR au N ca)(ar:List (List UInt8))(wr nx:Int)(h1:arOK ar (nx-1) (encS (seedsE zen) A (D7 zen entrL [] 32) 2 R 0 0 false [] 0 0 [] 0 5 100 0 0 1000 []))(h2:0<=wr/\wr<=nx)(h3:nx<=1000):∃ ar1 wr1 nx1,arOK ar1 (nx1-1) (encS (seedsE zen) A (D7 zen entrL [] 32) 2 R 0 0 false [] 0 0 [ctr] 0 5 100 0 0 1000 [])/\(0<=wr1/\wr1<=nx1)/\nx1<=nx+1 /\
  Y E0 (.call 13 [nG ar wr 0 0 false (seedsE zen) A (D7 zen entrL [] 32) 2 R 0 0 false [] 0 0 [] 0 5 100 0 0 1000 [] true false (newRB 2) 0 0 F D Z nI [] [] true nx,.i 0,rq 21 [2] [(768+(n:Int),ca,v)] [1,2,3,8] [[],[]]] [])=some (.ret (.tup [nG ar1 wr1 0 0 false (seedsE zen) A (D7 zen entrL [] 32) 2 R 0 0 false [] 0 0 [ctr] 0 5 100 0 0 1000 [] true false (newRB 2) 0 0 F (D+1) (BH Z (n:Int) (1,iR (D7 zen entrL [] 32) R 0 D 16,zen,-1,31,0,0,false)) nI [] [] true nx1,nV 0 [] [] [iR (D7 zen entrL [] 32) R 0 D 16],.b true]) []):=by
 have ok:=okA A hA hm R hR [] (.inl rfl)
 have ok1:=okA A hA hm R hR [ctr] (.inr rfl)
 have hvl:v.length=32:=by rw[hv];exact macR_len _ _ _
 have hq:=rq_df 2 (768+(n:Int)) zf zf ca v zf zf
 have hs:(768+(n:Int))-768=(n:Int):=zf
 have x1:=ev_exdf_t (seedsE zen) A (D7 zen entrL [] 32) 2 R 0 0 false 0 0 [] 0 5 100 0 0 1000 [] true false (newRB 2) 0 0 F D Z nI [] [] 2 (768+(n:Int)) (-1) 31 0 0 ca v N zen au false rfl rfl (.inr rfl) noEn zf zf (by rw[hs];exact hz) hv zf zB hA hau hal zf zf hq
 rw[hs,ZF zf] at x1
 have hnl:(iR (D7 zen entrL [] 32) R 0 D 16).length<=1024:=by rw[iR];exact Nat.le_trans (Nat.le_of_eq (OY (n:=16) zf)) zh
 obtain⟨ar1,wr1,nx1,k1,k2,k3,k4,k5,q1⟩:=ask_of ar wr 0 nx 0 (seedsE zen) A (D7 zen entrL [] 32) 2 R 0 0 false 0 0 [] 0 5 100 0 0 1000 [] true false (newRB 2) 0 0 F D Z nI [] [] (seedsE zen) A (D7 zen entrL [] 32) 2 R 0 0 false 0 0 [ctr] 0 5 100 0 0 1000 [] true false (newRB 2) 0 0 F (D+1) (BH Z (n:Int) (1,iR (D7 zen entrL [] 32) R 0 D 16,zen,-1,31,0,0,false)) nI [] [] 21 2 [2] [(768+(n:Int),ca,v)] [1,2,3,8] [[],[]] 0 [] [] [iR (D7 zen entrL [] 32) R 0 D 16] hq ⟨.inl rfl,by simp,by simp,by simp,by simp,by simp,by intro x hx;simp at hx;subst hx;exact hnl⟩ ok ok1 h1 h2 zf x1
 exact⟨ar1,wr1,nx1,k1,⟨k2,k3⟩,k4,q1⟩
theorem df_f(au ca:List UInt8)(hA:A.length=4)(hm:∀ x∈A,x.length<=1000)(hau:BA A 2=some au)(hal:au.length<=1000)(hca:ca.length<=60)(R:Int)(hR:0<=R/\R<=10)(F:Bool)(n:Nat)(hn:n<3)(D:Int)(Z:List (El Gi))(N v:List UInt8)(hN:N.length=16)(hvl:v.length=32)(hZ:Z.length=3)(hz:BA Z (n:Int)=some (1,N,zen,(-1:Int),31,0,0,false))(hv:v≠macR au N ca)(ar:List (List UInt8))(wr nx:Int)(h1:arOK ar (nx-1) (encS (seedsE zen) A (D7 zen entrL [] 32) 2 R 0 0 false [] 0 0 [] 0 5 100 0 0 1000 []))(h2:0<=wr/\wr<=nx)(h3:nx<=1000):∃ ar1 wr1 nx1,
  Y E0 (.call 13 [nG ar wr 0 0 false (seedsE zen) A (D7 zen entrL [] 32) 2 R 0 0 false [] 0 0 [] 0 5 100 0 0 1000 [] true false (newRB 2) 0 0 F D Z nI [] [] true nx,.i 0,rq 21 [2] [(768+(n:Int),ca,v)] [1,2,3,8] [[],[]]] [])=some (.ret (.tup [nG ar1 wr1 0 0 false (seedsE zen) A (D7 zen entrL [] 32) 2 R 0 0 false [] 0 0 [] 0 5 100 0 0 1000 [] true false (newRB 2) 0 0 F D Z nI [] [] true nx1,nV 9 [] [] [],.b true]) []):=by
 have ok:=okA A hA hm R hR [] (.inl rfl)
 have hq:=rq_df 2 (768+(n:Int)) zf zf ca v zf zf
 have hs:(768+(n:Int))-768=(n:Int):=zf
 have x1:=ev_exdf_f (seedsE zen) A (D7 zen entrL [] 32) 2 R 0 0 false 0 0 [] 0 5 100 0 0 1000 [] true false (newRB 2) 0 0 F D Z nI [] [] 2 (768+(n:Int)) (-1) 31 0 0 ca v N zen au false rfl rfl (.inr rfl) zf zf (by rw[hs];exact hz) hv zf zB hA hau hal zf zf hq
 obtain⟨ar1,wr1,nx1,k1,k2,k3,k4,k5,q1⟩:=ask_of ar wr 0 nx 0 (seedsE zen) A (D7 zen entrL [] 32) 2 R 0 0 false 0 0 [] 0 5 100 0 0 1000 [] true false (newRB 2) 0 0 F D Z nI [] [] (seedsE zen) A (D7 zen entrL [] 32) 2 R 0 0 false 0 0 [] 0 5 100 0 0 1000 [] true false (newRB 2) 0 0 F D Z nI [] [] 21 2 [2] [(768+(n:Int),ca,v)] [1,2,3,8] [[],[]] 9 [] [] [] hq (rp_ok 9 (.inr zf)) ok ok h1 h2 zf x1
 exact⟨ar1,wr1,nx1,q1⟩
theorem ud_1(au:List UInt8)(hA:A.length=4)(hm:∀ x∈A,x.length<=1000)(hau:BA A 2=some au)(hal:au.length<=32)(R:Int)(hR:0<=R/\R<=10)(F:Bool)(D:Int)(Z:List (El Gi))(ar:List (List UInt8))(wr nx:Int)(h1:arOK ar (nx-1) (encS (seedsE zen) A (D7 zen entrL [] 32) 2 R 0 0 false [] 0 0 [ctr] 0 5 100 0 0 1000 []))(h2:0<=wr/\wr<=nx)(h3:nx<=1000):∃ ar1 wr1 nx1,arOK ar1 (nx1-1) (encS (seedsE zen) A (D7 zen entrL [] 32) 2 R 0 0 false [] 0 0 [] 0 5 100 0 0 1000 [])/\(0<=wr1/\wr1<=nx1)/\nx1<=nx+1 /\
  Y E0 (.call 9 [nG ar wr 0 0 false (seedsE zen) A (D7 zen entrL [] 32) 2 R 0 0 false [] 0 0 [ctr] 0 5 100 0 0 1000 [] true false (newRB 2) 0 0 F D Z nI [] [] true nx,.i 0,rq 22 [2] [(0,[],au)] [1] [],.i 0,.i 0] [])=some (.ret (.tup [nG ar1 wr1 0 0 false (seedsE zen) A (D7 zen entrL [] 32) 2 R 0 0 false [] 0 0 [] 0 5 100 0 0 1000 [] true false (newRB 2) 0 0 F D Z nI [] [] true nx1,nV 0 [] [] [],.b true]) []):=by
 have ok:=okA A hA hm R hR [] (.inl rfl)
 have ok1:=okA A hA hm R hR [ctr] (.inr rfl)
 have hq:=rq_ud 2 zf au zf
 have x1:=ev_exud (seedsE zen) A (D7 zen entrL [] 32) 2 R 0 0 false 0 0 [ctr] 0 5 100 0 0 1000 [] true false (newRB 2) 0 0 F D Z nI [] [] 2 au rfl rfl rfl rfl (.inr rfl) zB hA hau zf hq
 obtain⟨ar1,wr1,nx1,k1,k2,k3,k4,k5,q1⟩:=ask_of ar wr 0 nx 0 (seedsE zen) A (D7 zen entrL [] 32) 2 R 0 0 false 0 0 [ctr] 0 5 100 0 0 1000 [] true false (newRB 2) 0 0 F D Z nI [] [] (seedsE zen) A (D7 zen entrL [] 32) 2 R 0 0 false 0 0 [] 0 5 100 0 0 1000 [] true false (newRB 2) 0 0 F D Z nI [] [] 22 0 [2] [(0,[],au)] [1] [] 0 [] [] [] hq (rp_ok 0 (.inl rfl)) ok1 ok h1 h2 zf x1
 have m1:=ev_must ar ar1 wr 0 nx wr1 nx1 0 (seedsE zen) A (D7 zen entrL [] 32) 2 R 0 0 false 0 0 [ctr] 0 5 100 0 0 1000 [] true false (newRB 2) 0 0 F D Z nI [] [] (seedsE zen) A (D7 zen entrL [] 32) 2 R 0 0 false 0 0 [] 0 5 100 0 0 1000 [] true false (newRB 2) 0 0 F D Z nI [] [] 22 [2] [(0,[],au)] [1] [] 0 0 0 [] [] [] q1 zB rfl rfl rfl
 exact⟨ar1,wr1,nx1,k1,⟨k2,k3⟩,k4,m1⟩
theorem ca_1(au:List UInt8)(hal:au.length<=32)(A:List (List UInt8))(hA:A=BH [[],[],[],[]] 2 au)(F:Bool)(ar:List (List UInt8))(wr nx:Int)(h1:arOK ar (nx-1) (encS (seedsE zen) [[],[],[],[]] (D7 zen entrL [] 32) 2 1 0 0 false [] 0 0 [] 0 5 100 0 0 1000 []))(h2:0<=wr/\wr<=nx)(h3:nx<=1000):∃ ar1 wr1 nx1,arOK ar1 (nx1-1) (encS (seedsE zen) A (D7 zen entrL [] 32) 2 1 0 0 false [] 0 0 [] 0 5 100 0 0 1000 [])/\(0<=wr1/\wr1<=nx1)/\nx1<=nx+1 /\
  Y E0 (.call 9 [nG ar wr 0 0 false (seedsE zen) [[],[],[],[]] (D7 zen entrL [] 32) 2 1 0 0 false [] 0 0 [] 0 5 100 0 0 1000 [] true false (newRB 2) 0 0 F 0 nH nI [] [] true nx,.i 0,rq 30 [2] [(0,[],[])] [] [au],.i 0,.i 0] [])=some (.ret (.tup [nG ar1 wr1 0 0 false (seedsE zen) A (D7 zen entrL [] 32) 2 1 0 0 false [] 0 0 [] 0 5 100 0 0 1000 [] true false (newRB 2) 0 0 F 0 nH nI [] [] true nx1,nV 0 [] [] [],.b true]) []):=by
 have hm:∀ x∈A,x.length<=1000:=by
  rw[hA,UJ];intro x hx;simp at hx;rcases hx with rfl|rfl|rfl
  ·simp
  ·omega
  ·simp
 have hA4:A.length=4:=by rw[hA,UJ,List.length_set];rfl
 have ok:=okA [[],[],[],[]] rfl zB 1 zf [] (.inl rfl)
 have ok1:=okA A hA4 hm 1 zf [] (.inl rfl)
 have hq:=rq_ca 2 zf [] au zB zf
 have x1:=ev_exca (seedsE zen) [[],[],[],[]] (D7 zen entrL [] 32) 2 1 0 0 false 0 0 [] 0 5 100 0 0 1000 [] true false (newRB 2) 0 0 F 0 nH nI [] [] 2 [] [] au rfl zf zB zB zB rfl (by rw[mr]) zB hal hq
 rw[<-hA] at x1
 obtain⟨ar1,wr1,nx1,k1,k2,k3,k4,k5,q1⟩:=ask_of ar wr 0 nx 0 (seedsE zen) [[],[],[],[]] (D7 zen entrL [] 32) 2 1 0 0 false 0 0 [] 0 5 100 0 0 1000 [] true false (newRB 2) 0 0 F 0 nH nI [] [] (seedsE zen) A (D7 zen entrL [] 32) 2 1 0 0 false 0 0 [] 0 5 100 0 0 1000 [] true false (newRB 2) 0 0 F 0 nH nI [] [] 30 1 [2] [(0,[],[])] [] [au] 0 [] [] [] hq (rp_ok 0 (.inl rfl)) ok ok1 h1 h2 zf x1
 have m1:=ev_must ar ar1 wr 0 nx wr1 nx1 0 (seedsE zen) [[],[],[],[]] (D7 zen entrL [] 32) 2 1 0 0 false 0 0 [] 0 5 100 0 0 1000 [] true false (newRB 2) 0 0 F 0 nH nI [] [] (seedsE zen) A (D7 zen entrL [] 32) 2 1 0 0 false 0 0 [] 0 5 100 0 0 1000 [] true false (newRB 2) 0 0 F 0 nH nI [] [] 30 [2] [(0,[],[])] [] [au] 0 0 0 [] [] [] q1 zB rfl rfl rfl
 exact⟨ar1,wr1,nx1,k1,⟨k2,k3⟩,k4,m1⟩
end
section
attribute [local irreducible] BL BM BN BO BP BJ BQ CX Cm CY CW Ba Bc BF BC and' BG Bd Aa Ac Ad Ae Af AL AO AP AQ BR D8 BU D5 Be Bf Ag Ah Ai Aj AB AZ AU Ar BA BV BH BB Au Aw BI Bg BX fits BZ BK A7 A8 AC
def hdF:Nat->Int
 | 0=>0
 | j+1=>768+(j:Int)
noncomputable def ncF(R:Int):Nat->List UInt8
 | 0=>[]
 | j+1=>rnd R j
theorem lp_0(au ca:List UInt8)(ag:Bool)(ns:UInt8)(A:List (List UInt8))(hA:A.length=4)(hm:∀ x∈A,x.length<=1000)(R:Int)(hR:0<=R/\R<=10)(F:Bool)(m:Nat)(hm3:m<3)(hns:D8 (Aa ns (UInt8.ofNat 3))=(m:Int)):∀(k i:Nat),i+k=m+1->∀(ar:List (List UInt8)) (wr nx:Int),arOK ar (nx-1) (encS (seedsE zen) A (D7 zen entrL [] 32) 2 R 0 0 false [] 0 0 [] 0 5 100 0 0 1000 [])->0<=wr/\wr<=nx->nx<=1000->∃ ar' wr' nx',arOK ar' (nx'-1) (encS (seedsE zen) A (D7 zen entrL [] 32) 2 R 0 0 false [] 0 0 [] 0 5 100 0 0 1000 [])/\(0<=wr'/\wr'<=nx')/\nx'<=nx /\
  Y E0 (.loop 4 0 0 1 [(0,.sl .u8 au),(1,.sl .u8 ca),(2,.b ag),(3,.u8 ns),(9,.pa 0 0),(11,.i (hdF i)),(12,.sl .u8 (ncF R i)),(13,.i (i:Int))] [(0,some (.var [.sl (.sl .u8) ar,.i wr,.i 0,.i 0,.b false,.sl (.sl .u8) (seedsE zen),.sl (.sl .u8) A,.sl .u8 (D7 zen entrL [] 32),.i 2,.i R,.i 0,.i 0,.b false,.sl (.sl (.sl .u8)) [],.i 0,.i 0,.sl FU [],.i 0,.i 5,.i 100,.i 0,.i 0,.i 1000,.sl IJ [],.b true,.b false,.sl (.sl (.sl .u8)) (newRB 2),.i 0,.i 0,.b F,.i (i:Int),.sl Gi (sesK R i),.sl objT nI,.sl .i64 [],.sl .i64 [],.b true,.i nx]))])=some (.fin (.exit 0) 1 [(0,.sl .u8 au),(1,.sl .u8 ca),(2,.b ag),(3,.u8 ns),(9,.pa 0 0),(11,.i (hdF (m+1))),(12,.sl .u8 (ncF R (m+1)))] [(0,some (.var [.sl (.sl .u8) ar',.i wr',.i 0,.i 0,.b false,.sl (.sl .u8) (seedsE zen),.sl (.sl .u8) A,.sl .u8 (D7 zen entrL [] 32),.i 2,.i R,.i 0,.i 0,.b false,.sl (.sl (.sl .u8)) [],.i 0,.i 0,.sl FU [],.i 0,.i 5,.i 100,.i 0,.i 0,.i 1000,.sl IJ [],.b true,.b false,.sl (.sl (.sl .u8)) (newRB 2),.i 0,.i 0,.b F,.i ((m+1:Nat):Int),.sl Gi (sesK R (m+1)),.sl objT nI,.sl .i64 [],.sl .i64 [],.b true,.i nx']))])
 | 0,i,hi=>by
  intro ar wr nx h1 h2 h3
  obtain rfl:i=m+1:=zf
  refine⟨ar,wr,nx,h1,h2,Int.le_refl _,?_⟩
  rw[JB];conv=>lhs;whnf
  refine tq ?_
  with_reducible rfl
 | k+1,i,hi=>by
  intro ar wr nx h1 h2 h3
  obtain⟨ar1,wr1,nx1,k1,k2,k3,m1⟩:=op_1 A hA hm R hR F i zf ar wr nx h1 h2 h3
  obtain⟨ar',wr',nx',j1,j2,j3,ih⟩:=lp_0 au ca ag ns A hA hm R hR F m hm3 hns k (i+1) zf ar1 wr1 nx1 k1 k2 zf
  refine⟨ar',wr',nx',j1,j2,by omega,?_⟩
  rw[show((i+1:Nat):Int)=(i:Int)+1 from by omega,show hdF (i+1)=768+(i:Int) from rfl,show ncF R (i+1)=rnd R i from rfl] at ih
  rw[JB];conv=>lhs;whnf
  rw[hns]
  refine tq ?_
  rw[ev_topen _]
  refine tq ?_
  rw[m1]
  refine tq ?_
  exact ih
noncomputable def ncF'(N0:List UInt8)(R:Int):Nat->List UInt8
 | 0=>N0
 | j+1=>rnd R j
theorem lp_1(au ca:List UInt8)(ns:UInt8)(A:List (List UInt8))(hA:A.length=4)(hm:∀ x∈A,x.length<=1000)(R:Int)(hR:0<=R/\R<=10)(F:Bool)(m:Nat)(hm3:m<3)(hns:D8 (Aa ns (UInt8.ofNat 3))=(m:Int))(v dg N0:List UInt8)(hd:Int):∀(k i:Nat),i+k=m+1->∀(ar:List (List UInt8)) (wr nx:Int),arOK ar (nx-1) (encS (seedsE zen) A (D7 zen entrL [] 32) 2 R 0 0 false [] 0 0 [] 0 5 100 0 0 1000 [])->0<=wr/\wr<=nx->nx<=1000->∃ ar' wr' nx',arOK ar' (nx'-1) (encS (seedsE zen) A (D7 zen entrL [] 32) 2 R 0 0 false [] 0 0 [] 0 5 100 0 0 1000 [])/\(0<=wr'/\wr'<=nx')/\nx'<=nx /\
  Y E0 (.loop 4 1 0 2 [(0,.sl .u8 au),(1,.sl .u8 ca),(3,.u8 ns),(9,.pa 0 0),(10,.b true),(17,.pa 1 0),(18,.sl .u8 dg),(20,.sl .u8 (ncF' N0 R i)),(21,.i (i:Int))] [(0,some (.var [.sl (.sl .u8) ar,.i wr,.i 0,.i 0,.b false,.sl (.sl .u8) (seedsE zen),.sl (.sl .u8) A,.sl .u8 (D7 zen entrL [] 32),.i 2,.i R,.i 0,.i 0,.b false,.sl (.sl (.sl .u8)) [],.i 0,.i 0,.sl FU [],.i 0,.i 5,.i 100,.i 0,.i 0,.i 1000,.sl IJ [],.b true,.b false,.sl (.sl (.sl .u8)) (newRB 2),.i 0,.i 0,.b F,.i (i:Int),.sl Gi (sesK R i),.sl objT nI,.sl .i64 [],.sl .i64 [],.b true,.i nx])),(1,some (.var [.i 21,.sl .i64 [2],.sl MR [(hd,ca,v)],.sl .i64 [1,2,3,8],.sl (.sl .u8) [[],[]]]))])
   = some (.fin (.exit 2) 2 [(0,.sl .u8 au),(1,.sl .u8 ca),(9,.pa 0 0),(10,.b true),(17,.pa 1 0),(18,.sl .u8 dg),(20,.sl .u8 (ncF' N0 R (m+1)))] [(0,some (.var [.sl (.sl .u8) ar',.i wr',.i 0,.i 0,.b false,.sl (.sl .u8) (seedsE zen),.sl (.sl .u8) A,.sl .u8 (D7 zen entrL [] 32),.i 2,.i R,.i 0,.i 0,.b false,.sl (.sl (.sl .u8)) [],.i 0,.i 0,.sl FU [],.i 0,.i 5,.i 100,.i 0,.i 0,.i 1000,.sl IJ [],.b true,.b false,.sl (.sl (.sl .u8)) (newRB 2),.i 0,.i 0,.b F,.i ((m+1:Nat):Int),.sl Gi (sesK R (m+1)),.sl objT nI,.sl .i64 [],.sl .i64 [],.b true,.i nx'])),(1,some (.var [.i 21,.sl .i64 [2],.sl MR [(hd,ca,v)],.sl .i64 [1,2,3,8],.sl (.sl .u8) [[],[]]]))])
 | 0,i,hi=>by
  intro ar wr nx h1 h2 h3
  obtain rfl:i=m+1:=zf
  refine⟨ar,wr,nx,h1,h2,Int.le_refl _,?_⟩
  rw[JB];conv=>lhs;whnf
  refine tq ?_
  with_reducible rfl
 | k+1,i,hi=>by
  intro ar wr nx h1 h2 h3
  obtain⟨ar1,wr1,nx1,k1,k2,k3,m1⟩:=op_1 A hA hm R hR F i zf ar wr nx h1 h2 h3
  obtain⟨ar',wr',nx',j1,j2,j3,ih⟩:=lp_1 au ca ns A hA hm R hR F m hm3 hns v dg N0 hd k (i+1) zf ar1 wr1 nx1 k1 k2 zf
  refine⟨ar',wr',nx',j1,j2,by omega,?_⟩
  rw[show((i+1:Nat):Int)=(i:Int)+1 from by omega,show ncF' N0 R (i+1)=rnd R i from rfl] at ih
  rw[JB];conv=>lhs;whnf
  rw[hns]
  refine tq ?_
  rw[ev_topen _]
  refine tq ?_
  rw[m1]
  refine tq ?_
  exact ih
end
section
attribute [local irreducible] BL BM BN BO BP BJ BQ CX Cm CY CW Ba Bc BF BC and' BG Bd Aa Ac Ad Ae Af AL AO AP AQ BR D8 BU D5 Be Bf Ag Ah Ai Aj AB AZ AU Ar BA BV BH BB Au Aw BI Bg BX fits BZ BK A7 A8 AC
theorem rem3(ns:UInt8):∃ m:Nat,m<3/\D8 (Aa ns (UInt8.ofNat 3))=(m:Int) :=
 ⟨ns.toNat%3,Nat.mod_lt _ zh,by rw[u8i_eq,u8rem_nat];rfl⟩
theorem ev_TopReplay_f(au ca:List UInt8)(ns:UInt8)(hal:au.length<=32)(hcl:ca.length<=60):Y E0 (.call 4 [.sl .u8 au,.sl .u8 ca,.b false,.u8 ns] [])=some (.ret (.b true) []):=by
 obtain⟨m,hm3,hns⟩:=rem3 ns
 obtain⟨ar,wr,nx,h1,h2,h3,h4,hf⟩:=ev_fresh
 obtain⟨A,hAe⟩:∃ A,A=BH [[],[],[],[]] 2 au:=⟨_,rfl⟩
 have hm:∀ x∈A,x.length<=1000:=by
  rw[hAe,UJ];intro x hx;simp at hx;rcases hx with rfl|rfl|rfl
  ·simp
  ·omega
  ·simp
 have hA:A.length=4:=by rw[hAe,UJ,List.length_set];rfl
 have hA2:BA A 2=some au:=by rw[hAe,UJ];exact mr _ _ _ _
 obtain⟨ar1,wr1,nx1,i1,i2,i3,c1⟩:=ca_1 au hal A hAe true ar wr nx h1 ⟨h2,h3⟩ zf
 obtain⟨ar2,wr2,nx2,j1,j2,j3,c2⟩:=lp_0 au ca false ns A hA hm 1 zf true m hm3 hns (m+1) 0 zf ar1 wr1 nx1 i1 i2 zf
 rw[show hdF 0=0 from rfl,show ncF 1 0=[] from rfl,show((0:Nat):Int)=0 from rfl,sesK0] at c2
 rw[show hdF (m+1)=768+(m:Int) from rfl,show ncF 1 (m+1)=rnd 1 m from rfl,show((m+1:Nat):Int)=(m:Int)+1 from by omega] at c2
 obtain⟨v,hv⟩:∃ v,v=macR au (rnd 1 m) ca:=⟨_,rfl⟩
 have hvl:v.length=32:=by rw[hv];exact macR_len _ _ _
 obtain⟨ar3,wr3,nx3,k1,k2,k3,c3⟩:=df_t A au ca hA hm hA2 zf hcl 1 zf true m hm3 ((m:Int)+1) zf (sesK 1 (m+1)) (rnd 1 m) v (rnd_len _ _) (sesK_len _ _) (sesK_get 1 m hm3) hv ar2 wr2 nx2 j1 j2 zf
 obtain⟨N2,hN2⟩:∃ N2,iR (D7 zen entrL [] 32) 1 0 ((m:Int)+1) 16=N2:=⟨_,rfl⟩
 have hN2l:N2.length=16:=by rw[<-hN2,iR];exact OY (n:=16) zf
 rw[hN2] at c3
 obtain⟨Z2,hZ2⟩:∃ Z2,BH (sesK 1 (m+1)) (m:Int) (1,N2,zen,-1,31,0,0,false)=Z2:=⟨_,rfl⟩
 have hZ2l:Z2.length=3:=by rw[<-hZ2,UJ,List.length_set,sesK_len]
 have hZ2g:BA Z2 (m:Int)=some (1,N2,zen,(-1:Int),31,0,0,false):=by
  rw[<-hZ2,UJ,lget_i (by rw[List.length_set,sesK_len];omega)];simp
 rw[hZ2] at c3
 obtain⟨ar4,wr4,nx4,l1,l2,l3,c4⟩:=ud_1 A au hA hm hA2 hal 1 zf true ((m:Int)+1+1) Z2 ar3 wr3 nx3 k1 k2 zf
 have d1:=ev_r20dig []
 have d2:=ev_r20mac au (cmdB 21 [hierB 2] [1,2,3,8] [[],[]]) (rnd 1 m) ca zf (by rw[cmdB_len];omega) (by rw[rnd_len];omega) zf
 rw[show dR au (Bh 10 [cmdB 21 [hierB 2] [1,2,3,8] [[],[]],rnd 1 m,ca])=v from hv.symm] at d2
 have d3:=ev_r20mac au (cmdB 21 [hierB 2] [1,2,3,8] [[],[]]) N2 ca zf (by rw[cmdB_len];omega) zf zf
 rw[show dR au (Bh 10 [cmdB 21 [hierB 2] [1,2,3,8] [[],[]],N2,ca])=macR au N2 ca from rfl] at d3
 have hml:=macR_len au N2 ca
 by_cases hE:v=macR au N2 ca
 ·obtain⟨ar5,wr5,nx5,-,-,-,c5⟩:=df_t A au ca hA hm hA2 zf hcl 1 zf true m hm3 ((m:Int)+1+1) zf Z2 N2 v hN2l hZ2l hZ2g hE ar4 wr4 nx4 l1 l2 zf
  have hs:decide (macR au N2 ca=v)=true:=decide_eq_true hE.symm
  refine tq ?_
  rw[ev_tawake]
  refine tq ?_
  rw[hf]
  refine tq ?_
  rw[ev_with ..]
  refine tq ?_
  rw[c1]
  refine tq ?_
  rw[c2]
  refine tq ?_
  rw[ev_r10hier _]
  refine tq ?_
  rw[d1]
  refine tq ?_
  rw[d2]
  refine tq ?_
  rw[c3]
  refine tq ?_
  rw[ev_with ..]
  refine tq ?_
  rw[c4]
  conv=>lhs;whnf
  try dsimp -iota -beta -eta -zeta only
  rw[drw zi];conv=>lhs;whnf
  rw[UK];conv=>lhs;whnf
  rw[JB]
  conv=>lhs;whnf
  rw[JB]
  conv=>lhs;whnf
  try dsimp -iota -beta -eta -zeta only
  rw[OQ]
  rw[c5]
  refine tq ?_
  rw[d3]
  refine tq ?_
  rw[ev_same _ _ zf,hs]
  conv=>lhs;whnf
  try dsimp -iota -beta -eta -zeta only
  rw[drw zi];conv=>lhs;whnf
  (congr 3;simp only[bu,bz,ilt_eq,ile_eq,UK,bi,QP];first|rfl|(rw[decide_eq_decide];omega)|(simp;omega))
 ·obtain⟨ar5,wr5,nx5,c5⟩:=df_f A au ca hA hm hA2 zf hcl 1 zf true m hm3 ((m:Int)+1+1) Z2 N2 v hN2l hvl hZ2l hZ2g hE ar4 wr4 nx4 l1 l2 zf
  have hs:decide (macR au N2 ca=v)=false:=decide_eq_false fun e=>hE e.symm
  refine tq ?_
  rw[ev_tawake]
  refine tq ?_
  rw[hf]
  refine tq ?_
  rw[ev_with ..]
  refine tq ?_
  rw[c1]
  refine tq ?_
  rw[c2]
  refine tq ?_
  rw[ev_r10hier _]
  refine tq ?_
  rw[d1]
  refine tq ?_
  rw[d2]
  refine tq ?_
  rw[c3]
  refine tq ?_
  rw[ev_with ..]
  refine tq ?_
  rw[c4]
  conv=>lhs;whnf
  try dsimp -iota -beta -eta -zeta only
  rw[drw zi];conv=>lhs;whnf
  rw[UK];conv=>lhs;whnf
  rw[JB]
  conv=>lhs;whnf
  rw[JB]
  conv=>lhs;whnf
  try dsimp -iota -beta -eta -zeta only
  rw[OQ]
  rw[c5]
  refine tq ?_
  rw[d3]
  refine tq ?_
  rw[ev_same _ _ zf,hs]
  conv=>lhs;whnf
  try dsimp -iota -beta -eta -zeta only
  rw[drw zi];conv=>lhs;whnf
  (congr 3;simp only[bu,bz,ilt_eq,ile_eq,UK,bi,QP];first|rfl|(rw[decide_eq_decide];omega)|(simp;omega))
theorem ev_TopReplay_t(au ca:List UInt8)(ns:UInt8)(hal:au.length<=32)(hcl:ca.length<=60):Y E0 (.call 4 [.sl .u8 au,.sl .u8 ca,.b true,.u8 ns] [])=some (.ret (.b true) []):=by
 obtain⟨m,hm3,hns⟩:=rem3 ns
 obtain⟨ar,wr,nx,h1,h2,h3,h4,hf⟩:=ev_fresh
 obtain⟨A,hAe⟩:∃ A,A=BH [[],[],[],[]] 2 au:=⟨_,rfl⟩
 have hm:∀ x∈A,x.length<=1000:=by
  rw[hAe,UJ];intro x hx;simp at hx;rcases hx with rfl|rfl|rfl
  ·simp
  ·omega
  ·simp
 have hA:A.length=4:=by rw[hAe,UJ,List.length_set];rfl
 have hA2:BA A 2=some au:=by rw[hAe,UJ];exact mr _ _ _ _
 obtain⟨ar1,wr1,nx1,i1,i2,i3,c1⟩:=ca_1 au hal A hAe true ar wr nx h1 ⟨h2,h3⟩ zf
 obtain⟨ar2,wr2,nx2,j1,j2,j3,c2⟩:=lp_0 au ca true ns A hA hm 1 zf true m hm3 hns (m+1) 0 zf ar1 wr1 nx1 i1 i2 zf
 rw[show hdF 0=0 from rfl,show ncF 1 0=[] from rfl,show((0:Nat):Int)=0 from rfl,sesK0] at c2
 rw[show hdF (m+1)=768+(m:Int) from rfl,show ncF 1 (m+1)=rnd 1 m from rfl,show((m+1:Nat):Int)=(m:Int)+1 from by omega] at c2
 obtain⟨v,hv⟩:∃ v,v=macR au (rnd 1 m) ca:=⟨_,rfl⟩
 have hvl:v.length=32:=by rw[hv];exact macR_len _ _ _
 obtain⟨ar3,wr3,nx3,k1,k2,k3,c3⟩:=df_t A au ca hA hm hA2 zf hcl 1 zf true m hm3 ((m:Int)+1) zf (sesK 1 (m+1)) (rnd 1 m) v (rnd_len _ _) (sesK_len _ _) (sesK_get 1 m hm3) hv ar2 wr2 nx2 j1 j2 zf
 obtain⟨N2,hN2⟩:∃ N2,iR (D7 zen entrL [] 32) 1 0 ((m:Int)+1) 16=N2:=⟨_,rfl⟩
 have hN2l:N2.length=16:=by rw[<-hN2,iR];exact OY (n:=16) zf
 rw[hN2] at c3
 obtain⟨Z2,hZ2⟩:∃ Z2,BH (sesK 1 (m+1)) (m:Int) (1,N2,zen,-1,31,0,0,false)=Z2:=⟨_,rfl⟩
 have hZ2l:Z2.length=3:=by rw[<-hZ2,UJ,List.length_set,sesK_len]
 have hZ2g:BA Z2 (m:Int)=some (1,N2,zen,(-1:Int),31,0,0,false):=by
  rw[<-hZ2,UJ,lget_i (by rw[List.length_set,sesK_len];omega)];simp
 rw[hZ2] at c3
 obtain⟨ar4,wr4,nx4,l1,l2,l3,c4⟩:=ud_1 A au hA hm hA2 hal 1 zf true ((m:Int)+1+1) Z2 ar3 wr3 nx3 k1 k2 zf
 have d1:=ev_r20dig []
 have d2:=ev_r20mac au (cmdB 21 [hierB 2] [1,2,3,8] [[],[]]) (rnd 1 m) ca zf (by rw[cmdB_len];omega) (by rw[rnd_len];omega) zf
 rw[show dR au (Bh 10 [cmdB 21 [hierB 2] [1,2,3,8] [[],[]],rnd 1 m,ca])=v from hv.symm] at d2
 obtain⟨ar5,wr5,nx5,o1,o2,o3,o4,c5⟩:=ev_cycle ar4 wr4 0 0 nx4 (nx4-1) false true (seedsE zen) A (D7 zen entrL [] 32) 2 1 0 0 false 0 0 [] 0 5 100 0 0 1000 [] true false (newRB 2) 0 0 true ((m:Int)+1+1) Z2 nI [] [] (seedsE zen) A (D7 zen entrL [] 32) 1 0 0 false 0 0 0 5 100 0 0 1000 l1 (okA A hA hm 1 zf [] (.inl rfl)) zf zf
 rw[show(1:Int)+1=2 from rfl] at o1 c5
 obtain⟨ar6,wr6,nx6,p1,p2,p3,c6⟩:=lp_1 au ca ns A hA hm 2 zf false m hm3 hns v (cmdB 21 [hierB 2] [1,2,3,8] [[],[]]) N2 (768+(m:Int)) (m+1) 0 zf ar5 wr5 nx5 o1 ⟨o2,o3⟩ zf
 rw[show ncF' N2 2 0=N2 from rfl,show ncF' N2 2 (m+1)=rnd 2 m from rfl,show((0:Nat):Int)=0 from rfl,sesK0,show((m+1:Nat):Int)=(m:Int)+1 from by omega] at c6
 have d3:=ev_r20mac au (cmdB 21 [hierB 2] [1,2,3,8] [[],[]]) (rnd 2 m) ca zf (by rw[cmdB_len];omega) (by rw[rnd_len];omega) zf
 rw[show dR au (Bh 10 [cmdB 21 [hierB 2] [1,2,3,8] [[],[]],rnd 2 m,ca])=macR au (rnd 2 m) ca from rfl] at d3
 have hml:=macR_len au (rnd 2 m) ca
 by_cases hE:v=macR au (rnd 2 m) ca
 ·obtain⟨ar7,wr7,nx7,-,-,-,c7⟩:=df_t A au ca hA hm hA2 zf hcl 2 zf false m hm3 ((m:Int)+1) zf (sesK 2 (m+1)) (rnd 2 m) v (rnd_len _ _) (sesK_len _ _) (sesK_get 2 m hm3) hE ar6 wr6 nx6 p1 p2 zf
  have hs:decide (macR au (rnd 2 m) ca=v)=true:=decide_eq_true hE.symm
  refine tq ?_
  rw[ev_tawake]
  refine tq ?_
  rw[hf]
  refine tq ?_
  rw[ev_with ..]
  refine tq ?_
  rw[c1]
  refine tq ?_
  rw[c2]
  refine tq ?_
  rw[ev_r10hier _]
  refine tq ?_
  rw[d1]
  refine tq ?_
  rw[d2]
  refine tq ?_
  rw[c3]
  refine tq ?_
  rw[ev_with ..]
  refine tq ?_
  rw[c4]
  conv=>lhs;whnf
  try dsimp -iota -beta -eta -zeta only
  rw[drw zi];conv=>lhs;whnf
  rw[UK];conv=>lhs;whnf
  rw[JB]
  conv=>lhs;whnf
  try dsimp -iota -beta -eta -zeta only
  rw[OQ]
  rw[c5]
  refine tq ?_
  rw[c6]
  refine tq ?_
  rw[c7]
  refine tq ?_
  rw[d3]
  refine tq ?_
  rw[ev_same _ _ zf,hs]
  conv=>lhs;whnf
  try dsimp -iota -beta -eta -zeta only
  rw[drw zi];conv=>lhs;whnf
  (congr 3;simp only[bu,bz,ilt_eq,ile_eq,UK,bi,QP];first|rfl|(rw[decide_eq_decide];omega)|(simp;omega))
 ·obtain⟨ar7,wr7,nx7,c7⟩:=df_f A au ca hA hm hA2 zf hcl 2 zf false m hm3 ((m:Int)+1) (sesK 2 (m+1)) (rnd 2 m) v (rnd_len _ _) hvl (sesK_len _ _) (sesK_get 2 m hm3) hE ar6 wr6 nx6 p1 p2 zf
  have hs:decide (macR au (rnd 2 m) ca=v)=false:=decide_eq_false fun e=>hE e.symm
  refine tq ?_
  rw[ev_tawake]
  refine tq ?_
  rw[hf]
  refine tq ?_
  rw[ev_with ..]
  refine tq ?_
  rw[c1]
  refine tq ?_
  rw[c2]
  refine tq ?_
  rw[ev_r10hier _]
  refine tq ?_
  rw[d1]
  refine tq ?_
  rw[d2]
  refine tq ?_
  rw[c3]
  refine tq ?_
  rw[ev_with ..]
  refine tq ?_
  rw[c4]
  conv=>lhs;whnf
  try dsimp -iota -beta -eta -zeta only
  rw[drw zi];conv=>lhs;whnf
  rw[UK];conv=>lhs;whnf
  rw[JB]
  conv=>lhs;whnf
  try dsimp -iota -beta -eta -zeta only
  rw[OQ]
  rw[c5]
  refine tq ?_
  rw[c6]
  refine tq ?_
  rw[c7]
  refine tq ?_
  rw[d3]
  refine tq ?_
  rw[ev_same _ _ zf,hs]
  conv=>lhs;whnf
  try dsimp -iota -beta -eta -zeta only
  rw[drw zi];conv=>lhs;whnf
  (congr 3;simp only[bu,bz,ilt_eq,ile_eq,UK,bi,QP];first|rfl|(rw[decide_eq_decide];omega)|(simp;omega))
theorem QU(au ca:List UInt8)(ag:Bool)(ns:UInt8):Y E0 (.call 4 [.sl .u8 au,.sl .u8 ca,.b ag,.u8 ns] [])=some (.ret (.b true) []):=by
 by_cases hl:au.length<=32/\ca.length<=60
 ·cases ag
  ·exact ev_TopReplay_f au ca ns hl.1 hl.2
  ·exact ev_TopReplay_t au ca ns hl.1 hl.2
 ·by_cases h1:au.length<=32
  ·have h2:60<ca.length:=zf
   refine tq ?_
   rw[ev_tawake]
   exact tq rfl
  ·have h2:32<au.length:=zf
   refine tq ?_
   rw[ev_tawake]
   exact tq rfl
end
end Go.Proofs.YtanagnimhaemgaaGreatDoor
