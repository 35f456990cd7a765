/-
  Own texts, laid together for this claim: contracts of functions of the program and its references, used by the statements of this seat.
-/
import Derived.Test.YtanagnimhaemgaaGreatDoorKtac
import Derived.Test.YtanagnimhaemgaaGreatDoorKtad
import Derived.Test.YtanagnimhaemgaaGreatDoorKtaf
import Derived.Test.YtanagnimhaemgaaGreatDoorKtag
import Derived.Test.YtanagnimhaemgaaGreatDoorKtaj
import Derived.Test.YtanagnimhaemgaaGreatDoorKtak
import Derived.Test.YtanagnimhaemgaaGreatDoorKtan
import Derived.Test.YtanagnimhaemgaaGreatDoorKtaq
import Derived.Test.YtanagnimhaemgaaGreatDoorKtas
import Derived.Test.YtanagnimhaemgaaGreatDoorKtat
import Derived.Test.YtanagnimhaemgaaGreatDoorKtaw
import Derived.Test.YtanagnimhaemgaaGreatDoorKtax
import Derived.Test.YtanagnimhaemgaaGreatDoorKtaz
import Derived.Test.YtanagnimhaemgaaGreatDoorKtba
import Derived.Test.YtanagnimhaemgaaGreatDoorKtbb
import Derived.Test.YtanagnimhaemgaaGreatDoorKtbc
set_option linter.all false
set_option maxHeartbeats 40000000
set_option maxRecDepth 100000
namespace Go.Proofs.YtanagnimhaemgaaGreatDoor
open Go Go.Ax Go.Eng
variable (f:Int)(sd au:List (List UInt8))(en:List UInt8)(ac re rs ck:Int)(od:Bool)(su mc:Int)(ix:List (El AB))(l1 l2 l3 l4 l5 l6:Int)(ks:List (El BP))(st sp:Bool)(rb:List (List (List UInt8)))(ru vc:Int)(sf:Bool)(dr:Int)(ss:List (El sesT))(ob:List (El objT))(rl:List Int)(h:Int)(wl:List Int)(c x5:Int)(hs:List Int)(x6 x7:Int)(az:List (El AL))(x2:List UInt8)(qi:List Int)(x3:List UInt8)(qb:List (List UInt8))(x8:Bool)
section
attribute [local irreducible] Bl CS CU CJ Bh Ak CV Du EN E5 EH Be BN CE Bz and' CG CO BC Ag Ar BF BG AY Aa AP AX CW Dv CX DT C9 BJ BD BA BB Au AQ Az Ac Aw Ah CY BL Bi BR BI CB CZ CP fits Cb CQ A8 AA AZ
theorem Ym:NY.length=32:=A7 _
theorem vV(h kd x4 x5 x6 x7:Int)(x2 x3:List UInt8)(x8:Bool)(hl:ss.length<=1000)(hh:0<=h-768/\h-768<ss.length)(hg:Ah ss (h-768)=some (kd,x2,x3,x4,x5,x6,x7,x8))(hz:kd=2):Y E0 (.call 229 [.agg [.sl (.sl .u8) sd,.sl (.sl .u8) au,.sl .u8 en,.i ac,.i re,.i rs,.i ck,.b od,.sl (.sl (.sl .u8)) [],.i su,.i mc,.sl AB ix,.i l1,.i l2,.i l3,.i l4,.i l5,.i l6,.sl BP ks,.b st,.b sp,.sl (.sl (.sl .u8)) rb,.i ru,.i vc,.b sf,.i dr,.sl sesT ss,.sl objT ob,.sl .i64 rl,.sl .i64 wl],.i h] [])=some (.ret (.tup [.i (h-768),pg kd x2 x3 x4 x5 x6 x7 x8,.b true]) []):=by
 subst hz
 refine tq ?_
 rw[Qd (hl:=Am) (hh:=Am) (hg:=Am) (hz:=Am) ..]
 exact tq rfl
theorem vW(hrb:rb=BZ 2):Y E0 (.call 321 [.agg [.sl (.sl .u8) sd,.sl (.sl .u8) au,.sl .u8 en,.i ac,.i re,.i rs,.i ck,.b od,.sl (.sl (.sl .u8)) [],.i su,.i mc,.sl AB ix,.i l1,.i l2,.i l3,.i l4,.i l5,.i l6,.sl BP ks,.b st,.b sp,.sl (.sl (.sl .u8)) rb,.i ru,.i vc,.b sf,.i dr,.sl sesT ss,.sl objT ob,.sl .i64 rl,.sl .i64 wl],pg 2 x2 x3 (-1) x5 x6 x7 x8,wK 1 0 1 [] 0 0 [] [] [] []] [])=some (.ret (.tup [pg 2 x2 x3 ru x5 x6 x7 x8,wK 1 0 1 NY 0 0 [] [] [] [],.i 0]) []):=by
 have hRB:BZ 2=[[],GR 32]:=rfl
 subst hrb
 have hd:=qc ru
 rw[<-hRB] at hd
 refine tq ?_
 rw[hd]
 exact tq rfl
theorem vX(hrb:rb=BZ 2):Y E0 (.call 286 [.agg [.sl (.sl .u8) sd,.sl (.sl .u8) au,.sl .u8 en,.i ac,.i re,.i rs,.i ck,.b od,.sl (.sl (.sl .u8)) [],.i su,.i mc,.sl AB ix,.i l1,.i l2,.i l3,.i l4,.i l5,.i l6,.sl BP ks,.b st,.b sp,.sl (.sl (.sl .u8)) rb,.i ru,.i vc,.b sf,.i dr,.sl sesT ss,.sl objT ob,.sl .i64 rl,.sl .i64 wl],pg 2 x2 x3 (-1) x5 x6 x7 x8,wK 1 0 1 [] 0 0 [] [] [] []] [])=some (.ret (.tup [pg 2 x2 x3 ru x5 x6 x7 x8,wK 1 0 1 NY 0 0 [] [] [] [],.i 0]) []):=by
 rw[AU]
 conv=>lhs;whnf
 rw[Ep zaa]
 conv=>lhs;whnf
 try dsimp -iota -beta -eta -zeta only
 rw[Aj]
 rw[vW (hrb:=Am) ..]
 exact tq rfl
theorem A3S(k x4 x5 x6 x7:Int)(x2 x3 d:List UInt8)(x8:Bool)(hl:ss.length<=1000)(hk:0<=k/\k<ss.length)(h3:x3.length<=1000)(hd:d.length=32):Y E0 (.call 232 [.agg [.sl (.sl .u8) sd,.sl (.sl .u8) au,.sl .u8 en,.i ac,.i re,.i rs,.i ck,.b od,.sl (.sl (.sl .u8)) [],.i su,.i mc,.sl AB ix,.i l1,.i l2,.i l3,.i l4,.i l5,.i l6,.sl BP ks,.b st,.b sp,.sl (.sl (.sl .u8)) rb,.i ru,.i vc,.b sf,.i dr,.sl sesT ss,.sl objT ob,.sl .i64 rl,.sl .i64 wl],.i k,pg 2 x2 x3 x4 x5 x6 x7 x8,wK 1 0 1 d 0 0 [] [] [] []] [])=some (.ret (.agg [.sl (.sl .u8) sd,.sl (.sl .u8) au,.sl .u8 en,.i ac,.i re,.i rs,.i ck,.b od,.sl (.sl (.sl .u8)) [],.i su,.i mc,.sl AB ix,.i l1,.i l2,.i l3,.i l4,.i l5,.i l6,.sl BP ks,.b st,.b sp,.sl (.sl (.sl .u8)) rb,.i ru,.i vc,.b sf,.i dr,.sl sesT (BL ss k (2,x2,V4 x3 d,x4,x5,x6,x7,x8)),.sl objT ob,.sl .i64 rl,.sl .i64 wl]) []):=by
 have k1:=vU x3 d h3 hd
 refine tq ?_
 rw[k1]
 refine tq ?_
 rw[Zy (hl:=Am) (hk:=Am) ..]
 exact tq rfl
theorem vY(h x5 x6 x7:Int)(x2 x3:List UInt8)(x8:Bool)(hrb:rb=BZ 2)(hl:ss.length<=1000)(hh:0<=h-768/\h-768<ss.length)(hg:Ah ss (h-768)=some (2,x2,x3,(-1:Int),x5,x6,x7,x8))(h3:x3.length<=1000):Y E0 (.call 227 [.agg [.sl (.sl .u8) sd,.sl (.sl .u8) au,.sl .u8 en,.i ac,.i re,.i rs,.i ck,.b od,.sl (.sl (.sl .u8)) [],.i su,.i mc,.sl AB ix,.i l1,.i l2,.i l3,.i l4,.i l5,.i l6,.sl BP ks,.b st,.b sp,.sl (.sl (.sl .u8)) rb,.i ru,.i vc,.b sf,.i dr,.sl sesT ss,.sl objT ob,.sl .i64 rl,.sl .i64 wl],.i h,wK 1 0 1 [] 0 0 [] [] [] []] [])=some (.ret (.tup [.agg [.sl (.sl .u8) sd,.sl (.sl .u8) au,.sl .u8 en,.i ac,.i re,.i rs,.i ck,.b od,.sl (.sl (.sl .u8)) [],.i su,.i mc,.sl AB ix,.i l1,.i l2,.i l3,.i l4,.i l5,.i l6,.sl BP ks,.b st,.b sp,.sl (.sl (.sl .u8)) rb,.i ru,.i vc,.b sf,.i dr,.sl sesT (BL ss (h-768) (2,x2,V4 x3 NY,ru,x5,x6,x7,x8)),.sl objT ob,.sl .i64 rl,.sl .i64 wl],.i 0]) []):=by
 have k1:=A3S sd au en ac re rs ck od su mc ix l1 l2 l3 l4 l5 l6 ks st sp rb ru vc sf dr ss ob rl wl (h-768) ru x5 x6 x7 x2 x3 NY x8 hl hh h3 Ym
 refine tq ?_
 rw[vV (hl:=Am) (hh:=Am) (hg:=Am) (hz:=Am) ..]
 refine tq ?_
 rw[Yg]
 refine tq ?_
 rw[Yl _ zaC]
 refine tq ?_
 rw[vX (hrb:=Am) ..]
 refine tq ?_
 rw[k1]
 exact tq rfl
theorem A6a:Ah [h,1,0,1,0,0] 3=some 1:=by rw[DZ zan];rfl
theorem A6b:Ah [h,1,0,1,0,0] 4=some 0:=by rw[DZ zan];rfl
theorem A6c:Ah [h,1,0,1,0,0] 5=some 0:=by rw[DZ zan];rfl
theorem mY(h x5 x6 x7:Int)(x2 x3:List UInt8)(x8:Bool)(hrb:rb=BZ 2)(hl:ss.length<=1000)(hh:0<=h-768/\h-768<ss.length)(hg:Ah ss (h-768)=some (2,x2,x3,(-1:Int),x5,x6,x7,x8))(h3:x3.length<=1000):Y E0 (.call 190 [.agg [.sl (.sl .u8) sd,.sl (.sl .u8) au,.sl .u8 en,.i ac,.i re,.i rs,.i ck,.b od,.sl (.sl (.sl .u8)) [],.i su,.i mc,.sl AB ix,.i l1,.i l2,.i l3,.i l4,.i l5,.i l6,.sl BP ks,.b st,.b sp,.sl (.sl (.sl .u8)) rb,.i ru,.i vc,.b sf,.i dr,.sl sesT ss,.sl objT ob,.sl .i64 rl,.sl .i64 wl],rq 17 [] [] [h,1,0,1,0,0] [[]]] [])=some (.ret (.tup [.agg [.sl (.sl .u8) sd,.sl (.sl .u8) au,.sl .u8 en,.i ac,.i re,.i rs,.i ck,.b od,.sl (.sl (.sl .u8)) [],.i su,.i mc,.sl AB ix,.i l1,.i l2,.i l3,.i l4,.i l5,.i l6,.sl BP ks,.b st,.b sp,.sl (.sl (.sl .u8)) rb,.i ru,.i vc,.b sf,.i dr,.sl sesT (BL ss (h-768) (2,x2,V4 x3 NY,ru,x5,x6,x7,x8)),.sl objT ob,.sl .i64 rl,.sl .i64 wl],Jw 0 [] [] []]) []):=by
 refine tq ?_
 rw[A6a]
 refine tq ?_
 rw[A6b]
 refine tq ?_
 rw[A6c]
 refine tq ?_
 rw[vY (hrb:=Am) (hl:=Am) (hh:=Am) (hg:=Am) (h3:=Am) ..]
 refine tq ?_
 rw[qV ..]
 exact tq rfl
theorem A3T(h x5 x6 x7:Int)(x2 x3:List UInt8)(x8:Bool)(hrb:rb=BZ 2)(hl:ss.length<=1000)(hh:0<=h-768/\h-768<ss.length)(hg:Ah ss (h-768)=some (2,x2,x3,(-1:Int),x5,x6,x7,x8))(h3:x3.length<=1000):Y E0 (.call 163 [.agg [.sl (.sl .u8) sd,.sl (.sl .u8) au,.sl .u8 en,.i ac,.i re,.i rs,.i ck,.b od,.sl (.sl (.sl .u8)) [],.i su,.i mc,.sl AB ix,.i l1,.i l2,.i l3,.i l4,.i l5,.i l6,.sl BP ks,.b st,.b sp,.sl (.sl (.sl .u8)) rb,.i ru,.i vc,.b sf,.i dr,.sl sesT ss,.sl objT ob,.sl .i64 rl,.sl .i64 wl],.i 0,rq 17 [] [] [h,1,0,1,0,0] [[]]] [])=some (.ret (.tup [.agg [.sl (.sl .u8) sd,.sl (.sl .u8) au,.sl .u8 en,.i ac,.i re,.i rs,.i ck,.b od,.sl (.sl (.sl .u8)) [],.i su,.i mc,.sl AB ix,.i l1,.i l2,.i l3,.i l4,.i l5,.i l6,.sl BP ks,.b st,.b sp,.sl (.sl (.sl .u8)) rb,.i ru,.i vc,.b sf,.i dr,.sl sesT (BL ss (h-768) (2,x2,V4 x3 NY,ru,x5,x6,x7,x8)),.sl objT ob,.sl .i64 rl,.sl .i64 wl],Jw 0 [] [] []]) []):=by
 refine tq ?_
 rw[mY (hrb:=Am) (hl:=Am) (hh:=Am) (hg:=Am) (h3:=Am) ..]
 exact tq rfl
theorem A3U(h x5 x6 x7:Int)(x2 x3:List UInt8)(x8:Bool)(hst:st=true)(hrb:rb=BZ 2)(hl:ss.length<=1000)(hh:0<=h-768/\h-768<ss.length)(hg:Ah ss (h-768)=some (2,x2,x3,(-1:Int),x5,x6,x7,x8))(h3:x3.length<=1000)(hq:rqG 17 (-1) [] [] [h,1,0,1,0,0] [[]]):Y E0 (.call 131 [.agg [.sl (.sl .u8) sd,.sl (.sl .u8) au,.sl .u8 en,.i ac,.i re,.i rs,.i ck,.b od,.sl (.sl (.sl .u8)) [],.i su,.i mc,.sl AB ix,.i l1,.i l2,.i l3,.i l4,.i l5,.i l6,.sl BP ks,.b st,.b sp,.sl (.sl (.sl .u8)) rb,.i ru,.i vc,.b sf,.i dr,.sl sesT ss,.sl objT ob,.sl .i64 rl,.sl .i64 wl],.i 0,rq 17 [] [] [h,1,0,1,0,0] [[]]] [])=some (.ret (.tup [.agg [.sl (.sl .u8) sd,.sl (.sl .u8) au,.sl .u8 en,.i ac,.i re,.i rs,.i ck,.b od,.sl (.sl (.sl .u8)) [],.i su,.i mc,.sl AB ix,.i l1,.i l2,.i l3,.i l4,.i l5,.i l6,.sl BP ks,.b st,.b sp,.sl (.sl (.sl .u8)) rb,.i ru,.i vc,.b sf,.i dr,.sl sesT (BL ss (h-768) (2,x2,V4 x3 NY,ru,x5,x6,x7,x8)),.sl objT ob,.sl .i64 rl,.sl .i64 wl],Jw 0 [] [] []]) []):=by
 have k1:=P9 hq
 have k2:=PD sd au en ac re rs ck od su mc ix l1 l2 l3 l4 l5 l6 ks st sp rb ru vc sf dr ss ob rl wl 17 [] [h,1,0,1,0,0] [[]]
 subst hst
 refine tq ?_
 rw[k1]
 refine tq ?_
 rw[k2]
 refine tq ?_
 rw[A3T (hrb:=Am) (hl:=Am) (hh:=Am) (hg:=Am) (h3:=Am) ..]
 exact tq rfl
end
section
attribute [local irreducible] Bl CS CU CJ Bh Ak CV Du EN E5 EH Be BN CE Bz and' CG CO BC Ag Ar BF BG AY Aa AP AX CW Dv CX DT C9 BJ BD BA BB Au AQ Az Ac Aw Ah CY BL Bi BR BI CB CZ CP fits Cb CQ A8 AA AZ
attribute [local irreducible] Ec
theorem jL(h:Int)(v:List UInt8)(az:List (El AL))(is:List Int)(bs:List (List UInt8))(hh:0<=h/\h<=2)(hl:ix.length<=10)(hx:∀ x∈ix,NT x)(ho:ob.length<=1000)(ha:au.length=4)(hv:Ah au h=some v):Y E0 (.call 162 [.agg [.sl (.sl .u8) sd,.sl (.sl .u8) au,.sl .u8 en,.i ac,.i re,.i rs,.i ck,.b od,.sl (.sl (.sl .u8)) [],.i su,.i mc,.sl AB ix,.i l1,.i l2,.i l3,.i l4,.i l5,.i l6,.sl BP ks,.b st,.b sp,.sl (.sl (.sl .u8)) rb,.i ru,.i vc,.b sf,.i dr,.sl sesT ss,.sl objT ob,.sl .i64 rl,.sl .i64 wl],rq 9 [h] az is bs] [])=some (.ret (.b true) []):=by
 have hn:=mJ sd au en ac re rs ck od su mc ix l1 l2 l3 l4 l5 l6 ks st sp rb ru vc sf dr ss ob rl wl h v zaa hl hx ho ha hv
 have l0:=VI sd au en ac re rs ck od su mc ix l1 l2 l3 l4 l5 l6 ks st sp rb ru vc sf dr ss ob rl wl 9 [h] az is bs zan (fun x hx=>by simp at hx;subst hx;exact⟨_,hn⟩) 1 0 rfl
 have e2:Aw [h]=1:=zaQ
 rw[show((List.length [h]:Nat):Int)=1 from rfl,show((0:Nat):Int)=0 from rfl] at l0
 refine tq ?_
 simp only[e2,Nat.reduceAdd];rw[l0]
 conv=>lhs;whnf
 rw[e2]
 conv=>lhs;whnf
 rw[JK zaa]
 conv=>lhs;whnf
 rw[wI];conv=>lhs;whnf
 rw[Ep zaa]
 conv=>lhs;whnf
 (congr 3;simp only[Hq,JA,Io,JB,DJ,GZ,AC];first|rfl|(rw[decide_eq_decide];omega)|(simp;omega))
theorem vZ(h k a t:Int)(az:List (El AL))(o u d:List UInt8)(hl:ob.length<=1000)(hsd:sd.length<=1000)(hsl:∀ l∈sd,l.length<=1000)(ho:o.length<=50000)(hd:d.length<=50000)(e:Int)(is:List Int)(bs:List (List UInt8))(ob2:List (El objT))(hp:Ec sd ob h k a t o u d=(ob2,⟨e,is,bs⟩)):Y E0 (.call 165 [.agg [.sl (.sl .u8) sd,.sl (.sl .u8) au,.sl .u8 en,.i ac,.i re,.i rs,.i ck,.b od,.sl (.sl (.sl .u8)) [],.i su,.i mc,.sl AB ix,.i l1,.i l2,.i l3,.i l4,.i l5,.i l6,.sl BP ks,.b st,.b sp,.sl (.sl (.sl .u8)) rb,.i ru,.i vc,.b sf,.i dr,.sl sesT ss,.sl objT ob,.sl .i64 rl,.sl .i64 wl],rq 9 [h] az [k,a,t] [o,u,d]] [])=some (.ret (.tup [.agg [.sl (.sl .u8) sd,.sl (.sl .u8) au,.sl .u8 en,.i ac,.i re,.i rs,.i ck,.b od,.sl (.sl (.sl .u8)) [],.i su,.i mc,.sl AB ix,.i l1,.i l2,.i l3,.i l4,.i l5,.i l6,.sl BP ks,.b st,.b sp,.sl (.sl (.sl .u8)) rb,.i ru,.i vc,.b sf,.i dr,.sl sesT ss,.sl objT ob2,.sl .i64 rl,.sl .i64 wl],Jw e is bs []]) []):=by
 have hr:=A1F sd au en ac re rs ck od [] su mc ix l1 l2 l3 l4 l5 l6 ks st sp rb ru vc sf dr ss ob rl wl 9 h k a t [] az o u d hl hsd hsl zan ho hd
 rw[hp] at hr
 refine tq ?_
 rw[hr]
 exact tq rfl
theorem qp(h k a t:Int)(o u d:List UInt8)(hst:st=true)(hh:0<=h/\h<=2)(hl:ix.length<=10)(hx:∀ x∈ix,NT x)(hol:ob.length<=1000)(ha:au.length=4)(hv:Ah au h=some ([]:List UInt8))(hsd:sd.length<=1000)(hsl:∀ l∈sd,l.length<=1000)(ho:o.length<=50000)(hd:d.length<=50000)(is:List Int)(bs:List (List UInt8))(ob2:List (El objT))(hp:Ec sd ob h k a t o u d=(ob2,⟨0,is,bs⟩))(hq:rqG 9 3 [h] [(0,[],[])] [k,a,t] [o,u,d]):Y E0 (.call 131 [.agg [.sl (.sl .u8) sd,.sl (.sl .u8) au,.sl .u8 en,.i ac,.i re,.i rs,.i ck,.b od,.sl (.sl (.sl .u8)) [],.i su,.i mc,.sl AB ix,.i l1,.i l2,.i l3,.i l4,.i l5,.i l6,.sl BP ks,.b st,.b sp,.sl (.sl (.sl .u8)) rb,.i ru,.i vc,.b sf,.i dr,.sl sesT ss,.sl objT ob,.sl .i64 rl,.sl .i64 wl],.i 0,rq 9 [h] [(0,[],[])] [k,a,t] [o,u,d]] [])=some (.ret (.tup [.agg [.sl (.sl .u8) sd,.sl (.sl .u8) au,.sl .u8 en,.i ac,.i re,.i rs,.i ck,.b od,.sl (.sl (.sl .u8)) [],.i su,.i mc,.sl AB ix,.i l1,.i l2,.i l3,.i l4,.i l5,.i l6,.sl BP ks,.b st,.b sp,.sl (.sl (.sl .u8)) rb,.i ru,.i vc,.b sf,.i dr,.sl sesT ss,.sl objT ob2,.sl .i64 rl,.sl .i64 wl],Jw 0 is bs []]) []):=by
 have k1:=P9 hq
 have k2:=jL sd au en ac re rs ck od su mc ix l1 l2 l3 l4 l5 l6 ks st sp rb ru vc sf dr ss ob rl wl h [] [(0,[],[])] [k,a,t] [o,u,d] hh hl hx hol ha hv
 have k3:=A3O sd au en ac re rs ck od su mc ix l1 l2 l3 l4 l5 l6 ks st sp rb ru vc sf dr ss ob rl wl 9 h [] [] [] [] [k,a,t] [o,u,d] hh hl hx hol ha hv zaa zan
 have k4:=vZ sd au en ac re rs ck od su mc ix l1 l2 l3 l4 l5 l6 ks st sp rb ru vc sf dr ss ob rl wl h k a t [(0,[],[])] o u d hol hsd hsl ho hd 0 is bs ob2 hp
 have k5:=qg sd au en ac re rs ck od su mc ix l1 l2 l3 l4 l5 l6 ks st sp rb ru vc sf dr ss ob2 rl wl 9 [h] [] [] [] [k,a,t] [o,u,d]
 subst hst
 refine tq ?_
 rw[k1]
 refine tq ?_
 rw[k2]
 refine tq ?_
 rw[k3]
 refine tq ?_
 rw[k4]
 conv=>lhs;whnf
 rw[AU]
 conv=>lhs;whnf
 rw[Jh zaa]
 conv=>lhs;whnf
 try dsimp -iota -beta -eta -zeta only
 rw[Aj]
 rw[k5]
 exact tq rfl
end
section
attribute [local irreducible] Bl CS CU CJ Bh Ak CV Du EN E5 EH Be BN CE Bz and' CG CO BC Ag Ar BF BG AY Aa AP AX CW Dv CX DT C9 BJ BD BA BB Au AQ Az Ac Aw Ah CY BL Bi BR BI CB CZ CP fits Cb CQ A8 AA AZ
theorem aC(hf:0<=f/\f<=5):Y E0 (.call 335 [.agg [.i f,.i 5,.i 100,.i 0,.i 0,.i 1000],.i 0] [])=some (.ret (.agg [.i f,.i 5,.i 100,.i 0,.i 0,.i 1000]) []):=by
 refine tq ?_
 rcases I7 f 0 with hc0|hc0
 ·
  subst hc0
  rw[Ep zaa]
  conv=>lhs;whnf
 rw[JK zaa]
 conv=>lhs;whnf
 refine tq ?_
 rw[EI (a:=0) (b:=0) zaa]
 refine tq ?_
 (rw[show min f ((0-0)/100)=0 from by omega];simp)
theorem X8(hf:0<=f/\f<5):Y E0 (.call 294 [.agg [.i f,.i 5,.i 100,.i 0,.i 0,.i 1000],.i 0] [])=some (.ret (.b false) []):=by
 refine tq ?_
 rw[aC _ Am]
 conv=>lhs;whnf
 try dsimp -iota -beta -eta -zeta only
 rw[drw zai];conv=>lhs;whnf
 (congr 3;simp only[Hq,JA,Io,JB,DJ,GZ,AC];first|rfl|(rw[decide_eq_decide];omega)|(simp;omega))
theorem A1V:Y E0 (.call 294 [.agg [.i 5,.i 5,.i 100,.i 0,.i 0,.i 1000],.i 0] [])=some (.ret (.b true) []):=by
 refine tq ?_
 rw[aC _ Am]
 conv=>lhs;whnf
 try dsimp -iota -beta -eta -zeta only
 rw[drw zai];conv=>lhs;whnf
 (congr 3;simp only[Hq,JA,Io,JB,DJ,GZ,AC];first|rfl|(rw[decide_eq_decide];omega)|(simp;omega))
theorem jO(hf:0<=f/\f<5):Y E0 (.call 296 [.agg [.i f,.i 5,.i 100,.i 0,.i 0,.i 1000],.i 0] [])=some (.ret (.agg [.i (f+1),.i 5,.i 100,.i 0,.i 0,.i 1000]) []):=by
 have hm:min (f+1) 5=f+1:=zaa
 refine tq ?_
 rw[aC _ Am]
 refine tq ?_
 rw[hm]
theorem Yo(h:Int)(p1 p2 p3:Int)(p4 p5 s1 s2 s3:List UInt8)(hr:Int)(hh:512<=h/\h<=515)(hix:ix=[])(hol:ob.length<=1000)(hx:EX ob h=some ((p1,p2,p3,p4,p5),(s1,s2,s3),hr))(h4:p4.length<=1000)(h5:p5.length<=1000):Y E0 (.call 237 [.agg [.sl (.sl .u8) sd,.sl (.sl .u8) au,.sl .u8 en,.i ac,.i re,.i rs,.i ck,.b od,.sl (.sl (.sl .u8)) [],.i su,.i mc,.sl AB ix,.i l1,.i l2,.i l3,.i l4,.i l5,.i l6,.sl BP ks,.b st,.b sp,.sl (.sl (.sl .u8)) rb,.i ru,.i vc,.b sf,.i dr,.sl sesT ss,.sl objT ob,.sl .i64 rl,.sl .i64 wl],.i h] [])=some (.ret (.tup [.sl .u8 s1,.i 0]) []):=by
 have k:=OA sd au en ac re rs ck od su mc ix l1 l2 l3 l4 l5 l6 ks st sp rb ru vc sf dr ss ob rl wl h p1 p2 p3 p4 p5 s1 s2 s3 hr hh hix hol hx h4 h5
 refine tq ?_
 rw[k]
 exact tq rfl
theorem X9(h:Int)(p1 p2 p3:Int)(p4 p5 s1 s2 s3:List UInt8)(hr:Int)(hh:512<=h/\h<=515)(hix:ix=[])(hol:ob.length<=1000)(hx:EX ob h=some ((p1,p2,p3,p4,p5),(s1,s2,s3),hr))(h4:p4.length<=1000)(h5:p5.length<=1000):Y E0 (.call 293 [.agg [.sl (.sl .u8) sd,.sl (.sl .u8) au,.sl .u8 en,.i ac,.i re,.i rs,.i ck,.b od,.sl (.sl (.sl .u8)) [],.i su,.i mc,.sl AB ix,.i l1,.i l2,.i l3,.i l4,.i l5,.i l6,.sl BP ks,.b st,.b sp,.sl (.sl (.sl .u8)) rb,.i ru,.i vc,.b sf,.i dr,.sl sesT ss,.sl objT ob,.sl .i64 rl,.sl .i64 wl],.i h] [])=some (.ret (.b (Du (Ak .and p2 2) 0)) []):=by
 have k:=OA sd au en ac re rs ck od su mc ix l1 l2 l3 l4 l5 l6 ks st sp rb ru vc sf dr ss ob rl wl h p1 p2 p3 p4 p5 s1 s2 s3 hr hh hix hol hx h4 h5
 refine tq ?_
 rw[k]
 exact tq rfl
theorem Qh(se:Int)(nn v:List UInt8)(h:Int)(p1 p2 p3:Int)(p4 p5 s1 s2 s3:List UInt8)(hr:Int)(hh:512<=h/\h<=515)(hix:ix=[])(hol:ob.length<=1000)(hx:EX ob h=some ((p1,p2,p3,p4,p5),(s1,s2,s3),hr))(ha:Ak .and p2 1=1):Y E0 (.call 235 [.agg [.sl (.sl .u8) sd,.sl (.sl .u8) au,.sl .u8 en,.i ac,.i re,.i rs,.i ck,.b od,.sl (.sl (.sl .u8)) [],.i su,.i mc,.sl AB ix,.i l1,.i l2,.i l3,.i l4,.i l5,.i l6,.sl BP ks,.b st,.b sp,.sl (.sl (.sl .u8)) rb,.i ru,.i vc,.b sf,.i dr,.sl sesT ss,.sl objT ob,.sl .i64 rl,.sl .i64 wl,.i c,.sl .i64 hs,.sl AL az,.sl .i64 qi,.sl (.sl .u8) qb,.i se,.sl .u8 nn,.sl .u8 v,.i h]] [])=some (.ret (.b false) []):=by
 have k1:=Yn sd au en ac re rs ck od su mc ix l1 l2 l3 l4 l5 l6 ks st sp rb ru vc sf dr ss ob rl wl c hs az qi qb se nn v h h hix
 have k2:=Pv sd au en ac re rs ck od [] su mc ix l1 l2 l3 l4 l5 l6 ks st sp rb ru vc sf dr ss ob rl wl h p1 p2 p3 p4 p5 s1 s2 s3 hr hol hx
 refine tq ?_
 rw[k2]
 refine tq ?_
 rw[k1]
 conv=>lhs;whnf
 rw[Ep zaa]
 conv=>lhs;whnf
 (congr 3;simp only[Hq,JA,Io,JB,DJ,GZ,AC];first|rfl|(rw[decide_eq_decide];omega)|(simp;omega))
theorem Qi(se:Int)(nn v:List UInt8)(h:Int)(p1 p2 p3:Int)(p4 p5 s1 s2 s3:List UInt8)(hr:Int)(b:Bool)(hh:512<=h/\h<=515)(hix:ix=[])(hol:ob.length<=1000)(hx:EX ob h=some ((p1,p2,p3,p4,p5),(s1,s2,s3),hr))(h4:p4.length<=1000)(h5:p5.length<=1000)(hp:Ak .and p2 2=0)(hk:Y E0 (.call 294 [.agg [.i l1,.i l2,.i l3,.i l4,.i l5,.i l6],.i vc] [])=some (.ret (.b b) [])):Y E0 (.call 236 [.agg [.sl (.sl .u8) sd,.sl (.sl .u8) au,.sl .u8 en,.i ac,.i re,.i rs,.i ck,.b od,.sl (.sl (.sl .u8)) [],.i su,.i mc,.sl AB ix,.i l1,.i l2,.i l3,.i l4,.i l5,.i l6,.sl BP ks,.b st,.b sp,.sl (.sl (.sl .u8)) rb,.i ru,.i vc,.b sf,.i dr,.sl sesT ss,.sl objT ob,.sl .i64 rl,.sl .i64 wl,.i c,.sl .i64 hs,.sl AL az,.sl .i64 qi,.sl (.sl .u8) qb,.i se,.sl .u8 nn,.sl .u8 v,.i h]] [])=some (.ret (.b b) []):=by
 have k:=X9 sd au en ac re rs ck od su mc ix l1 l2 l3 l4 l5 l6 ks st sp rb ru vc sf dr ss ob rl wl h p1 p2 p3 p4 p5 s1 s2 s3 hr hh hix hol hx h4 h5
 rw[Ep hp] at k
 refine tq ?_
 rw[k]
 refine tq ?_
 rw[Yj ..]
 refine tq ?_
 rw[hk]
 exact tq rfl
theorem mi(se:Int)(nn v:List UInt8)(h:Int)(x y:List UInt8)(f1:Int)(p1 p2 p3:Int)(p4 p5 s1 s2 s3:List UInt8)(hr:Int)(hh:512<=h/\h<=515)(hix:ix=[])(hol:ob.length<=1000)(hx:EX ob h=some ((p1,p2,p3,p4,p5),(s1,s2,s3),hr))(h4:p4.length<=1000)(h5:p5.length<=1000)(hp:Ak .and p2 2=0)(hxl:x.length<=100000)(hxy:x≠y)(hF:Y E0 (.call 296 [.agg [.i l1,.i l2,.i l3,.i l4,.i l5,.i l6],.i vc] [])=some (.ret (.agg [.i f1,.i l2,.i l3,.i l4,.i l5,.i l6]) [])):Y E0 (.call 238 [.agg [.sl (.sl .u8) sd,.sl (.sl .u8) au,.sl .u8 en,.i ac,.i re,.i rs,.i ck,.b od,.sl (.sl (.sl .u8)) [],.i su,.i mc,.sl AB ix,.i l1,.i l2,.i l3,.i l4,.i l5,.i l6,.sl BP ks,.b st,.b sp,.sl (.sl (.sl .u8)) rb,.i ru,.i vc,.b sf,.i dr,.sl sesT ss,.sl objT ob,.sl .i64 rl,.sl .i64 wl,.i c,.sl .i64 hs,.sl AL az,.sl .i64 qi,.sl (.sl .u8) qb,.i se,.sl .u8 nn,.sl .u8 v,.i h],.sl .u8 x,.sl .u8 y] [])=some (.ret (.tup [.agg [.sl (.sl .u8) sd,.sl (.sl .u8) au,.sl .u8 en,.i ac,.i re,.i rs,.i ck,.b od,.sl (.sl (.sl .u8)) [],.i su,.i mc,.sl AB ix,.i f1,.i l2,.i l3,.i l4,.i l5,.i l6,.sl BP ks,.b st,.b sp,.sl (.sl (.sl .u8)) rb,.i ru,.i vc,.b sf,.i dr,.sl sesT ss,.sl objT ob,.sl .i64 rl,.sl .i64 wl],.i 9]) []):=by
 have he:=fG x y zaa
 rw[decide_eq_false hxy] at he
 have k:=X9 sd au en ac re rs ck od su mc ix l1 l2 l3 l4 l5 l6 ks st sp rb ru vc sf dr ss ob rl wl h p1 p2 p3 p4 p5 s1 s2 s3 hr hh hix hol hx h4 h5
 rw[Ep hp] at k
 refine tq ?_
 rw[he]
 refine tq ?_
 rw[k]
 refine tq ?_
 rw[Yj ..]
 refine tq ?_
 rw[hF]
 exact tq rfl
theorem vg(se:Int)(nn v:List UInt8)(h:Int)(p1 p2 p3:Int)(p4 p5 s2 s3:List UInt8)(hr:Int)(hh:512<=h/\h<=515)(hix:ix=[])(hol:ob.length<=1000)(hx:EX ob h=some ((p1,p2,p3,p4,p5),(v,s2,s3),hr))(h4:p4.length<=1000)(h5:p5.length<=1000)(ha:Ak .and p2 1=1)(hp:Ak .and p2 2=0)(hk:Y E0 (.call 294 [.agg [.i l1,.i l2,.i l3,.i l4,.i l5,.i l6],.i vc] [])=some (.ret (.b false) []))(hvl:v.length<=1000):Y E0 (.call 194 [.agg [.sl (.sl .u8) sd,.sl (.sl .u8) au,.sl .u8 en,.i ac,.i re,.i rs,.i ck,.b od,.sl (.sl (.sl .u8)) [],.i su,.i mc,.sl AB ix,.i l1,.i l2,.i l3,.i l4,.i l5,.i l6,.sl BP ks,.b st,.b sp,.sl (.sl (.sl .u8)) rb,.i ru,.i vc,.b sf,.i dr,.sl sesT ss,.sl objT ob,.sl .i64 rl,.sl .i64 wl,.i c,.sl .i64 hs,.sl AL az,.sl .i64 qi,.sl (.sl .u8) qb,.i se,.sl .u8 nn,.sl .u8 v,.i h],pg 0 [] [] 0 0 0 0 false] [])=some (.ret (.tup [.agg [.sl (.sl .u8) sd,.sl (.sl .u8) au,.sl .u8 en,.i ac,.i re,.i rs,.i ck,.b od,.sl (.sl (.sl .u8)) [],.i su,.i mc,.sl AB ix,.i l1,.i l2,.i l3,.i l4,.i l5,.i l6,.sl BP ks,.b st,.b sp,.sl (.sl (.sl .u8)) rb,.i ru,.i vc,.b sf,.i dr,.sl sesT ss,.sl objT ob,.sl .i64 rl,.sl .i64 wl],.i 0]) []):=by
 have k1:=Qh sd au en ac re rs ck od su mc ix l1 l2 l3 l4 l5 l6 ks st sp rb ru vc sf dr ss ob rl wl c hs az qi qb se nn v h p1 p2 p3 p4 p5 v s2 s3 hr hh hix hol hx ha
 have k2:=Qi sd au en ac re rs ck od su mc ix l1 l2 l3 l4 l5 l6 ks st sp rb ru vc sf dr ss ob rl wl c hs az qi qb se nn v h p1 p2 p3 p4 p5 v s2 s3 hr false hh hix hol hx h4 h5 hp hk
 have k3:=Yo sd au en ac re rs ck od su mc ix l1 l2 l3 l4 l5 l6 ks st sp rb ru vc sf dr ss ob rl wl h p1 p2 p3 p4 p5 v s2 s3 hr hh hix hol hx h4 h5
 have k4:=Yk sd au en ac re rs ck od su mc ix l1 l2 l3 l4 l5 l6 ks st sp rb ru vc sf dr ss ob rl wl c hs az qi qb se nn v h v zaa
 refine tq ?_
 rw[k1]
 refine tq ?_
 rw[k2]
 refine tq ?_
 rw[k3]
 refine tq ?_
 rw[k4]
 exact tq rfl
theorem mr(se:Int)(nn v:List UInt8)(h:Int)(p1 p2 p3:Int)(p4 p5 s1 s2 s3:List UInt8)(hr:Int)(hh:512<=h/\h<=515)(hix:ix=[])(hol:ob.length<=1000)(hx:EX ob h=some ((p1,p2,p3,p4,p5),(s1,s2,s3),hr))(h4:p4.length<=1000)(h5:p5.length<=1000)(ha:Ak .and p2 1=1)(hp:Ak .and p2 2=0)(hk:Y E0 (.call 294 [.agg [.i l1,.i l2,.i l3,.i l4,.i l5,.i l6],.i vc] [])=some (.ret (.b true) [])):Y E0 (.call 194 [.agg [.sl (.sl .u8) sd,.sl (.sl .u8) au,.sl .u8 en,.i ac,.i re,.i rs,.i ck,.b od,.sl (.sl (.sl .u8)) [],.i su,.i mc,.sl AB ix,.i l1,.i l2,.i l3,.i l4,.i l5,.i l6,.sl BP ks,.b st,.b sp,.sl (.sl (.sl .u8)) rb,.i ru,.i vc,.b sf,.i dr,.sl sesT ss,.sl objT ob,.sl .i64 rl,.sl .i64 wl,.i c,.sl .i64 hs,.sl AL az,.sl .i64 qi,.sl (.sl .u8) qb,.i se,.sl .u8 nn,.sl .u8 v,.i h],pg 0 [] [] 0 0 0 0 false] [])=some (.ret (.tup [.agg [.sl (.sl .u8) sd,.sl (.sl .u8) au,.sl .u8 en,.i ac,.i re,.i rs,.i ck,.b od,.sl (.sl (.sl .u8)) [],.i su,.i mc,.sl AB ix,.i l1,.i l2,.i l3,.i l4,.i l5,.i l6,.sl BP ks,.b st,.b sp,.sl (.sl (.sl .u8)) rb,.i ru,.i vc,.b sf,.i dr,.sl sesT ss,.sl objT ob,.sl .i64 rl,.sl .i64 wl],.i 10]) []):=by
 have k1:=Qh sd au en ac re rs ck od su mc ix l1 l2 l3 l4 l5 l6 ks st sp rb ru vc sf dr ss ob rl wl c hs az qi qb se nn v h p1 p2 p3 p4 p5 s1 s2 s3 hr hh hix hol hx ha
 have k2:=Qi sd au en ac re rs ck od su mc ix l1 l2 l3 l4 l5 l6 ks st sp rb ru vc sf dr ss ob rl wl c hs az qi qb se nn v h p1 p2 p3 p4 p5 s1 s2 s3 hr true hh hix hol hx h4 h5 hp hk
 refine tq ?_
 rw[k1]
 refine tq ?_
 rw[k2]
 exact tq rfl
theorem nC(se:Int)(nn v:List UInt8)(h f1:Int)(p1 p2 p3:Int)(p4 p5 s1 s2 s3:List UInt8)(hr:Int)(hh:512<=h/\h<=515)(hix:ix=[])(hol:ob.length<=1000)(hx:EX ob h=some ((p1,p2,p3,p4,p5),(s1,s2,s3),hr))(h4:p4.length<=1000)(h5:p5.length<=1000)(ha:Ak .and p2 1=1)(hp:Ak .and p2 2=0)(hk:Y E0 (.call 294 [.agg [.i l1,.i l2,.i l3,.i l4,.i l5,.i l6],.i vc] [])=some (.ret (.b false) []))(hF:Y E0 (.call 296 [.agg [.i l1,.i l2,.i l3,.i l4,.i l5,.i l6],.i vc] [])=some (.ret (.agg [.i f1,.i l2,.i l3,.i l4,.i l5,.i l6]) []))(hvl:v.length<=1000)(hvx:v≠s1):Y E0 (.call 194 [.agg [.sl (.sl .u8) sd,.sl (.sl .u8) au,.sl .u8 en,.i ac,.i re,.i rs,.i ck,.b od,.sl (.sl (.sl .u8)) [],.i su,.i mc,.sl AB ix,.i l1,.i l2,.i l3,.i l4,.i l5,.i l6,.sl BP ks,.b st,.b sp,.sl (.sl (.sl .u8)) rb,.i ru,.i vc,.b sf,.i dr,.sl sesT ss,.sl objT ob,.sl .i64 rl,.sl .i64 wl,.i c,.sl .i64 hs,.sl AL az,.sl .i64 qi,.sl (.sl .u8) qb,.i se,.sl .u8 nn,.sl .u8 v,.i h],pg 0 [] [] 0 0 0 0 false] [])=some (.ret (.tup [.agg [.sl (.sl .u8) sd,.sl (.sl .u8) au,.sl .u8 en,.i ac,.i re,.i rs,.i ck,.b od,.sl (.sl (.sl .u8)) [],.i su,.i mc,.sl AB ix,.i f1,.i l2,.i l3,.i l4,.i l5,.i l6,.sl BP ks,.b st,.b sp,.sl (.sl (.sl .u8)) rb,.i ru,.i vc,.b sf,.i dr,.sl sesT ss,.sl objT ob,.sl .i64 rl,.sl .i64 wl],.i 9]) []):=by
 have k1:=Qh sd au en ac re rs ck od su mc ix l1 l2 l3 l4 l5 l6 ks st sp rb ru vc sf dr ss ob rl wl c hs az qi qb se nn v h p1 p2 p3 p4 p5 s1 s2 s3 hr hh hix hol hx ha
 have k2:=Qi sd au en ac re rs ck od su mc ix l1 l2 l3 l4 l5 l6 ks st sp rb ru vc sf dr ss ob rl wl c hs az qi qb se nn v h p1 p2 p3 p4 p5 s1 s2 s3 hr false hh hix hol hx h4 h5 hp hk
 have k3:=Yo sd au en ac re rs ck od su mc ix l1 l2 l3 l4 l5 l6 ks st sp rb ru vc sf dr ss ob rl wl h p1 p2 p3 p4 p5 s1 s2 s3 hr hh hix hol hx h4 h5
 have k4:=mi sd au en ac re rs ck od su mc ix l1 l2 l3 l4 l5 l6 ks st sp rb ru vc sf dr ss ob rl wl c hs az qi qb se nn v h v s1 f1 p1 p2 p3 p4 p5 s1 s2 s3 hr hh hix hol hx h4 h5 hp zaa hvx hF
 refine tq ?_
 rw[k1]
 refine tq ?_
 rw[k2]
 refine tq ?_
 rw[k3]
 refine tq ?_
 rw[k4]
 exact tq rfl
theorem vk(h:Int)(hs:List Int)(nn v:List UInt8)(az:List (El AL))(qi:List Int)(qb:List (List UInt8))(p1 p2 p3:Int)(p4 p5 s2 s3:List UInt8)(hr:Int)(hh:512<=h/\h<=515)(hix:ix=[])(hol:ob.length<=1000)(hx:EX ob h=some ((p1,p2,p3,p4,p5),(v,s2,s3),hr))(h4:p4.length<=1000)(h5:p5.length<=1000)(ha:Ak .and p2 1=1)(hp:Ak .and p2 2=0)(hk:Y E0 (.call 294 [.agg [.i l1,.i l2,.i l3,.i l4,.i l5,.i l6],.i vc] [])=some (.ret (.b false) []))(hvl:v.length<=1000):Y E0 (.call 164 [.agg [.sl (.sl .u8) sd,.sl (.sl .u8) au,.sl .u8 en,.i ac,.i re,.i rs,.i ck,.b od,.sl (.sl (.sl .u8)) [],.i su,.i mc,.sl AB ix,.i l1,.i l2,.i l3,.i l4,.i l5,.i l6,.sl BP ks,.b st,.b sp,.sl (.sl (.sl .u8)) rb,.i ru,.i vc,.b sf,.i dr,.sl sesT ss,.sl objT ob,.sl .i64 rl,.sl .i64 wl],.i 0,rq c (h::hs) ((0,nn,v)::az) qi qb] [])=some (.ret (.tup [.agg [.sl (.sl .u8) sd,.sl (.sl .u8) au,.sl .u8 en,.i ac,.i re,.i rs,.i ck,.b od,.sl (.sl (.sl .u8)) [],.i su,.i mc,.sl AB ix,.i l1,.i l2,.i l3,.i l4,.i l5,.i l6,.sl BP ks,.b st,.b sp,.sl (.sl (.sl .u8)) rb,.i ru,.i vc,.b sf,.i dr,.sl sesT ss,.sl objT ob,.sl .i64 rl,.sl .i64 wl],.i 0]) []):=by
 have k:=vg sd au en ac re rs ck od su mc ix l1 l2 l3 l4 l5 l6 ks st sp rb ru vc sf dr ss ob rl wl c (h::hs) ((0,nn,v)::az) qi qb 0 nn v h p1 p2 p3 p4 p5 s2 s3 hr hh hix hol hx h4 h5 ha hp hk hvl
 refine tq ?_
 rw[k]
 exact tq rfl
theorem nD(h:Int)(hs:List Int)(nn v:List UInt8)(az:List (El AL))(qi:List Int)(qb:List (List UInt8))(p1 p2 p3:Int)(p4 p5 s1 s2 s3:List UInt8)(hr:Int)(hh:512<=h/\h<=515)(hix:ix=[])(hol:ob.length<=1000)(hx:EX ob h=some ((p1,p2,p3,p4,p5),(s1,s2,s3),hr))(h4:p4.length<=1000)(h5:p5.length<=1000)(ha:Ak .and p2 1=1)(hp:Ak .and p2 2=0)(hk:Y E0 (.call 294 [.agg [.i l1,.i l2,.i l3,.i l4,.i l5,.i l6],.i vc] [])=some (.ret (.b true) [])):Y E0 (.call 164 [.agg [.sl (.sl .u8) sd,.sl (.sl .u8) au,.sl .u8 en,.i ac,.i re,.i rs,.i ck,.b od,.sl (.sl (.sl .u8)) [],.i su,.i mc,.sl AB ix,.i l1,.i l2,.i l3,.i l4,.i l5,.i l6,.sl BP ks,.b st,.b sp,.sl (.sl (.sl .u8)) rb,.i ru,.i vc,.b sf,.i dr,.sl sesT ss,.sl objT ob,.sl .i64 rl,.sl .i64 wl],.i 0,rq c (h::hs) ((0,nn,v)::az) qi qb] [])=some (.ret (.tup [.agg [.sl (.sl .u8) sd,.sl (.sl .u8) au,.sl .u8 en,.i ac,.i re,.i rs,.i ck,.b od,.sl (.sl (.sl .u8)) [],.i su,.i mc,.sl AB ix,.i l1,.i l2,.i l3,.i l4,.i l5,.i l6,.sl BP ks,.b st,.b sp,.sl (.sl (.sl .u8)) rb,.i ru,.i vc,.b sf,.i dr,.sl sesT ss,.sl objT ob,.sl .i64 rl,.sl .i64 wl],.i 10]) []):=by
 have k:=mr sd au en ac re rs ck od su mc ix l1 l2 l3 l4 l5 l6 ks st sp rb ru vc sf dr ss ob rl wl c (h::hs) ((0,nn,v)::az) qi qb 0 nn v h p1 p2 p3 p4 p5 s1 s2 s3 hr hh hix hol hx h4 h5 ha hp hk
 refine tq ?_
 rw[k]
 exact tq rfl
theorem nG(h f1:Int)(hs:List Int)(nn v:List UInt8)(az:List (El AL))(qi:List Int)(qb:List (List UInt8))(p1 p2 p3:Int)(p4 p5 s1 s2 s3:List UInt8)(hr:Int)(hh:512<=h/\h<=515)(hix:ix=[])(hol:ob.length<=1000)(hx:EX ob h=some ((p1,p2,p3,p4,p5),(s1,s2,s3),hr))(h4:p4.length<=1000)(h5:p5.length<=1000)(ha:Ak .and p2 1=1)(hp:Ak .and p2 2=0)(hk:Y E0 (.call 294 [.agg [.i l1,.i l2,.i l3,.i l4,.i l5,.i l6],.i vc] [])=some (.ret (.b false) []))(hF:Y E0 (.call 296 [.agg [.i l1,.i l2,.i l3,.i l4,.i l5,.i l6],.i vc] [])=some (.ret (.agg [.i f1,.i l2,.i l3,.i l4,.i l5,.i l6]) []))(hvl:v.length<=1000)(hvx:v≠s1):Y E0 (.call 164 [.agg [.sl (.sl .u8) sd,.sl (.sl .u8) au,.sl .u8 en,.i ac,.i re,.i rs,.i ck,.b od,.sl (.sl (.sl .u8)) [],.i su,.i mc,.sl AB ix,.i l1,.i l2,.i l3,.i l4,.i l5,.i l6,.sl BP ks,.b st,.b sp,.sl (.sl (.sl .u8)) rb,.i ru,.i vc,.b sf,.i dr,.sl sesT ss,.sl objT ob,.sl .i64 rl,.sl .i64 wl],.i 0,rq c (h::hs) ((0,nn,v)::az) qi qb] [])=some (.ret (.tup [.agg [.sl (.sl .u8) sd,.sl (.sl .u8) au,.sl .u8 en,.i ac,.i re,.i rs,.i ck,.b od,.sl (.sl (.sl .u8)) [],.i su,.i mc,.sl AB ix,.i f1,.i l2,.i l3,.i l4,.i l5,.i l6,.sl BP ks,.b st,.b sp,.sl (.sl (.sl .u8)) rb,.i ru,.i vc,.b sf,.i dr,.sl sesT ss,.sl objT ob,.sl .i64 rl,.sl .i64 wl],.i 9]) []):=by
 have k:=nC sd au en ac re rs ck od su mc ix l1 l2 l3 l4 l5 l6 ks st sp rb ru vc sf dr ss ob rl wl c (h::hs) ((0,nn,v)::az) qi qb 0 nn v h f1 p1 p2 p3 p4 p5 s1 s2 s3 hr hh hix hol hx h4 h5 ha hp hk hF hvl hvx
 refine tq ?_
 rw[k]
 exact tq rfl
theorem A1W(h:Int)(v:List UInt8)(p1 p2 p3:Int)(p4 p5 s2 s3:List UInt8)(hr:Int)(hst:st=true)(hh:512<=h/\h<=515)(hix:ix=[])(hol:ob.length<=1000)(hx:EX ob h=some ((p1,p2,p3,p4,p5),(v,s2,s3),hr))(h4:p4.length<=1000)(h5:p5.length<=1000)(h3:p1=3)(ha:Ak .and p2 1=1)(hp:Ak .and p2 2=0)(hk:Y E0 (.call 294 [.agg [.i l1,.i l2,.i l3,.i l4,.i l5,.i l6],.i vc] [])=some (.ret (.b false) []))(hvl:v.length<=1000)(hq:rqG 13 0 [h] [(0,[],v)] [] []):Y E0 (.call 131 [.agg [.sl (.sl .u8) sd,.sl (.sl .u8) au,.sl .u8 en,.i ac,.i re,.i rs,.i ck,.b od,.sl (.sl (.sl .u8)) [],.i su,.i mc,.sl AB ix,.i l1,.i l2,.i l3,.i l4,.i l5,.i l6,.sl BP ks,.b st,.b sp,.sl (.sl (.sl .u8)) rb,.i ru,.i vc,.b sf,.i dr,.sl sesT ss,.sl objT ob,.sl .i64 rl,.sl .i64 wl],.i 0,rq 13 [h] [(0,[],v)] [] []] [])=some (.ret (.tup [.agg [.sl (.sl .u8) sd,.sl (.sl .u8) au,.sl .u8 en,.i ac,.i re,.i rs,.i ck,.b od,.sl (.sl (.sl .u8)) [],.i su,.i mc,.sl AB ix,.i l1,.i l2,.i l3,.i l4,.i l5,.i l6,.sl BP ks,.b st,.b sp,.sl (.sl (.sl .u8)) rb,.i ru,.i vc,.b sf,.i dr,.sl sesT ss,.sl objT ob,.sl .i64 rl,.sl .i64 wl],Jw 0 [] [s3] []]) []):=by
 have k1:=P9 hq
 have k2:=Ky sd au en ac re rs ck od su mc ix l1 l2 l3 l4 l5 l6 ks st sp rb ru vc sf dr ss ob rl wl h [(0,[],v)] [] [] p1 p2 p3 p4 p5 v s2 s3 hr hh hix hol hx h4 h5
 have k3:=vk sd au en ac re rs ck od su mc ix l1 l2 l3 l4 l5 l6 ks st sp rb ru vc sf dr ss ob rl wl 13 h [] [] v [] [] [] p1 p2 p3 p4 p5 s2 s3 hr hh hix hol hx h4 h5 ha hp hk hvl
 have k4:=X7 sd au en ac re rs ck od su mc ix l1 l2 l3 l4 l5 l6 ks st sp rb ru vc sf dr ss ob rl wl h [(0,[],v)] [] [] p1 p2 p3 p4 p5 v s2 s3 hr hol hx h3
 have k5:=qg sd au en ac re rs ck od su mc ix l1 l2 l3 l4 l5 l6 ks st sp rb ru vc sf dr ss ob rl wl 13 [h] [] v [] [] []
 subst hst
 refine tq ?_
 rw[k1]
 refine tq ?_
 rw[k2]
 refine tq ?_
 rw[k3]
 refine tq ?_
 rw[k4]
 conv=>lhs;whnf
 rw[AU]
 conv=>lhs;whnf
 rw[Jh zaa]
 conv=>lhs;whnf
 try dsimp -iota -beta -eta -zeta only
 rw[Aj]
 rw[k5]
 exact tq rfl
theorem A1X(h:Int)(v:List UInt8)(p1 p2 p3:Int)(p4 p5 s1 s2 s3:List UInt8)(hr:Int)(hst:st=true)(hh:512<=h/\h<=515)(hix:ix=[])(hol:ob.length<=1000)(hx:EX ob h=some ((p1,p2,p3,p4,p5),(s1,s2,s3),hr))(h4:p4.length<=1000)(h5:p5.length<=1000)(ha:Ak .and p2 1=1)(hp:Ak .and p2 2=0)(hk:Y E0 (.call 294 [.agg [.i l1,.i l2,.i l3,.i l4,.i l5,.i l6],.i vc] [])=some (.ret (.b true) []))(hq:rqG 13 0 [h] [(0,[],v)] [] []):Y E0 (.call 131 [.agg [.sl (.sl .u8) sd,.sl (.sl .u8) au,.sl .u8 en,.i ac,.i re,.i rs,.i ck,.b od,.sl (.sl (.sl .u8)) [],.i su,.i mc,.sl AB ix,.i l1,.i l2,.i l3,.i l4,.i l5,.i l6,.sl BP ks,.b st,.b sp,.sl (.sl (.sl .u8)) rb,.i ru,.i vc,.b sf,.i dr,.sl sesT ss,.sl objT ob,.sl .i64 rl,.sl .i64 wl],.i 0,rq 13 [h] [(0,[],v)] [] []] [])=some (.ret (.tup [.agg [.sl (.sl .u8) sd,.sl (.sl .u8) au,.sl .u8 en,.i ac,.i re,.i rs,.i ck,.b od,.sl (.sl (.sl .u8)) [],.i su,.i mc,.sl AB ix,.i l1,.i l2,.i l3,.i l4,.i l5,.i l6,.sl BP ks,.b st,.b sp,.sl (.sl (.sl .u8)) rb,.i ru,.i vc,.b sf,.i dr,.sl sesT ss,.sl objT ob,.sl .i64 rl,.sl .i64 wl],Jw 10 [] [] []]) []):=by
 have k1:=P9 hq
 have k2:=Ky sd au en ac re rs ck od su mc ix l1 l2 l3 l4 l5 l6 ks st sp rb ru vc sf dr ss ob rl wl h [(0,[],v)] [] [] p1 p2 p3 p4 p5 s1 s2 s3 hr hh hix hol hx h4 h5
 have k3:=nD sd au en ac re rs ck od su mc ix l1 l2 l3 l4 l5 l6 ks st sp rb ru vc sf dr ss ob rl wl 13 h [] [] v [] [] [] p1 p2 p3 p4 p5 s1 s2 s3 hr hh hix hol hx h4 h5 ha hp hk
 have k4:=ig sd au en ac re rs ck od su mc ix l1 l2 l3 l4 l5 l6 ks st sp rb ru vc sf dr ss ob rl wl 10
 subst hst
 refine tq ?_
 rw[k1]
 refine tq ?_
 rw[k2]
 refine tq ?_
 rw[k3]
 refine tq ?_
 rw[k4]
 exact tq rfl
theorem jP(h f1:Int)(v:List UInt8)(p1 p2 p3:Int)(p4 p5 s1 s2 s3:List UInt8)(hr:Int)(hst:st=true)(hh:512<=h/\h<=515)(hix:ix=[])(hol:ob.length<=1000)(hx:EX ob h=some ((p1,p2,p3,p4,p5),(s1,s2,s3),hr))(h4:p4.length<=1000)(h5:p5.length<=1000)(ha:Ak .and p2 1=1)(hp:Ak .and p2 2=0)(hk:Y E0 (.call 294 [.agg [.i l1,.i l2,.i l3,.i l4,.i l5,.i l6],.i vc] [])=some (.ret (.b false) []))(hF:Y E0 (.call 296 [.agg [.i l1,.i l2,.i l3,.i l4,.i l5,.i l6],.i vc] [])=some (.ret (.agg [.i f1,.i l2,.i l3,.i l4,.i l5,.i l6]) []))(hvl:v.length<=1000)(hvx:v≠s1)(hq:rqG 13 0 [h] [(0,[],v)] [] []):Y E0 (.call 131 [.agg [.sl (.sl .u8) sd,.sl (.sl .u8) au,.sl .u8 en,.i ac,.i re,.i rs,.i ck,.b od,.sl (.sl (.sl .u8)) [],.i su,.i mc,.sl AB ix,.i l1,.i l2,.i l3,.i l4,.i l5,.i l6,.sl BP ks,.b st,.b sp,.sl (.sl (.sl .u8)) rb,.i ru,.i vc,.b sf,.i dr,.sl sesT ss,.sl objT ob,.sl .i64 rl,.sl .i64 wl],.i 0,rq 13 [h] [(0,[],v)] [] []] [])=some (.ret (.tup [.agg [.sl (.sl .u8) sd,.sl (.sl .u8) au,.sl .u8 en,.i ac,.i re,.i rs,.i ck,.b od,.sl (.sl (.sl .u8)) [],.i su,.i mc,.sl AB ix,.i f1,.i l2,.i l3,.i l4,.i l5,.i l6,.sl BP ks,.b st,.b sp,.sl (.sl (.sl .u8)) rb,.i ru,.i vc,.b sf,.i dr,.sl sesT ss,.sl objT ob,.sl .i64 rl,.sl .i64 wl],Jw 9 [] [] []]) []):=by
 have k1:=P9 hq
 have k2:=Ky sd au en ac re rs ck od su mc ix l1 l2 l3 l4 l5 l6 ks st sp rb ru vc sf dr ss ob rl wl h [(0,[],v)] [] [] p1 p2 p3 p4 p5 s1 s2 s3 hr hh hix hol hx h4 h5
 have k3:=nG sd au en ac re rs ck od su mc ix l1 l2 l3 l4 l5 l6 ks st sp rb ru vc sf dr ss ob rl wl 13 h f1 [] [] v [] [] [] p1 p2 p3 p4 p5 s1 s2 s3 hr hh hix hol hx h4 h5 ha hp hk hF hvl hvx
 have k4:=ig sd au en ac re rs ck od su mc ix f1 l2 l3 l4 l5 l6 ks st sp rb ru vc sf dr ss ob rl wl 9
 subst hst
 refine tq ?_
 rw[k1]
 refine tq ?_
 rw[k2]
 refine tq ?_
 rw[k3]
 refine tq ?_
 rw[k4]
 exact tq rfl
end
section
attribute [local irreducible] Bl CS CU CJ Bh Ak CV Du EN E5 EH Be BN CE Bz and' CG CO BC Ag Ar BF BG AY Aa AP AX CW Dv CX DT C9 BJ BD BA BB Au AQ Az Ac Aw Ah CY BL Bi BR BI CB CZ CP fits Cb CQ A8 AA AZ
theorem i01:Bl 0 1=1:=by rw[D7 zaa];rfl
theorem A3Y(p:List UInt8)(hp:p.length=32):EG ⟨3,0,0,p,List.replicate (uniq 3).toNat 0⟩=0:=by
 unfold EG
 simp[uniq,hp];rfl
theorem jS(e:Int)(he:e=0\/0<e/\e<=255):rpG e [] [] [] :=
 ⟨by rcases he with h|h<;>simp[h],by simp,by simp,by simp,by simp,by simp,by simp⟩
theorem A83:(BK zen Bc [] 32).length<=100000:=by rw[Eb (n:=32) zaa];decide
theorem A6g:∀ l∈Aq zen,l.length<=1000:=fun l hl=>(Qb 1 zaa).sm l hl
theorem A3Z:(Aq zen).length=3:=(Qb 1 zaa).sl
theorem A84(P:List UInt8)(hP:P.length=32):∃ ar wr nx ar1 wr1 XB U S B1 B2,U.length=32/\S.length=32/\Q5 ar1 (XB-1) (encS (Aq zen) [[],[],[],[]] (BK zen Bc [] 32) 2 1 0 0 false [] 0 0 [] 0 5 100 0 0 1000 [])/\(0<=wr1/\wr1<=XB)/\XB<=3/\Y E0 (.call 8 [.i 2] [])=some (.ret (.tup [Gm ar wr 0 0 false (Aq zen) [[],[],[],[]] (BK zen Bc [] 32) 2 1 0 0 false [] 0 0 [] 0 5 100 0 0 1000 [] true false (BZ 2) 0 0 true 0 ED H8 [] [] true nx,.b true]) []) /\
  Y E0 (.call 9 [Gm ar wr 0 0 false (Aq zen) [[],[],[],[]] (BK zen Bc [] 32) 2 1 0 0 false [] 0 0 [] 0 5 100 0 0 1000 [] true false (BZ 2) 0 0 true 0 ED H8 [] [] true nx,.i 0,rq 9 [0] [(0,[],[])] [3,0,0] [P,[],[9]],.i 1,.i 2] [])=some (.ret (.tup [Gm ar1 wr1 0 0 false (Aq zen) [[],[],[],[]] (BK zen Bc [] 32) 2 1 0 0 false [] 0 0 [] 0 5 100 0 0 1000 [] true false (BZ 2) 0 0 true 0 ED [((3,0,0,P,U),([],S,[9]),0),Q4,Q4] [] [] true XB,Jw 0 [512] [B1,B2] [],.b true]) []):=by
 obtain⟨ar,wr,nx,h1,h2,h3,h4,hf⟩:=A16
 obtain⟨S,-,hS,hp⟩:=pX (sd:=Aq zen) (ob:=H8) (h:=0) (k:=3) (a:=0) (t:=0) (o:=P) (auth:=[]) (d:=[9]) (by rw[A3Z];decide) zac (A3Y P hP) zan zan (fun _=>rfl)
 rw[show Fb H8=0 from rfl] at hp
 have hu:(Dz 3 0 ⟨[],S,[9]⟩).length=32:=by unfold Dz;rw[if_neg zac];exact A7 _
 have hb1:(ET ⟨3,0,0,P,Dz 3 0 ⟨[],S,[9]⟩⟩).length<=1024:=by rw[WY (by simp only;omega) (by simp only;omega)];simp only;omega
 have hb2:(nameB ⟨3,0,0,P,Dz 3 0 ⟨[],S,[9]⟩⟩).length<=1024:=by rw[He];decide
 generalize ET ⟨3,0,0,P,Dz 3 0 ⟨[],S,[9]⟩⟩=B1 at hp hb1
 generalize nameB ⟨3,0,0,P,Dz 3 0 ⟨[],S,[9]⟩⟩=B2 at hp hb2
 generalize Dz 3 0 ⟨[],S,[9]⟩=U at hp hu
 have ok:=Qb 1 zaa
 have hq:=A4B 0 3 0 0 P [] [9] zaa zaa zaa zaa zaa zan zan
 have x1:=qp (Aq zen) [[],[],[],[]] (BK zen Bc [] 32) 2 1 0 0 false 0 0 [] 0 5 100 0 0 1000 [] true false (BZ 2) 0 0 true 0 ED H8 [] [] 0 3 0 0 P [] [9] rfl zaa zan zan zan rfl (by rw[wI]) (by rw[A3Z];omega) A6g zaa zan _ _ _ hp hq
 obtain⟨ar1,wr1,XB,k1,k2,k3,k4,k5,q1⟩:=Wy ar wr 0 nx 0 (Aq zen) [[],[],[],[]] (BK zen Bc [] 32) 2 1 0 0 false 0 0 [] 0 5 100 0 0 1000 [] true false (BZ 2) 0 0 true 0 ED H8 [] [] (Aq zen) [[],[],[],[]] (BK zen Bc [] 32) 2 1 0 0 false 0 0 [] 0 5 100 0 0 1000 [] true false (BZ 2) 0 0 true 0 ED [((3,0,0,P,U),([],S,[9]),0),Q4,Q4] [] [] 9 3 [0] [(0,[],[])] [3,0,0] [P,[],[9]] 0 [512] [B1,B2] [] hq ⟨.inl rfl,by simp,by simp,by simp,by simp,by intro x hx;simp at hx;rcases hx with rfl|rfl<;>assumption,by simp⟩ ok ok h1 ⟨h2,h3⟩ zaa x1
 have m1:=O9 ar ar1 wr 0 nx wr1 XB 0 (Aq zen) [[],[],[],[]] (BK zen Bc [] 32) 2 1 0 0 false 0 0 [] 0 5 100 0 0 1000 [] true false (BZ 2) 0 0 true 0 ED H8 [] [] (Aq zen) [[],[],[],[]] (BK zen Bc [] 32) 2 1 0 0 false 0 0 [] 0 5 100 0 0 1000 [] true false (BZ 2) 0 0 true 0 ED [((3,0,0,P,U),([],S,[9]),0),Q4,Q4] [] [] 9 [0] [(0,[],[])] [3,0,0] [P,[],[9]] 0 1 2 [512] [B1,B2] [] q1 zan rfl rfl rfl
 exact⟨ar,wr,nx,ar1,wr1,XB,U,S,B1,B2,hu,hS,k1,⟨k2,k3⟩,by have:=k5 rfl;omega,hf,m1⟩
abbrev XM(P U S:List UInt8):List (El objT):=[((3,0,0,P,U),([],S,[9]),0),Q4,Q4]
theorem A85(P U S:List UInt8)(hP:P=V4 zen NY)(hU:U.length=32)(ar:List (List UInt8))(wr nx:Int)(h1:Q5 ar (nx-1) (encS (Aq zen) [[],[],[],[]] (BK zen Bc [] 32) 2 1 0 0 false [] 0 0 [] 0 5 100 0 0 1000 []))(h2:0<=wr/\wr<=nx)(h3:nx<=3):∃ ar1 wr1 XB ar2 wr2 nx2 ar3 wr3 nx3 n s1 s2 s3,
  Y E0 (.call 9 [Gm ar wr 0 0 false (Aq zen) [[],[],[],[]] (BK zen Bc [] 32) 2 1 0 0 false [] 0 0 [] 0 5 100 0 0 1000 [] true false (BZ 2) 0 0 true 0 ED (XM P U S) [] [] true nx,.i 0,rq 16 [] [] [2] [],.i 1,.i 1] [])=some (.ret (.tup [Gm ar1 wr1 0 0 false (Aq zen) [[],[],[],[]] (BK zen Bc [] 32) 2 1 0 0 false [] 0 0 [] 0 5 100 0 0 1000 [] true false (BZ 2) 0 0 true 1 s1 (XM P U S) [] [] true XB,Jw 0 [768] [n] [],.b true]) []) /\
  Y E0 (.call 9 [Gm ar1 wr1 0 0 false (Aq zen) [[],[],[],[]] (BK zen Bc [] 32) 2 1 0 0 false [] 0 0 [] 0 5 100 0 0 1000 [] true false (BZ 2) 0 0 true 1 s1 (XM P U S) [] [] true XB,.i 0,rq 17 [] [] [768,1,0,1,0,0] [[]],.i 0,.i 0] [])=some (.ret (.tup [Gm ar2 wr2 0 0 false (Aq zen) [[],[],[],[]] (BK zen Bc [] 32) 2 1 0 0 false [] 0 0 [] 0 5 100 0 0 1000 [] true false (BZ 2) 0 0 true 1 s2 (XM P U S) [] [] true nx2,Jw 0 [] [] [],.b true]) []) /\
  Y E0 (.call 9 [Gm ar2 wr2 0 0 false (Aq zen) [[],[],[],[]] (BK zen Bc [] 32) 2 1 0 0 false [] 0 0 [] 0 5 100 0 0 1000 [] true false (BZ 2) 0 0 true 1 s2 (XM P U S) [] [] true nx2,.i 0,rq 13 [512] [(768,[],[])] [] [],.i 0,.i 1] [])=some (.ret (.tup [Gm ar3 wr3 0 0 false (Aq zen) [[],[],[],[]] (BK zen Bc [] 32) 2 1 0 0 false [] 0 0 [] 0 5 100 0 0 1000 [] true false (BZ 2) 0 0 true 1 s3 (XM P U S) [] [] true nx3,Jw 0 [] [[9]] [],.b true]) []):=by
 have ok:=Qb 1 zaa
 have hq1:=A6d 2 zaa
 have x1:=A3M (Aq zen) [[],[],[],[]] (BK zen Bc [] 32) 2 1 0 0 false 0 0 [] 0 5 100 0 0 1000 [] true false (BZ 2) 0 0 true 0 ED (XM P U S) [] [] 2 zaa zan A83 0 [] [] 0 0 0 0 false rfl (fun i hi=>by omega) rfl hq1
 obtain⟨n,hn⟩:∃ n,MN (BK zen Bc [] 32) 1 0 0 16=n:=⟨_,rfl⟩
 rw[hn,i01,show((0:Nat):Int)=0 from rfl,show(768:Int)+0=768 from rfl] at x1
 have hnl:n.length<=1024:=by rw[<-hn,MN];exact Nat.le_trans (Nat.le_of_eq (Eb (n:=16) zaa)) zac
 obtain⟨ar1,wr1,XB,k1,k2,k3,k4,k5,q1⟩:=Wy ar wr 0 nx 0 (Aq zen) [[],[],[],[]] (BK zen Bc [] 32) 2 1 0 0 false 0 0 [] 0 5 100 0 0 1000 [] true false (BZ 2) 0 0 true 0 ED (XM P U S) [] [] (Aq zen) [[],[],[],[]] (BK zen Bc [] 32) 2 1 0 0 false 0 0 [] 0 5 100 0 0 1000 [] true false (BZ 2) 0 0 true 1 (BL ED 0 (2,n,zen,-1,31,0,0,false)) (XM P U S) [] [] 16 0 [] [] [2] [] 0 [768] [n] [] hq1 ⟨.inl rfl,by simp,by simp,by simp,by simp,by intro x hx;simp at hx;subst hx;exact hnl,by simp⟩ ok ok h1 h2 zaa x1
 have m1:=O9 ar ar1 wr 0 nx wr1 XB 0 (Aq zen) [[],[],[],[]] (BK zen Bc [] 32) 2 1 0 0 false 0 0 [] 0 5 100 0 0 1000 [] true false (BZ 2) 0 0 true 0 ED (XM P U S) [] [] (Aq zen) [[],[],[],[]] (BK zen Bc [] 32) 2 1 0 0 false 0 0 [] 0 5 100 0 0 1000 [] true false (BZ 2) 0 0 true 1 (BL ED 0 (2,n,zen,-1,31,0,0,false)) (XM P U S) [] [] 16 [] [] [2] [] 0 1 1 [768] [n] [] q1 zan rfl rfl rfl
 obtain⟨s1,hs1⟩:∃ s1,BL ED 0 (2,n,zen,-1,31,0,0,false)=s1:=⟨_,rfl⟩
 have hl1:s1.length=3:=by rw[<-hs1,EU,List.length_set];rfl
 have hg1:Ah s1 (768-768)=some (2,n,zen,(-1:Int),31,0,0,false):=by rw[<-hs1,EU];exact wI _ _
 rw[hs1] at m1 q1
 have hq2:=A6e 768 zaa
 have x2:=A3U (Aq zen) [[],[],[],[]] (BK zen Bc [] 32) 2 1 0 0 false 0 0 [] 0 5 100 0 0 1000 [] true false (BZ 2) 0 0 true 1 s1 (XM P U S) [] [] 768 31 0 0 n zen false rfl rfl zaa zaa hg1 (by rw[zen_len];decide) hq2
 rw[<-hP,show(768:Int)-768=0 from rfl] at x2
 obtain⟨ar2,wr2,nx2,j1,j2,j3,j4,j5,q2⟩:=Wy ar1 wr1 0 XB 0 (Aq zen) [[],[],[],[]] (BK zen Bc [] 32) 2 1 0 0 false 0 0 [] 0 5 100 0 0 1000 [] true false (BZ 2) 0 0 true 1 s1 (XM P U S) [] [] (Aq zen) [[],[],[],[]] (BK zen Bc [] 32) 2 1 0 0 false 0 0 [] 0 5 100 0 0 1000 [] true false (BZ 2) 0 0 true 1 (BL s1 0 (2,n,P,0,31,0,0,false)) (XM P U S) [] [] 17 (-1) [] [] [768,1,0,1,0,0] [[]] 0 [] [] [] hq2 (jS 0 (.inl rfl)) ok ok k1 ⟨k2,k3⟩ (by have:=k5 rfl;omega) x2
 have m2:=O9 ar1 ar2 wr1 0 XB wr2 nx2 0 (Aq zen) [[],[],[],[]] (BK zen Bc [] 32) 2 1 0 0 false 0 0 [] 0 5 100 0 0 1000 [] true false (BZ 2) 0 0 true 1 s1 (XM P U S) [] [] (Aq zen) [[],[],[],[]] (BK zen Bc [] 32) 2 1 0 0 false 0 0 [] 0 5 100 0 0 1000 [] true false (BZ 2) 0 0 true 1 (BL s1 0 (2,n,P,0,31,0,0,false)) (XM P U S) [] [] 17 [] [] [768,1,0,1,0,0] [[]] 0 0 0 [] [] [] q2 zan rfl rfl rfl
 obtain⟨s2,hs2⟩:∃ s2,BL s1 0 (2,n,P,0,31,0,0,false)=s2:=⟨_,rfl⟩
 have hl2:s2.length=3:=by rw[<-hs2,EU,List.length_set,hl1]
 have hg2:Ah s2 (768-768)=some (2,n,P,(0:Int),31,0,0,false):=by
  rw[<-hs2,EU,DZ (by rw[List.length_set,hl1];decide)];simp
 rw[hs2] at m2 q2
 have hq3:=jR 512 768 zaa zaa [] zan
 have hPl:P.length=32:=by rw[hP];exact X6 _ _
 have x3:=A3X (Aq zen) [[],[],[],[]] (BK zen Bc [] 32) 2 1 0 0 false 0 0 [] 0 5 100 0 0 1000 [] true false (BZ 2) 0 0 true 1 s2 (XM P U S) [] [] 512 768 [] [] 3 0 0 P U [] S [9] 0 n rfl zaa rfl zan rfl rfl hPl zaa zac zaa zaa hg2 hq3
 rw[show(768:Int)-768=0 from rfl] at x3
 obtain⟨ar3,wr3,nx3,i1,i2,i3,i4,i5,q3⟩:=Wy ar2 wr2 0 nx2 0 (Aq zen) [[],[],[],[]] (BK zen Bc [] 32) 2 1 0 0 false 0 0 [] 0 5 100 0 0 1000 [] true false (BZ 2) 0 0 true 1 s2 (XM P U S) [] [] (Aq zen) [[],[],[],[]] (BK zen Bc [] 32) 2 1 0 0 false 0 0 [] 0 5 100 0 0 1000 [] true false (BZ 2) 0 0 true 1 (BL s2 0 A0H) (XM P U S) [] [] 13 0 [512] [(768,[],[])] [] [] 0 [] [[9]] [] hq3 ⟨.inl rfl,by simp,by simp,by simp,by simp,by intro x hx;simp at hx;subst hx;simp,by simp⟩ ok ok j1 ⟨j2,j3⟩ (by have:=k5 rfl;have:=j5 rfl;omega) x3
 have m3:=O9 ar2 ar3 wr2 0 nx2 wr3 nx3 0 (Aq zen) [[],[],[],[]] (BK zen Bc [] 32) 2 1 0 0 false 0 0 [] 0 5 100 0 0 1000 [] true false (BZ 2) 0 0 true 1 s2 (XM P U S) [] [] (Aq zen) [[],[],[],[]] (BK zen Bc [] 32) 2 1 0 0 false 0 0 [] 0 5 100 0 0 1000 [] true false (BZ 2) 0 0 true 1 (BL s2 0 A0H) (XM P U S) [] [] 13 [512] [(768,[],[])] [] [] 0 0 1 [] [[9]] [] q3 zan rfl rfl rfl
 exact⟨ar1,wr1,XB,ar2,wr2,nx2,ar3,wr3,nx3,n,s1,s2,_,m1,m2,m3⟩
end
end Go.Proofs.YtanagnimhaemgaaGreatDoor
