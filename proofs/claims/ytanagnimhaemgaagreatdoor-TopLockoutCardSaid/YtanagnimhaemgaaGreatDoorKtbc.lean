/-
  Own texts, laid together for this claim: contracts of functions of the program and its references, used by the statements of this seat.
-/
import Derived.Test.YtanagnimhaemgaaGreatDoorKtac
import Derived.Test.YtanagnimhaemgaaGreatDoorKtad
import Derived.Test.YtanagnimhaemgaaGreatDoorKtaf
import Derived.Test.YtanagnimhaemgaaGreatDoorKtah
import Derived.Test.YtanagnimhaemgaaGreatDoorKtaj
import Derived.Test.YtanagnimhaemgaaGreatDoorKtan
import Derived.Test.YtanagnimhaemgaaGreatDoorKtap
import Derived.Test.YtanagnimhaemgaaGreatDoorKtaq
import Derived.Test.YtanagnimhaemgaaGreatDoorKtar
import Derived.Test.YtanagnimhaemgaaGreatDoorKtas
import Derived.Test.YtanagnimhaemgaaGreatDoorKtaw
import Derived.Test.YtanagnimhaemgaaGreatDoorKtaz
import Derived.Test.YtanagnimhaemgaaGreatDoorKtba
import Derived.Test.YtanagnimhaemgaaGreatDoorKtbb
set_option linter.all false
set_option maxHeartbeats 40000000
set_option maxRecDepth 100000
namespace Go.Proofs.YtanagnimhaemgaaGreatDoor
open Go Go.Ax Go.Eng
variable (sd:List (List UInt8))(x:List UInt8)(au:List (List UInt8))(en:List UInt8)(ac re rs:Int)(d:List UInt8)(ck:Int)(od:Bool)(su mc:Int)(ix:List (El AB))(l1 l2 l3 l4 l5 l6:Int)(ks:List (El BP))(st sp:Bool)(rb:List (List (List UInt8)))(ru vc:Int)(sf:Bool)(dr:Int)(ss:List (El sesT))(ob:List (El objT))(rl wl:List Int)(h c kd:Int)(hs:List Int)(az:List (El AL))(nn:List UInt8)(p1:Int)(qi:List Int)(v:List UInt8)(p2 p3:Int)(qb:List (List UInt8))(p4 p5 s1 s2 s3:List UInt8)(hr:Int)
section
attribute [local irreducible] Bl CS CU CJ Bh Ak CV Du EN E5 EH Be BN CE Bz and' CG CO BC Ag Ar BF BG AY Aa AP AX CW Dv CX DT C9 BJ BD BA BB Au AQ Az Ac Aw Ah CY BL Bi BR BI CB CZ CP fits Cb CQ A8 AA AZ
theorem Yg:Y E0 (.call 285 [] [])=some (.ret (.sl .u8 zen) []):=by
 have hz:BR 32 (0:UInt8)=zen:=by rw[FO,zen];rfl
 refine tq ?_
 (rw[hz])
theorem jG(sd:List (List UInt8))(au:List (List UInt8))(en:List UInt8)(ac:Int)(re:Int)(rs:Int)(ck:Int)(od:Bool)(su:Int)(mc:Int)(ix:List (El AB))(l1:Int)(l2:Int)(l3:Int)(l4:Int)(l5:Int)(l6:Int)(ks:List (El BP))(st:Bool)(sp:Bool)(rb:List (List (List UInt8)))(ru:Int)(vc:Int)(sf:Bool)(dr:Int)(ss:List (El sesT))(ob:List (El objT))(rl:List Int)(wl:List Int)(kd:Int)(hkd:1<=kd/\kd<=3)(hl:ss.length<=10)(hen:en.length<=100000)(k:Nat)(x2 x3:List UInt8)(x4 x5 x6 x7:Int)(x8:Bool)(hk:ss[k]?=some (0,x2,x3,x4,x5,x6,x7,x8))(hu:∀ i<k,∃ x,ss[i]?=some x/\(x.1:Int)≠0):∀(d j:Nat),j+d=k ->
  Y E0 (.loop 225 0 0 2 [(1,.i kd),(2,.pa 0 0),(4,.pa 1 0),(20,.sl sesT ss),(21,.i (ss.length:Int)),(22,.i (j:Int))] [(0,some (.var [.sl (.sl .u8) sd,.sl (.sl .u8) au,.sl .u8 en,.i ac,.i re,.i rs,.i ck,.b od,.sl (.sl (.sl .u8)) [],.i su,.i mc,.sl AB ix,.i l1,.i l2,.i l3,.i l4,.i l5,.i l6,.sl BP ks,.b st,.b sp,.sl (.sl (.sl .u8)) rb,.i ru,.i vc,.b sf,.i dr,.sl sesT ss,.sl objT ob,.sl .i64 rl,.sl .i64 wl])),(1,some (.var [.nil,.nil,.nil,.i 0,.i 0,.i 0,.i 0,.b false,.nil,.i 0,.i 0,.nil,.i 0,.i 0,.i 0,.i 0,.i 0,.i 0,.nil,.b false,.b false,.nil,.i 0,.i 0,.b false,.i 0,.nil,.nil,.nil,.nil]))])
   = some (.fin .ret 1 [(4,.pa 0 0),(5,.i (768+(k:Int))),(6,.i 0)] [(0,some (.var [.sl (.sl .u8) sd,.sl (.sl .u8) au,.sl .u8 en,.i ac,.i re,.i rs,.i ck,.b od,.sl (.sl (.sl .u8)) [],.i su,.i mc,.sl AB ix,.i l1,.i l2,.i l3,.i l4,.i l5,.i l6,.sl BP ks,.b st,.b sp,.sl (.sl (.sl .u8)) rb,.i ru,.i vc,.b sf,.i (Bl dr 1),.sl sesT (BL ss (k:Int) (kd,MN en re rs dr 16,zen,-1,31,0,0,false)),.sl objT ob,.sl .i64 rl,.sl .i64 wl]))])
 | 0,j,hj=>by
  obtain rfl:j=k:=zaa
  have hg:Ah ss (j:Int)=some (0,x2,x3,x4,x5,x6,x7,x8):=by rw[D5];exact hk
  have hlt:j<ss.length:=(List.getElem?_eq_some_iff.1 hk).1
  have hr:=A1G sd au en ac re rs ck od [] su mc ix l1 l2 l3 l4 l5 l6 ks st sp rb ru vc sf dr ss ob rl wl 16 hen
  rw[AU];conv=>lhs;whnf
  refine to ?_
  rw[hg]
  refine tq ?_
  rw[hr]
  refine tq ?_
  rw[Yg]
  refine tq ?_
  rw[Zy (hl:=Am) (hk:=Am) ..]
  exact tq rfl
 | d+1,j,hj=>by
  obtain⟨⟨y1,y2⟩,hy,hn⟩:=hu j zaa
  have hg:Ah ss (j:Int)=some (y1,y2):=by rw[D5];exact hy
  have hlt:j<ss.length:=(List.getElem?_eq_some_iff.1 hy).1
  have hn:y1≠0:=hn
  have ih:=jG sd au en ac re rs ck od su mc ix l1 l2 l3 l4 l5 l6 ks st sp rb ru vc sf dr ss ob rl wl kd hkd hl hen k x2 x3 x4 x5 x6 x7 x8 hk hu d (j+1) zaa
  rw[show((j+1:Nat):Int)=(j:Int)+1 from by omega] at ih
  rw[AU];conv=>lhs;whnf
  refine to ?_
  rw[hg]
  refine tq ?_
  exact ih
theorem A1J(hkd:1<=kd/\kd<=3)(hl:ss.length<=10)(hen:en.length<=100000)(k:Nat)(x2 x3:List UInt8)(x4 x5 x6 x7:Int)(x8:Bool)(hk:ss[k]?=some (0,x2,x3,x4,x5,x6,x7,x8))(hu:∀ i<k,∃ x,ss[i]?=some x/\(x.1:Int)≠0):Y E0 (.call 225 [.agg [.sl (.sl .u8) sd,.sl (.sl .u8) au,.sl .u8 en,.i ac,.i re,.i rs,.i ck,.b od,.sl (.sl (.sl .u8)) [],.i su,.i mc,.sl AB ix,.i l1,.i l2,.i l3,.i l4,.i l5,.i l6,.sl BP ks,.b st,.b sp,.sl (.sl (.sl .u8)) rb,.i ru,.i vc,.b sf,.i dr,.sl sesT ss,.sl objT ob,.sl .i64 rl,.sl .i64 wl],.i kd] [])=some (.ret (.tup [.agg [.sl (.sl .u8) sd,.sl (.sl .u8) au,.sl .u8 en,.i ac,.i re,.i rs,.i ck,.b od,.sl (.sl (.sl .u8)) [],.i su,.i mc,.sl AB ix,.i l1,.i l2,.i l3,.i l4,.i l5,.i l6,.sl BP ks,.b st,.b sp,.sl (.sl (.sl .u8)) rb,.i ru,.i vc,.b sf,.i (Bl dr 1),.sl sesT (BL ss (k:Int) (kd,MN en re rs dr 16,zen,-1,31,0,0,false)),.sl objT ob,.sl .i64 rl,.sl .i64 wl],.i (768+(k:Int)),.i 0]) []):=by
 have h:=jG sd au en ac re rs ck od su mc ix l1 l2 l3 l4 l5 l6 ks st sp rb ru vc sf dr ss ob rl wl kd hkd hl hen k x2 x3 x4 x5 x6 x7 x8 hk hu k 0 zaa
 rw[show((0:Nat):Int)=0 from rfl,<-AC] at h
 refine tq ?_
 simp only[Nat.reduceAdd];rw[h]
 exact tq rfl
theorem X5(x1 x4 x5 x6 x7:Int)(x2 x3:List UInt8)(x8:Bool)(hl:ss.length<=1000)(hh:0<=h-768/\h-768<ss.length)(hg:Ah ss (h-768)=some (x1,x2,x3,x4,x5,x6,x7,x8))(hz:x1≠0):Y E0 (.call 193 [.agg [.sl (.sl .u8) sd,.sl (.sl .u8) au,.sl .u8 en,.i ac,.i re,.i rs,.i ck,.b od,.sl (.sl (.sl .u8)) [],.i su,.i mc,.sl AB ix,.i l1,.i l2,.i l3,.i l4,.i l5,.i l6,.sl BP ks,.b st,.b sp,.sl (.sl (.sl .u8)) rb,.i ru,.i vc,.b sf,.i dr,.sl sesT ss,.sl objT ob,.sl .i64 rl,.sl .i64 wl],.i h] [])=some (.ret (.tup [pg x1 x2 x3 x4 x5 x6 x7 x8,.i 0]) []):=by
 have hf:=Qd sd au en ac re rs ck od [] su mc ix l1 l2 l3 l4 l5 l6 ks st sp rb ru vc sf dr ss ob rl wl h x1 x4 x5 x6 x7 x2 x3 x8 hl hh hg hz
 refine tq ?_
 rw[hf]
 exact tq rfl
theorem A1K(hkd:1<=kd/\kd<=3)(hl:ss.length<=10)(hen:en.length<=100000)(k:Nat)(x2 x3:List UInt8)(x4 x5 x6 x7:Int)(x8:Bool)(hk:ss[k]?=some (0,x2,x3,x4,x5,x6,x7,x8))(hu:∀ i<k,∃ x,ss[i]?=some x/\(x.1:Int)≠0)(qb:List (List UInt8)):Y E0 (.call 189 [.agg [.sl (.sl .u8) sd,.sl (.sl .u8) au,.sl .u8 en,.i ac,.i re,.i rs,.i ck,.b od,.sl (.sl (.sl .u8)) [],.i su,.i mc,.sl AB ix,.i l1,.i l2,.i l3,.i l4,.i l5,.i l6,.sl BP ks,.b st,.b sp,.sl (.sl (.sl .u8)) rb,.i ru,.i vc,.b sf,.i dr,.sl sesT ss,.sl objT ob,.sl .i64 rl,.sl .i64 wl],rq 16 [] [] [kd] qb] [])=some (.ret (.tup [.agg [.sl (.sl .u8) sd,.sl (.sl .u8) au,.sl .u8 en,.i ac,.i re,.i rs,.i ck,.b od,.sl (.sl (.sl .u8)) [],.i su,.i mc,.sl AB ix,.i l1,.i l2,.i l3,.i l4,.i l5,.i l6,.sl BP ks,.b st,.b sp,.sl (.sl (.sl .u8)) rb,.i ru,.i vc,.b sf,.i (Bl dr 1),.sl sesT (BL ss (k:Int) (kd,MN en re rs dr 16,zen,-1,31,0,0,false)),.sl objT ob,.sl .i64 rl,.sl .i64 wl],Jw 0 [768+(k:Int)] [MN en re rs dr 16] []]) []):=by
 have h:=A1J sd au en ac re rs ck od su mc ix l1 l2 l3 l4 l5 l6 ks st sp rb ru vc sf dr ss ob rl wl kd hkd hl hen k x2 x3 x4 x5 x6 x7 x8 hk hu
 have hlt:k<ss.length:=(List.getElem?_eq_some_iff.1 hk).1
 have hf:=X5 sd au en ac re rs ck od su mc ix l1 l2 l3 l4 l5 l6 ks st sp rb ru vc sf (Bl dr 1) (BL ss (k:Int) (kd,MN en re rs dr 16,zen,-1,31,0,0,false)) ob rl wl (768+(k:Int)) kd (-1) 31 0 0 (MN en re rs dr 16) zen false (by rw[EU,List.length_set];omega) (by rw[EU,List.length_set];omega) (by rw[show 768+(k:Int)-768=(k:Int) from by omega,D5,EU];simp[hlt]) zaa
 refine tq ?_
 rw[h]
 refine tq ?_
 rw[hf]
 exact tq rfl
theorem A3L(hkd:1<=kd/\kd<=3)(hl:ss.length<=10)(hen:en.length<=100000)(k:Nat)(x2 x3:List UInt8)(x4 x5 x6 x7:Int)(x8:Bool)(hk:ss[k]?=some (0,x2,x3,x4,x5,x6,x7,x8))(hu:∀ i<k,∃ x,ss[i]?=some x/\(x.1:Int)≠0)(qb:List (List UInt8)):Y E0 (.call 163 [.agg [.sl (.sl .u8) sd,.sl (.sl .u8) au,.sl .u8 en,.i ac,.i re,.i rs,.i ck,.b od,.sl (.sl (.sl .u8)) [],.i su,.i mc,.sl AB ix,.i l1,.i l2,.i l3,.i l4,.i l5,.i l6,.sl BP ks,.b st,.b sp,.sl (.sl (.sl .u8)) rb,.i ru,.i vc,.b sf,.i dr,.sl sesT ss,.sl objT ob,.sl .i64 rl,.sl .i64 wl],.i 0,rq 16 [] [] [kd] qb] [])=some (.ret (.tup [.agg [.sl (.sl .u8) sd,.sl (.sl .u8) au,.sl .u8 en,.i ac,.i re,.i rs,.i ck,.b od,.sl (.sl (.sl .u8)) [],.i su,.i mc,.sl AB ix,.i l1,.i l2,.i l3,.i l4,.i l5,.i l6,.sl BP ks,.b st,.b sp,.sl (.sl (.sl .u8)) rb,.i ru,.i vc,.b sf,.i (Bl dr 1),.sl sesT (BL ss (k:Int) (kd,MN en re rs dr 16,zen,-1,31,0,0,false)),.sl objT ob,.sl .i64 rl,.sl .i64 wl],Jw 0 [768+(k:Int)] [MN en re rs dr 16] []]) []):=by
 have h:=A1K sd au en ac re rs ck od su mc ix l1 l2 l3 l4 l5 l6 ks st sp rb ru vc sf dr ss ob rl wl kd hkd hl hen k x2 x3 x4 x5 x6 x7 x8 hk hu qb
 refine tq ?_
 rw[h]
 exact tq rfl
theorem A3M(hkd:1<=kd/\kd<=3)(hl:ss.length<=10)(hen:en.length<=100000)(k:Nat)(x2 x3:List UInt8)(x4 x5 x6 x7:Int)(x8:Bool)(hk:ss[k]?=some (0,x2,x3,x4,x5,x6,x7,x8))(hu:∀ i<k,∃ x,ss[i]?=some x/\(x.1:Int)≠0)(hst:st=true)(hq:rqG 16 0 [] [] [kd] []):Y E0 (.call 131 [.agg [.sl (.sl .u8) sd,.sl (.sl .u8) au,.sl .u8 en,.i ac,.i re,.i rs,.i ck,.b od,.sl (.sl (.sl .u8)) [],.i su,.i mc,.sl AB ix,.i l1,.i l2,.i l3,.i l4,.i l5,.i l6,.sl BP ks,.b st,.b sp,.sl (.sl (.sl .u8)) rb,.i ru,.i vc,.b sf,.i dr,.sl sesT ss,.sl objT ob,.sl .i64 rl,.sl .i64 wl],.i 0,rq 16 [] [] [kd] []] [])=some (.ret (.tup [.agg [.sl (.sl .u8) sd,.sl (.sl .u8) au,.sl .u8 en,.i ac,.i re,.i rs,.i ck,.b od,.sl (.sl (.sl .u8)) [],.i su,.i mc,.sl AB ix,.i l1,.i l2,.i l3,.i l4,.i l5,.i l6,.sl BP ks,.b st,.b sp,.sl (.sl (.sl .u8)) rb,.i ru,.i vc,.b sf,.i (Bl dr 1),.sl sesT (BL ss (k:Int) (kd,MN en re rs dr 16,zen,-1,31,0,0,false)),.sl objT ob,.sl .i64 rl,.sl .i64 wl],Jw 0 [768+(k:Int)] [MN en re rs dr 16] []]) []):=by
 have hc:=P9 hq
 have h:=A3L sd au en ac re rs ck od su mc ix l1 l2 l3 l4 l5 l6 ks st sp rb ru vc sf dr ss ob rl wl kd hkd hl hen k x2 x3 x4 x5 x6 x7 x8 hk hu []
 subst hst
 refine tq ?_
 rw[hc]
 refine tq ?_
 rw[PD ..]
 refine tq ?_
 rw[h]
 exact tq rfl
end
section
attribute [local irreducible] Bl CS CU CJ Bh Ak CV Du EN E5 EH Be BN CE Bz and' CG CO BC Ag Ar BF BG AY Aa AP AX CW Dv CX DT C9 BJ BD BA BB Au AQ Az Ac Aw Ah CY BL Bi BR BI CB CZ CP fits Cb CQ A8 AA AZ
abbrev A5T:Ty:=.pair .i64 (.pair (.pair .i64 .i64) (.pair (.sl .u8) (.pair .i64 (.pair .i64 (.pair (.sl .u8) (.pair (.sl .u8) (.pair (.sl .u8) (.sl (.sl .u8)))))))))
def V4(d x:List UInt8):List UInt8:=sha256 (Af 8 [[1],d,BH (BH [] 2 0) 2 1,x])
theorem aB(x:List UInt8)(hd:d.length<=1000)(hx:x.length=32):(Af 8 [[1],d,BH (BH [] 2 0) 2 1,x]).length<=4000:=by
 simp only[Af,fieldsB,List.flatMap_cons,List.flatMap_nil,List.length_append,List.length_cons,List.length_nil,JW,Ad];omega
theorem X6(x:List UInt8):(V4 d x).length=32:=A7 _
theorem mV:Y E0 (.call 73 [] [])=some (.ret (.sl .u8 zen) []):=by
 have h1:BR 32 (0:UInt8)=zen:=by rw[FO,zen];rfl
 refine tq ?_
 (rw[h1])
theorem A1Q:Y E0 (.call 147 [.agg [.i 0,.i 1]] [])=some (.ret (.b true) []):=by
 refine tq ?_
 with_reducible rfl
theorem A1R(hx:x.length=32):Y E0 (.call 113 [wK 1 0 1 x 0 0 [] [] [] []] [])=some (.ret (.i 0) []):=by
 refine tq ?_
 rw[A1Q]
 exact tq rfl
theorem mW(x:List UInt8)(hd:d.length<=1000)(hx:x.length=32):Y E0 (.call 114 [.sl .u8 d,wK 1 0 1 x 0 0 [] [] [] []] [])=some (.ret (.sl .u8 (Af 8 [[1],d,BH (BH [] 2 0) 2 1,x])) []):=by
 have hf:BI [[DT 1]] [d,BH (BH [] 2 0) 2 1,x]=[[1],d,BH (BH [] 2 0) 2 1,x]:=by rw[Ap,EM];rfl
 have hl:=aB d x hd hx
 refine tq ?_
 rw[Gj _ _ _ Am]
 refine tq ?_
 rw[Gj _ _ _ Am]
 refine tq ?_
 rw[hf]
 conv=>lhs;whnf
 rw[S9 _ _ Am Am]
 exact tq rfl
theorem A1S(x:List UInt8)(hd:d.length<=1000)(hx:x.length=32):Y E0 (.call 74 [.sl .u8 d,wK 1 0 1 x 0 0 [] [] [] []] [])=some (.ret (.sl .u8 (V4 d x)) []):=by
 have hl:=aB d x hd hx
 have k1:=A1R x hx
 have k2:=mW d x hd hx
 refine tq ?_
 rw[k1]
 refine tq ?_
 rw[k2]
 refine tq ?_
 rw[YH _ Am]
 refine tq ?_
 rfl
theorem mX(hx:x.length=32):Y E0 (.loop 34 0 0 0 [(0,.sl A5T [(1,(0,1),x,0,0,[],[],[],[])]),(3,.sl .u8 zen),(4,.i 0)] [])=some (.fin (.exit 0) 0 [(3,.sl .u8 (V4 zen x))] []):=by
 have hp:=X6 zen x
 have k1:=A1S zen x (by rw[zen_len];omega) hx
 have hl:Aw ([(1,(0,1),x,0,0,[],[],[],[])]:List (El A5T))=1:=zaQ
 rw[AU];conv=>lhs;whnf
 rw[hl]
 refine tq ?_
 rw[k1]
 refine tq ?_
 rw[AU]
 conv=>lhs;whnf
 rw[hl]
 exact tq rfl
theorem A1T(hx:x.length=32):Y E0 (.call 34 [.sl A5T [(1,(0,1),x,0,0,[],[],[],[])]] [])=some (.ret (.sl .u8 (V4 zen x)) []):=by
 refine tq ?_
 rw[mV]
 refine tq ?_
 rw[mX _ Am]
 exact tq rfl
theorem qm(x a b:Int):Y E0 (.call 307 [.i x,.i a,.i b] [])=some (.ret (.b (decide (a<=x/\x<=b))) []):=by
 refine tq ?_
 rcases dm a x with hc0|hc0
 ·
  refine tq ?_
  (congr 3;simp only[Hq,JA,Io,JB,DJ,GZ,AC];first|rfl|(rw[decide_eq_decide];omega)|(simp;omega))
 refine tq ?_
 simp;omega
theorem A3R:Y E0 (.call 306 [.b true] [])=some (.ret (.i 0) []):=by
 refine tq ?_
 with_reducible rfl
theorem Yl(hx:x.length=32):Y E0 (.call 258 [wK 1 0 1 x 0 0 [] [] [] []] [])=some (.ret (.i 0) []):=by
 have w0:=qm 0 0 65535
 have w1:=qm 1 0 65535
 rw[show decide ((0:Int)<=0/\(0:Int)<=65535)=true from rfl] at w0
 rw[show decide ((0:Int)<=1/\(1:Int)<=65535)=true from rfl] at w1
 have hi:Du (Aw x) 32=true:=Ep (by rw[AC];omega)
 rw[AU]
 conv=>lhs;whnf
 rw[Ep zaa]
 conv=>lhs;whnf
 try dsimp -iota -beta -eta -zeta only
 rw[Fh zaa]
 conv=>lhs;whnf
 rw[Dn zaa]
 conv=>lhs;whnf
 try dsimp -iota -beta -eta -zeta only
 rw[Aj]
 rw[w0]
 conv=>lhs;whnf
 try dsimp -iota -beta -eta -zeta only
 rw[Fh zaa]
 conv=>lhs;whnf
 rw[Dn zaa]
 conv=>lhs;whnf
 try dsimp -iota -beta -eta -zeta only
 rw[Aj]
 rw[w1]
 conv=>lhs;whnf
 try dsimp -iota -beta -eta -zeta only
 rw[Aj]
 rw[hi,A3R]
 exact tq rfl
theorem vT(x:List UInt8)(hd:d.length<=1000)(hx:x.length=32):Y E0 (.call 334 [.sl .u8 d,wK 1 0 1 x 0 0 [] [] [] []] [])=some (.ret (.sl (.sl .u8) [d,BH (BH [] 2 0) 2 1,x]) []):=by
 refine tq ?_
 rw[DN _ _ _ Am]
 refine tq ?_
 rw[DN _ _ _ Am]
 exact tq rfl
theorem vU(x:List UInt8)(hd:d.length<=1000)(hx:x.length=32):Y E0 (.call 291 [.sl .u8 d,wK 1 0 1 x 0 0 [] [] [] []] [])=some (.ret (.sl .u8 (V4 d x)) []):=by
 have k1:=Yl x hx
 have k2:=vT d x hd hx
 have hf:BI [[DT 1]] [d,BH (BH [] 2 0) 2 1,x]=[[1],d,BH (BH [] 2 0) 2 1,x]:=by rw[Ap,EM];rfl
 have hl:=aB d x hd hx
 refine tq ?_
 rw[k1]
 refine tq ?_
 rw[k2]
 refine tq ?_
 rw[hf]
 conv=>lhs;whnf
 rw[FB _ _ Am Am]
 refine tq ?_
 rfl
end
section
attribute [local irreducible] Bl CS CU CJ Bh Ak CV Du EN E5 EH Be BN CE Bz and' CG CO BC Ag Ar BF BG AY Aa AP AX CW Dv CX DT C9 BJ BD BA BB Au AQ Az Ac Aw Ah CY BL Bi BR BI CB CZ CP fits Cb CQ A8 AA AZ
theorem mZ:Y E0 (.loop 183 0 0 0 [(1,.i h),(10,.sl AB []),(11,.i 0),(12,.i 0)] [])=some (.fin (.exit 0) 0 [] []):=by
 rw[AU];conv=>lhs;whnf
 refine tq ?_
 with_reducible rfl
theorem jM(hix:ix=[]):Y E0 (.call 183 [.agg [.sl (.sl .u8) sd,.sl (.sl .u8) au,.sl .u8 en,.i ac,.i re,.i rs,.i ck,.b od,.sl (.sl (.sl .u8)) [],.i su,.i mc,.sl AB ix,.i l1,.i l2,.i l3,.i l4,.i l5,.i l6,.sl BP ks,.b st,.b sp,.sl (.sl (.sl .u8)) rb,.i ru,.i vc,.b sf,.i dr,.sl sesT ss,.sl objT ob,.sl .i64 rl,.sl .i64 wl],.i h] [])=some (.ret (.tup [.i 0,.i 7]) []):=by
 have e0:Aw ([]:List (El AB))=0:=zaQ
 subst hix
 refine tq ?_
 rw[e0,mZ]
 exact tq rfl
theorem OA(hh:512<=h/\h<=515)(hix:ix=[])(hol:ob.length<=1000)(hx:EX ob h=some ((p1,p2,p3,p4,p5),(s1,s2,s3),hr))(h4:p4.length<=1000)(h5:p5.length<=1000):Y E0 (.call 216 [.agg [.sl (.sl .u8) sd,.sl (.sl .u8) au,.sl .u8 en,.i ac,.i re,.i rs,.i ck,.b od,.sl (.sl (.sl .u8)) [],.i su,.i mc,.sl AB ix,.i l1,.i l2,.i l3,.i l4,.i l5,.i l6,.sl BP ks,.b st,.b sp,.sl (.sl (.sl .u8)) rb,.i ru,.i vc,.b sf,.i dr,.sl sesT ss,.sl objT ob,.sl .i64 rl,.sl .i64 wl],.i h] [])=some (.ret (.tup [.agg [.sl .u8 (nameB ⟨p1,p2,p3,p4,p5⟩),.sl .u8 s1,.sl .u8 p4,.b (Du (Ak .and p2 2) 0)],.i 0]) []):=by
 have k1:=jM sd au en ac re rs ck od su mc ix l1 l2 l3 l4 l5 l6 ks st sp rb ru vc sf dr ss ob rl wl h hix
 have k2:=Pv sd au en ac re rs ck od [] su mc ix l1 l2 l3 l4 l5 l6 ks st sp rb ru vc sf dr ss ob rl wl h p1 p2 p3 p4 p5 s1 s2 s3 hr hol hx
 refine tq ?_
 rw[k1]
 refine tq ?_
 rw[k2]
 refine tq ?_
 rw[fE _ _ _ _ _ Am Am]
 exact tq rfl
theorem ve(hh:512<=h/\h<=515)(hix:ix=[])(hol:ob.length<=1000)(hx:EX ob h=some ((p1,p2,p3,p4,p5),(s1,s2,s3),hr))(h4:p4.length<=1000)(h5:p5.length<=1000):Y E0 (.call 241 [.agg [.sl (.sl .u8) sd,.sl (.sl .u8) au,.sl .u8 en,.i ac,.i re,.i rs,.i ck,.b od,.sl (.sl (.sl .u8)) [],.i su,.i mc,.sl AB ix,.i l1,.i l2,.i l3,.i l4,.i l5,.i l6,.sl BP ks,.b st,.b sp,.sl (.sl (.sl .u8)) rb,.i ru,.i vc,.b sf,.i dr,.sl sesT ss,.sl objT ob,.sl .i64 rl,.sl .i64 wl],.i h] [])=some (.ret (.tup [.sl .u8 p4,.i 0]) []):=by
 have k:=OA sd au en ac re rs ck od su mc ix l1 l2 l3 l4 l5 l6 ks st sp rb ru vc sf dr ss ob rl wl h p1 p2 p3 p4 p5 s1 s2 s3 hr hh hix hol hx h4 h5
 refine tq ?_
 rw[k]
 exact tq rfl
theorem mf(hh:512<=h/\h<=515)(hix:ix=[])(hol:ob.length<=1000)(hx:EX ob h=some ((p1,p2,p3,p4,p5),(s1,s2,s3),hr))(h4:p4.length<=1000)(h5:p5.length<=1000):Y E0 (.call 181 [.agg [.sl (.sl .u8) sd,.sl (.sl .u8) au,.sl .u8 en,.i ac,.i re,.i rs,.i ck,.b od,.sl (.sl (.sl .u8)) [],.i su,.i mc,.sl AB ix,.i l1,.i l2,.i l3,.i l4,.i l5,.i l6,.sl BP ks,.b st,.b sp,.sl (.sl (.sl .u8)) rb,.i ru,.i vc,.b sf,.i dr,.sl sesT ss,.sl objT ob,.sl .i64 rl,.sl .i64 wl],.i h] [])=some (.ret (.tup [.sl .u8 (nameB ⟨p1,p2,p3,p4,p5⟩),.i 0]) []):=by
 have k:=OA sd au en ac re rs ck od su mc ix l1 l2 l3 l4 l5 l6 ks st sp rb ru vc sf dr ss ob rl wl h p1 p2 p3 p4 p5 s1 s2 s3 hr hh hix hol hx h4 h5
 refine tq ?_
 rw[k]
 exact tq rfl
theorem Yn(se:Int)(nn v:List UInt8)(g h:Int)(hix:ix=[]):Y E0 (.call 242 [.agg [.sl (.sl .u8) sd,.sl (.sl .u8) au,.sl .u8 en,.i ac,.i re,.i rs,.i ck,.b od,.sl (.sl (.sl .u8)) [],.i su,.i mc,.sl AB ix,.i l1,.i l2,.i l3,.i l4,.i l5,.i l6,.sl BP ks,.b st,.b sp,.sl (.sl (.sl .u8)) rb,.i ru,.i vc,.b sf,.i dr,.sl sesT ss,.sl objT ob,.sl .i64 rl,.sl .i64 wl,.i c,.sl .i64 hs,.sl AL az,.sl .i64 qi,.sl (.sl .u8) qb,.i se,.sl .u8 nn,.sl .u8 v,.i g],.i h] [])=some (.ret (.tup [.i 0,.b false]) []):=by
 have k:=jM sd au en ac re rs ck od su mc ix l1 l2 l3 l4 l5 l6 ks st sp rb ru vc sf dr ss ob rl wl h hix
 refine tq ?_
 rw[k]
 exact tq rfl
theorem A3V(se:Int)(nn v:List UInt8)(h:Int)(p1 p2 p3:Int)(p4 p5 s1 s2 s3:List UInt8)(hr:Int)(x2:List UInt8)(hh:512<=h/\h<=515)(hix:ix=[])(hol:ob.length<=1000)(hx:EX ob h=some ((p1,p2,p3,p4,p5),(s1,s2,s3),hr))(h4:p4.length=32)(h5:p5.length<=1000)(hru:ru ≠ -1):Y E0 (.call 195 [.agg [.sl (.sl .u8) sd,.sl (.sl .u8) au,.sl .u8 en,.i ac,.i re,.i rs,.i ck,.b od,.sl (.sl (.sl .u8)) [],.i su,.i mc,.sl AB ix,.i l1,.i l2,.i l3,.i l4,.i l5,.i l6,.sl BP ks,.b st,.b sp,.sl (.sl (.sl .u8)) rb,.i ru,.i vc,.b sf,.i dr,.sl sesT ss,.sl objT ob,.sl .i64 rl,.sl .i64 wl,.i c,.sl .i64 hs,.sl AL az,.sl .i64 qi,.sl (.sl .u8) qb,.i se,.sl .u8 nn,.sl .u8 v,.i h],pg 2 x2 p4 ru 31 0 0 false,.i 0] [])=some (.ret (.tup [.agg [.sl (.sl .u8) sd,.sl (.sl .u8) au,.sl .u8 en,.i ac,.i re,.i rs,.i ck,.b od,.sl (.sl (.sl .u8)) [],.i su,.i mc,.sl AB ix,.i l1,.i l2,.i l3,.i l4,.i l5,.i l6,.sl BP ks,.b st,.b sp,.sl (.sl (.sl .u8)) rb,.i ru,.i vc,.b sf,.i dr,.sl sesT ss,.sl objT ob,.sl .i64 rl,.sl .i64 wl],.i 0]) []):=by
 have k1:=ve sd au en ac re rs ck od su mc ix l1 l2 l3 l4 l5 l6 ks st sp rb ru vc sf dr ss ob rl wl h p1 p2 p3 p4 p5 s1 s2 s3 hr hh hix hol hx zaa h5
 have k2:=Yn sd au en ac re rs ck od su mc ix l1 l2 l3 l4 l5 l6 ks st sp rb ru vc sf dr ss ob rl wl c hs az qi qb se nn v h h hix
 have b1:Ak .and (BN 31 (BJ 0).toNat) 1=1:=by
  rw[show(BJ 0).toNat=0 from by rw[J5];rfl,J7 zaa];exact(Jq 1 zac _).trans zan
 refine tq ?_
 rw[k1]
 refine tq ?_
 rw[k2]
 conv=>lhs;whnf
 rw[Fh zaa]
 conv=>lhs;whnf
 rw[UY zaa]
 conv=>lhs;whnf
 rw[JK zaC]
 conv=>lhs;whnf
 rw[Jh zaa]
 conv=>lhs;whnf
 try dsimp -iota -beta -eta -zeta only
 rw[drw zai];conv=>lhs;whnf
 rw[Iw zaa]
 conv=>lhs;whnf
 rw[AU]
 conv=>lhs;whnf
 rw[Iw zaa]
 conv=>lhs;whnf
 rw[b1]
 conv=>lhs;whnf
 rw[JK zaa]
 conv=>lhs;whnf
 rw[Jh zaa]
 conv=>lhs;whnf
 rw[Ko zaa]
 conv=>lhs;whnf
 rw[AU]
 conv=>lhs;whnf
 rw[Jh zaa]
 conv=>lhs;whnf
 rw[DJ];conv=>lhs;whnf
 rw[WG zaC]
 conv=>lhs;whnf
 rw[DJ];conv=>lhs;whnf
theorem A1U(az:List (El AL))(qi:List Int)(qb:List (List UInt8))(se h:Int)(p1 p2 p3:Int)(p4 p5 s1 s2 s3:List UInt8)(hr:Int)(x2:List UInt8)(hh:512<=h/\h<=515)(hix:ix=[])(hol:ob.length<=1000)(hx:EX ob h=some ((p1,p2,p3,p4,p5),(s1,s2,s3),hr))(h4:p4.length=32)(h5:p5.length<=1000)(hru:ru ≠ -1)(hsl:ss.length<=1000)(hse:0<=se-768/\se-768<ss.length)(hsg:Ah ss (se-768)=some (2,x2,p4,ru,31,0,0,false)):Y E0 (.call 164 [.agg [.sl (.sl .u8) sd,.sl (.sl .u8) au,.sl .u8 en,.i ac,.i re,.i rs,.i ck,.b od,.sl (.sl (.sl .u8)) [],.i su,.i mc,.sl AB ix,.i l1,.i l2,.i l3,.i l4,.i l5,.i l6,.sl BP ks,.b st,.b sp,.sl (.sl (.sl .u8)) rb,.i ru,.i vc,.b sf,.i dr,.sl sesT ss,.sl objT ob,.sl .i64 rl,.sl .i64 wl],.i 0,rq c [h] ((se,nn,v)::az) qi qb] [])=some (.ret (.tup [.agg [.sl (.sl .u8) sd,.sl (.sl .u8) au,.sl .u8 en,.i ac,.i re,.i rs,.i ck,.b od,.sl (.sl (.sl .u8)) [],.i su,.i mc,.sl AB ix,.i l1,.i l2,.i l3,.i l4,.i l5,.i l6,.sl BP ks,.b st,.b sp,.sl (.sl (.sl .u8)) rb,.i ru,.i vc,.b sf,.i dr,.sl sesT ss,.sl objT ob,.sl .i64 rl,.sl .i64 wl],.i 0]) []):=by
 have k1:=A3V sd au en ac re rs ck od su mc ix l1 l2 l3 l4 l5 l6 ks st sp rb ru vc sf dr ss ob rl wl c [h] ((se,nn,v)::az) qi qb se nn v h p1 p2 p3 p4 p5 s1 s2 s3 hr x2 hh hix hol hx h4 h5 hru
 have k2:=X5 sd au en ac re rs ck od su mc ix l1 l2 l3 l4 l5 l6 ks st sp rb ru vc sf dr ss ob rl wl se 2 ru 31 0 0 x2 p4 false hsl hse hsg zaa
 refine tq ?_
 rw[k2]
 refine tq ?_
 rw[k1]
 exact tq rfl
theorem A3W(az:List (El AL))(qi:List Int)(qb:List (List UInt8))(se u l cm dl:Int)(n d:List UInt8)(b:Bool)(hsl:ss.length<=1000)(hse:0<=se-768/\se-768<ss.length)(hsg:Ah ss (se-768)=some (2,n,d,u,l,cm,dl,b)):Y E0 (.call 166 [.agg [.sl (.sl .u8) sd,.sl (.sl .u8) au,.sl .u8 en,.i ac,.i re,.i rs,.i ck,.b od,.sl (.sl (.sl .u8)) [],.i su,.i mc,.sl AB ix,.i l1,.i l2,.i l3,.i l4,.i l5,.i l6,.sl BP ks,.b st,.b sp,.sl (.sl (.sl .u8)) rb,.i ru,.i vc,.b sf,.i dr,.sl sesT ss,.sl objT ob,.sl .i64 rl,.sl .i64 wl],rq c hs ((se,nn,v)::az) qi qb] [])=some (.ret (.tup [.agg [.sl (.sl .u8) sd,.sl (.sl .u8) au,.sl .u8 en,.i ac,.i re,.i rs,.i ck,.b od,.sl (.sl (.sl .u8)) [],.i su,.i mc,.sl AB ix,.i l1,.i l2,.i l3,.i l4,.i l5,.i l6,.sl BP ks,.b st,.b sp,.sl (.sl (.sl .u8)) rb,.i ru,.i vc,.b sf,.i dr,.sl sesT (BL ss (se-768) A0H),.sl objT ob,.sl .i64 rl,.sl .i64 wl],.sl (.sl .u8) []]) []):=by
 have k2:=X5 sd au en ac re rs ck od su mc ix l1 l2 l3 l4 l5 l6 ks st sp rb ru vc sf dr ss ob rl wl se 2 u l cm dl n d b hsl hse hsg zaa
 have k3:=jF sd au en ac re rs ck od [] su mc ix l1 l2 l3 l4 l5 l6 ks st sp rb ru vc sf dr ss ob rl wl se 2 u l cm dl n d b hsl hse hsg zaa
 refine tq ?_
 rw[k2]
 refine tq ?_
 rw[k3]
 exact tq rfl
theorem Ky(is:List Int)(bs:List (List UInt8))(p1 p2 p3:Int)(p4 p5 s1 s2 s3:List UInt8)(hr:Int)(hh:512<=h/\h<=515)(hix:ix=[])(hol:ob.length<=1000)(hx:EX ob h=some ((p1,p2,p3,p4,p5),(s1,s2,s3),hr))(h4:p4.length<=1000)(h5:p5.length<=1000):Y E0 (.call 162 [.agg [.sl (.sl .u8) sd,.sl (.sl .u8) au,.sl .u8 en,.i ac,.i re,.i rs,.i ck,.b od,.sl (.sl (.sl .u8)) [],.i su,.i mc,.sl AB ix,.i l1,.i l2,.i l3,.i l4,.i l5,.i l6,.sl BP ks,.b st,.b sp,.sl (.sl (.sl .u8)) rb,.i ru,.i vc,.b sf,.i dr,.sl sesT ss,.sl objT ob,.sl .i64 rl,.sl .i64 wl],rq 13 [h] az is bs] [])=some (.ret (.b true) []):=by
 have hn:=mf sd au en ac re rs ck od su mc ix l1 l2 l3 l4 l5 l6 ks st sp rb ru vc sf dr ss ob rl wl h p1 p2 p3 p4 p5 s1 s2 s3 hr hh hix hol hx h4 h5
 have l0:=VI sd au en ac re rs ck od su mc ix l1 l2 l3 l4 l5 l6 ks st sp rb ru vc sf dr ss ob rl wl 13 [h] az is bs zan (fun x hx=>by simp at hx;subst hx;exact⟨_,hn⟩) 1 0 rfl
 have k2:=Pv sd au en ac re rs ck od [] su mc ix l1 l2 l3 l4 l5 l6 ks st sp rb ru vc sf dr ss ob rl wl h p1 p2 p3 p4 p5 s1 s2 s3 hr hol hx
 have e2:Aw [h]=1:=zaQ
 rw[show((List.length [h]:Nat):Int)=1 from rfl,show((0:Nat):Int)=0 from rfl] at l0
 refine tq ?_
 simp only[e2,Nat.reduceAdd];rw[l0]
 conv=>lhs;whnf
 rw[e2]
 refine tq ?_
 rw[k2]
 conv=>lhs;whnf
 (congr 3;simp only[Hq,JA,Io,JB,DJ,GZ,AC];first|rfl|(rw[decide_eq_decide];omega)|(simp;omega))
theorem X7(is:List Int)(bs:List (List UInt8))(p1 p2 p3:Int)(p4 p5 s1 s2 s3:List UInt8)(hr:Int)(hol:ob.length<=1000)(hx:EX ob h=some ((p1,p2,p3,p4,p5),(s1,s2,s3),hr))(h3:p1=3):Y E0 (.call 165 [.agg [.sl (.sl .u8) sd,.sl (.sl .u8) au,.sl .u8 en,.i ac,.i re,.i rs,.i ck,.b od,.sl (.sl (.sl .u8)) [],.i su,.i mc,.sl AB ix,.i l1,.i l2,.i l3,.i l4,.i l5,.i l6,.sl BP ks,.b st,.b sp,.sl (.sl (.sl .u8)) rb,.i ru,.i vc,.b sf,.i dr,.sl sesT ss,.sl objT ob,.sl .i64 rl,.sl .i64 wl],rq 13 [h] az is bs] [])=some (.ret (.tup [.agg [.sl (.sl .u8) sd,.sl (.sl .u8) au,.sl .u8 en,.i ac,.i re,.i rs,.i ck,.b od,.sl (.sl (.sl .u8)) [],.i su,.i mc,.sl AB ix,.i l1,.i l2,.i l3,.i l4,.i l5,.i l6,.sl BP ks,.b st,.b sp,.sl (.sl (.sl .u8)) rb,.i ru,.i vc,.b sf,.i dr,.sl sesT ss,.sl objT ob,.sl .i64 rl,.sl .i64 wl],Jw 0 [] [s3] []]) []):=by
 have k:=Zx sd au en ac re rs ck od [] su mc ix l1 l2 l3 l4 l5 l6 ks st sp rb ru vc sf dr ss ob rl wl 13 h [] az is bs p1 p2 p3 p4 p5 s1 s2 s3 hr hol zan hx h3
 refine tq ?_
 rw[k]
 exact tq rfl
theorem A3X(se:Int)(nn v:List UInt8)(p1 p2 p3:Int)(p4 p5 s1 s2 s3:List UInt8)(hr:Int)(x2:List UInt8)(hst:st=true)(hh:512<=h/\h<=515)(hix:ix=[])(hol:ob.length<=1000)(hx:EX ob h=some ((p1,p2,p3,p4,p5),(s1,s2,s3),hr))(h3:p1=3)(h4:p4.length=32)(h5:p5.length<=1000)(hru:ru ≠ -1)(hsl:ss.length<=1000)(hse:0<=se-768/\se-768<ss.length)(hsg:Ah ss (se-768)=some (2,x2,p4,ru,31,0,0,false))(hq:rqG 13 0 [h] [(se,nn,v)] [] []):Y E0 (.call 131 [.agg [.sl (.sl .u8) sd,.sl (.sl .u8) au,.sl .u8 en,.i ac,.i re,.i rs,.i ck,.b od,.sl (.sl (.sl .u8)) [],.i su,.i mc,.sl AB ix,.i l1,.i l2,.i l3,.i l4,.i l5,.i l6,.sl BP ks,.b st,.b sp,.sl (.sl (.sl .u8)) rb,.i ru,.i vc,.b sf,.i dr,.sl sesT ss,.sl objT ob,.sl .i64 rl,.sl .i64 wl],.i 0,rq 13 [h] [(se,nn,v)] [] []] [])=some (.ret (.tup [.agg [.sl (.sl .u8) sd,.sl (.sl .u8) au,.sl .u8 en,.i ac,.i re,.i rs,.i ck,.b od,.sl (.sl (.sl .u8)) [],.i su,.i mc,.sl AB ix,.i l1,.i l2,.i l3,.i l4,.i l5,.i l6,.sl BP ks,.b st,.b sp,.sl (.sl (.sl .u8)) rb,.i ru,.i vc,.b sf,.i dr,.sl sesT (BL ss (se-768) A0H),.sl objT ob,.sl .i64 rl,.sl .i64 wl],Jw 0 [] [s3] []]) []):=by
 have k1:=P9 hq
 have k2:=Ky sd au en ac re rs ck od su mc ix l1 l2 l3 l4 l5 l6 ks st sp rb ru vc sf dr ss ob rl wl h [(se,nn,v)] [] [] p1 p2 p3 p4 p5 s1 s2 s3 hr hh hix hol hx zaa h5
 have k3:=A1U sd au en ac re rs ck od su mc ix l1 l2 l3 l4 l5 l6 ks st sp rb ru vc sf dr ss ob rl wl 13 nn v [] [] [] se h p1 p2 p3 p4 p5 s1 s2 s3 hr x2 hh hix hol hx h4 h5 hru hsl hse hsg
 have k4:=X7 sd au en ac re rs ck od su mc ix l1 l2 l3 l4 l5 l6 ks st sp rb ru vc sf dr ss ob rl wl h [(se,nn,v)] [] [] p1 p2 p3 p4 p5 s1 s2 s3 hr hol hx h3
 have k5:=A3W sd au en ac re rs ck od su mc ix l1 l2 l3 l4 l5 l6 ks st sp rb ru vc sf dr ss ob rl wl 13 [h] nn v [] [] [] se ru 31 0 0 x2 p4 false hsl hse hsg
 subst hst
 refine tq ?_
 rw[k1]
 refine tq ?_
 rw[k2]
 refine tq ?_
 rw[k3]
 refine tq ?_
 rw[k4]
 conv=>lhs;whnf
 rw[AU]
 conv=>lhs;whnf
 rw[Jh zaa]
 conv=>lhs;whnf
 try dsimp -iota -beta -eta -zeta only
 rw[Aj]
 rw[k5]
 exact tq rfl
end
end Go.Proofs.YtanagnimhaemgaaGreatDoor
