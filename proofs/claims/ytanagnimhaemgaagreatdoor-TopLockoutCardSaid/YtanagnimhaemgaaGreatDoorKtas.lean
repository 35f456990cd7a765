/-
  Own texts, laid together for this claim: contracts of functions of the program and its references, used by the statements of this seat.
-/
import Derived.Test.YtanagnimhaemgaaGreatDoorKtac
import Derived.Test.YtanagnimhaemgaaGreatDoorKtad
import Derived.Test.YtanagnimhaemgaaGreatDoorKtaf
import Derived.Test.YtanagnimhaemgaaGreatDoorKtag
import Derived.Test.YtanagnimhaemgaaGreatDoorKtaj
import Derived.Test.YtanagnimhaemgaaGreatDoorKtak
import Derived.Test.YtanagnimhaemgaaGreatDoorKtal
import Derived.Test.YtanagnimhaemgaaGreatDoorKtam
import Derived.Test.YtanagnimhaemgaaGreatDoorKtan
import Derived.Test.YtanagnimhaemgaaGreatDoorKtap
import Derived.Test.YtanagnimhaemgaaGreatDoorKtaq
set_option linter.all false
set_option maxHeartbeats 40000000
set_option maxRecDepth 100000
namespace Go.Proofs.YtanagnimhaemgaaGreatDoor
open Go Go.Ax Go.Eng
section
attribute [local irreducible] Bl CS CU CJ Bh Ak CV Du EN E5 EH Be BN CE Bz and' CG CO BC Ag Ar BF BG AY Aa AP AX CW Dv CX DT C9 BJ BD BA BB Au AQ Az Ac Aw Ah CY BL Bi BR BI CB CZ CP fits Cb CQ A8 AA AZ
attribute [local irreducible] BK Dl
theorem A39:Y E0 (.call 115 [] [])=some (.ret (.agg [.i 0,.i 5,.i 100,.i 0,.i 0,.i 1000]) []):=by
 refine tq ?_
 with_reducible rfl
theorem uk(en:List UInt8)(a:Int)(he:en.length=32)(e:List (List UInt8)):Y E0 (.loop 75 0 0 3 [(0,AV.sl Ty.u8 en),(4,AV.pa 0 0),(6,AV.pa 1 0),(24,AV.i 0)] [(0,some (Rs.var [AV.nil,AV.nil,AV.nil,AV.i 0,AV.i 0,AV.i 0,AV.i 0,AV.b false,AV.nil,AV.i 0,AV.i 0,AV.nil,AV.i 0,AV.i 0,AV.i 0,AV.i 0,AV.i 0,AV.i 0,AV.nil])),(1,some (Rs.var [AV.nil,AV.nm 2,AV.nil,AV.i a,AV.i 0,AV.i 0,AV.i 0,AV.b true,AV.nil,AV.i 0,AV.i 0,AV.nil,AV.i 0,AV.i 5,AV.i 100,AV.i 0,AV.i 0,AV.i 1000,AV.nil])),(2,some (Rs.row 22 Ty.u8.sl e))])=some (.fin (.exit 0) 4 [(0,AV.sl Ty.u8 en),(4,AV.pa 0 0),(6,AV.pa 1 0)] [(0,some (Rs.var [AV.nil,AV.nil,AV.nil,AV.i 0,AV.i 0,AV.i 0,AV.i 0,AV.b false,AV.nil,AV.i 0,AV.i 0,AV.nil,AV.i 0,AV.i 0,AV.i 0,AV.i 0,AV.i 0,AV.i 0,AV.nil])),(1,some (Rs.var [AV.nm 2,AV.nm 3,AV.nil,AV.i a,AV.i 0,AV.i 0,AV.i 0,AV.b true,AV.nil,AV.i 0,AV.i 0,AV.nil,AV.i 0,AV.i 5,AV.i 100,AV.i 0,AV.i 0,AV.i 1000,AV.nil])),(2,some (Rs.row 22 Ty.u8.sl (Aq en))),(3,some (Rs.row 22 Ty.u8.sl e))]):=by
 rw[AU];conv=>lhs;whnf
 refine tq ?_
 rw[FV _ _ _ _ Am Am Am]
 refine tq ?_
 refine tq ?_
 rw[FV _ _ _ _ Am Am Am]
 refine tq ?_
 refine tq ?_
 rw[FV _ _ _ _ Am Am Am]
 refine tq ?_
 refine tq ?_
 (rw[Ap,Ap,EM,EM,EM];rfl)
theorem A3A(en:List UInt8)(a:Int)(he:en.length=32)(ha:0<=a/\a<=3):Y E0 (.call 75 [.sl .u8 en,.i a] [])=some (.ret (.tup [.agg (qK (Aq en) [[],[],[],[]] (BK en Bc [] 32) a 0 0 0 true [] 0 0 [] 0 5 100 0 0 1000 []),.i 0]) []):=by
 have h:=uk en a he [[],[],[],[]]
 have e4:BR 4 ([]:List UInt8)=[[],[],[],[]]:=by rw[FO];rfl
 refine tq ?_
 rw[A39]
 refine tq ?_
 rw[e4,h]
 refine tq ?_
 rw[FV _ _ _ _ Am Am Am]
 refine tq ?_
 rfl
variable (sd au:List (List UInt8))(en:List UInt8)(ac re rs ck:Int)(od:Bool)(sb:List (List (List UInt8)))(su mc:Int)(ix:List (El AB))(l1 l2 l3 l4 l5 l6:Int)(ks:List (El BP))(st sp:Bool)(rb:List (List (List UInt8)))(ru vc:Int)(sf:Bool)(dr:Int)(ss:List (El sesT))(ob:List (El objT))(rl wl:List Int)
theorem ul(h:st=false/\sp=false)(ha:ac=2)(hre:0<=re/\re<=1000000):Y E0 (.call 184 [(sX sd au en ac re rs ck od sb su mc ix l1 l2 l3 l4 l5 l6 ks st sp rb ru vc sf dr ss ob rl wl),.i 0] [])=some (.ret (.tup [(sX sd au en ac (re+1) 0 ck false [] 0 mc ix l1 l2 l3 l4 l5 l6 ks true sp (BZ 2) 0 ck od dr ss ob rl wl),.i 0]) []):=by
 obtain⟨rfl,rfl⟩:=h
 subst ha
 refine tp ?_
 rw[A0f]
 exact tq rfl
theorem Zp(ar:List (List UInt8))(wr cu to:Int)(of on:Bool)(nx:Int)(sd au:List (List UInt8))(en:List UInt8)(ac re rs ck:Int)(od:Bool)(sb:List (List (List UInt8)))(su mc:Int)(ix:List (El AB))(l1 l2 l3 l4 l5 l6:Int)(ks:List (El BP))(st sp:Bool)(rb:List (List (List UInt8)))(ru vc:Int)(sf:Bool)(dr:Int)(ss:List (El sesT))(ob:List (El objT))(rl wl:List Int):Y E0 (.call 53 [Gm ar wr cu to of sd au en ac re rs ck od sb su mc ix l1 l2 l3 l4 l5 l6 ks st sp rb ru vc sf dr ss ob rl wl on nx] [])=some (.ret (lI ar wr cu to true false nx) []):=by
 refine tq ?_
 refine tq ?_
 with_reducible rfl
theorem A3B(ar:List (List UInt8))(wr cu to:Int)(of on:Bool)(nx:Int)(sd au:List (List UInt8))(en:List UInt8)(ac re rs ck:Int)(od:Bool)(sb:List (List (List UInt8)))(su mc:Int)(ix:List (El AB))(l1 l2 l3 l4 l5 l6:Int)(ks:List (El BP))(st sp:Bool)(rb:List (List (List UInt8)))(ru vc:Int)(sf:Bool)(dr:Int)(ss:List (El sesT))(ob:List (El objT))(rl wl:List Int):Y E0 (.call 26 [Gm ar wr cu to of sd au en ac re rs ck od sb su mc ix l1 l2 l3 l4 l5 l6 ks st sp rb ru vc sf dr ss ob rl wl on nx] [])=some (.ret (lI ar wr cu to true false nx) []):=by
 refine tq ?_
 rw[Zp ..]
 exact tq rfl
theorem Lm(ar:List (List UInt8))(wr cu to:Int)(of on:Bool)(nx:Int)(sd au:List (List UInt8))(en:List UInt8)(ac re rs ck:Int)(od:Bool)(sb:List (List (List UInt8)))(su mc:Int)(ix:List (El AB))(l1 l2 l3 l4 l5 l6:Int)(ks:List (El BP))(st sp:Bool)(rb:List (List (List UInt8)))(ru vc:Int)(sf:Bool)(dr:Int)(ss:List (El sesT))(ob:List (El objT))(rl wl:List Int):Y E0 (.call 48 [Gm ar wr cu to of sd au en ac re rs ck od sb su mc ix l1 l2 l3 l4 l5 l6 ks st sp rb ru vc sf dr ss ob rl wl on nx] [])=some (.ret (.b (on && !of)) []):=by
 cases on
 ·refine tq ?_
  rfl
 ·refine tq ?_
  rfl
theorem A5I(ar:List (List UInt8))(wr cu to:Int)(nx q:Int)(sd au:List (List UInt8))(en:List UInt8)(ac re rs ck:Int)(od:Bool)(su mc l1 l2 l3 l4 l5 l6:Int)(har:Q5 ar q (encS sd au en ac re rs ck od [] su mc [] l1 l2 l3 l4 l5 l6 []))(hac:0<=ac/\ac<=3)(hsd:sd.length=3)(hau:au.length=4)(hsm:∀ x∈sd,x.length<=1000)(ham:∀ x∈au,x.length<=1000)(hen:en.length<=1000)(hre:0<=re/\re<=1000000)(hrs:0<=rs/\rs<=1000000)(hck:0<=ck/\ck<=2000000000000)(hsu:0<=su/\su<=1000000)(hmc:0<=mc/\mc<=2000000000000)(hl:Zl l1 l2 l3 l4 l5 l6):Y E0 (.call 25 [lI ar wr cu to true false nx] [])=some (.ret (.tup [Gm ar 0 0 0 false sd au en ac re rs ck od [] su mc [] l1 l2 l3 l4 l5 l6 [] false false [] 0 0 false 0 (List.replicate 3 (0,[],[],0,0,0,0,false)) (List.replicate 3 ((0,0,0,[],[]),([],[],[]),0)) [] [] true (q+1),.i 0]) []):=by
 have h1:=KO ar q _ 0 0 0 har
 have h2:=fD sd au en ac re rs ck od su mc l1 l2 l3 l4 l5 l6 hac hsd hau hsm ham hen hre hrs hck hsu hmc hl
 have hq:1<=q/\q<=900000:=⟨har.2.1,har.2.2.1⟩
 have h3:=Lm ar wr cu to true false nx [] [] [] 0 0 0 0 false [] 0 0 [] 0 0 0 0 0 0 [] false false [] 0 0 false 0 [] [] [] []
 refine tq ?_
 rw[h3]
 refine tq ?_
 rw[Uh ..]
 refine tq ?_
 rw[h1]
 refine tq ?_
 rw[h2]
 refine tq ?_
 rw[qL ..]
 exact tq rfl
end
section
attribute [local irreducible] Bl CS CU CJ Bh Ak CV Du EN E5 EH Be BN CE Bz and' CG CO BC Ag Ar BF BG AY Aa AP AX CW Dv CX DT C9 BJ BD BA BB Au AQ Az Ac Aw Ah CY BL Bi BR BI CB CZ CP fits Cb CQ A8 AA AZ
attribute [local irreducible] BK Dl Cj nameB ET Dz Af
abbrev rgA(rb:List (List (List UInt8)))(u:Int):AV:=.agg [.sl (.sl (.sl .u8)) rb,.i u]
theorem uz(b:List (List UInt8))(l:List (List (List UInt8)))(u:Int)(hl:l.length<=100):Y E0 (.call 68 [rgA (b::l) u,.i 0] [])=some (.ret (.b (decide (0<b.length))) []):=by
 refine tq ?_
 (rw[Io,AC];simp)
theorem Ya(c b:List (List UInt8))(l:List (List (List UInt8)))(u:Int)(hl:l.length<=100):Y E0 (.call 68 [rgA (c::b::l) u,.i 1] [])=some (.ret (.b (decide (0<b.length))) []):=by
 refine tq ?_
 (rw[Io,AC];simp)
theorem Yb(u k:Int)(hk:0<=k):Y E0 (.call 68 [rgA [] u,.i k] [])=some (.ret (.b false) []):=by
 exact tq rfl
theorem Uj{n:Nat}{b:List (List UInt8)}(h:b=[]\/SK n b)(hn:n<=1000):b.length<=16/\∀ x∈b,x.length<=1000:=by
 rcases h with rfl|⟨h1,h2⟩
 ·simp
 ·exact⟨by omega,fun x hx=>by rw[h2 x hx];exact hn⟩
theorem qP{n:Nat}{b:List (List UInt8)}(h:b=[]\/SK n b):b.length=0\/b.length=16:=by
 rcases h with rfl|h
 ·exact .inl rfl
 ·exact .inr h.1
end
section
attribute [local irreducible] Bl CS CU CJ Bh Ak CV Du EN E5 EH Be BN CE Bz and' CG CO BC Ag Ar BF BG AY Aa AP AX CW Dv CX DT C9 BJ BD BA BB Au AQ Az Ac Aw Ah CY BL Bi BR BI CB CZ CP fits Cb CQ A8 AA AZ
attribute [local irreducible] BK Dl Cj nameB ET Dz Af
abbrev wK(k s0 s1:Int)(d:List UInt8)(n o:Int)(x y z:List UInt8)(bs:List (List UInt8)):AV:=.agg [.i k,.i s0,.i s1,.sl .u8 d,.i n,.i o,.sl .u8 x,.sl .u8 y,.sl .u8 z,.sl (.sl .u8) bs]
end
section
attribute [local irreducible] Bl CS CU CJ Bh Ak CV Du EN E5 EH Be BN CE Bz and' CG CO BC Ag Ar BF BG AY Aa AP AX CW Dv CX DT C9 BJ BD BA BB Au AQ Az Ac Aw Ah CY BL Bi BR BI CB CZ CP fits Cb CQ A8 AA AZ
theorem Jg:Y E0 (.call 156 [] [])=some (.ret (.agg [.i (-2),.i 0,.i 0,.i 0,.i 0,.i 0,.i 1,.i 0,.i 0,.i 0,.i 1,.i 0,.i (-2),.i 0,.i 0,.i 0,.i 0,.i 0,.i 0,.i 0,.i 0,.i 0,.i 2,.i 0,.i 0,.i 0,.i 1,.i 2,.i 0,.i 0,.i 1,.i 1,.i 0,.i 0,.i 1,.i 0,.i 1,.i 1,.i 3,.i 3,.i 1,.i 1,.i 3,.i 3,.i 1,.i 1,.i 0,.i 2,.i 0,.i 0,.i 1,.i 0,.i 1,.i 1,.i 0,.i 0,.i 1,.i 1,.i 0,.i 1,.i 1,.i 1,.i 2,.i 1,.i 0,.i 0,.i 1,.i 0,.i 0,.i 0,.i 6,.i (-1),.i 1,.i 1,.i 2,.i 1,.i 0,.i 0,.i 1,.i 3,.i 0,.i 0,.i 1,.i 0,.i 1,.i 1,.i 4,.i 2,.i 1,.i 1,.i 1,.i 0,.i 2,.i 1,.i 1,.i 1,.i 2,.i 1,.i 2,.i 0,.i 2,.i 1,.i 0,.i 0,.i 2,.i 1,.i 0,.i 1,.i 2,.i 1,.i 0,.i 1,.i 2,.i 1,.i 0,.i 0,.i 2,.i 1,.i 0,.i 0,.i 1,.i 1,.i 0,.i 1,.i 1,.i 1,.i 0,.i 0,.i 1,.i 1,.i 0,.i 0,.i 1,.i 1,.i 3,.i 0]) []):=by
 rw[AU]
 kernel_rfl
end
section
attribute [local irreducible] Bl CS CU CJ Bh Ak CV Du EN E5 EH Be BN CE Bz and' CG CO BC Ag Ar BF BG AY Aa AP AX CW Dv CX DT C9 BJ BD BA BB Au AQ Az Ac Aw Ah CY BL Bi BR BI CB CZ CP fits Cb CQ A8 AA AZ
theorem Yh(h:Int)(hh:0<=h/\h<=3)(ix:List (El AB))(hl:ix.length<=10)(hx:∀ x∈ix,NT x):∀(k j:Nat),j+k=ix.length ->
  Y E0 (.loop 183 0 0 0 [(1,.i h),(10,.sl AB ix),(11,.i (ix.length:Int)),(12,.i (j:Int))] [])=some (.fin (.exit 0) 0 [] [])
 | 0,j,hj=>by
  obtain rfl:j=ix.length:=zaa
  rw[AU];conv=>lhs;whnf
  refine tq ?_
  with_reducible rfl
 | k+1,j,hj=>by
  obtain⟨x,hm,hg⟩:=Gp (l:=ix) (i:=(j:Int)) zaa
  have ho:=hx x hm
  obtain⟨x1,x2,x3,x4,x5,x6,x7,x8⟩:=x
  have h1:(0:Int)<=(x1:Int):=ho.1
  have hne:h-256≠(x1:Int):=zaa
  have ih:=Yh h hh ix hl hx k (j+1) zaa
  rw[show((j+1:Nat):Int)=(j:Int)+1 from by omega] at ih
  rw[AU];conv=>lhs;whnf
  refine to ?_
  rw[hg]
  conv=>lhs;whnf
  try dsimp -iota -beta -eta -zeta only
  rw[EI zaa]
  rw[JK hne]
  refine tq ?_
  exact ih
theorem Yi(sd:List (List UInt8))(au:List (List UInt8))(en:List UInt8)(ac:Int)(re:Int)(rs:Int)(ck:Int)(od:Bool)(su:Int)(mc:Int)(ix:List (El AB))(l1:Int)(l2:Int)(l3:Int)(l4:Int)(l5:Int)(l6:Int)(ks:List (El BP))(st:Bool)(sp:Bool)(rb:List (List (List UInt8)))(ru:Int)(vc:Int)(sf:Bool)(dr:Int)(ss:List (El sesT))(ob:List (El objT))(rl:List Int)(wl:List Int)(h:Int)(hh:0<=h/\h<=3)(hl:ix.length<=10)(hx:∀ x∈ix,NT x):Y E0 (.call 183 [.agg [.sl (.sl .u8) sd,.sl (.sl .u8) au,.sl .u8 en,.i ac,.i re,.i rs,.i ck,.b od,.sl (.sl (.sl .u8)) [],.i su,.i mc,.sl AB ix,.i l1,.i l2,.i l3,.i l4,.i l5,.i l6,.sl BP ks,.b st,.b sp,.sl (.sl (.sl .u8)) rb,.i ru,.i vc,.b sf,.i dr,.sl sesT ss,.sl objT ob,.sl .i64 rl,.sl .i64 wl],.i h] [])=some (.ret (.tup [.i 0,.i 7]) []):=by
 have l0:=Yh h hh ix hl hx ix.length 0 zaa
 rw[show((0:Nat):Int)=0 from rfl,<-AC] at l0
 refine tq ?_
 rw[l0]
 exact tq rfl
theorem Qe(sd:List (List UInt8))(au:List (List UInt8))(en:List UInt8)(ac:Int)(re:Int)(rs:Int)(ck:Int)(od:Bool)(su:Int)(mc:Int)(ix:List (El AB))(l1:Int)(l2:Int)(l3:Int)(l4:Int)(l5:Int)(l6:Int)(ks:List (El BP))(st:Bool)(sp:Bool)(rb:List (List (List UInt8)))(ru:Int)(vc:Int)(sf:Bool)(dr:Int)(ss:List (El sesT))(ob:List (El objT))(rl:List Int)(wl:List Int)(h:Int)(v:List UInt8)(hh:0<=h/\h<=3)(hl:ix.length<=10)(hx:∀ x∈ix,NT x)(ho:ob.length<=1000)(ha:au.length=4)(hv:Ah au h=some v):Y E0 (.call 216 [.agg [.sl (.sl .u8) sd,.sl (.sl .u8) au,.sl .u8 en,.i ac,.i re,.i rs,.i ck,.b od,.sl (.sl (.sl .u8)) [],.i su,.i mc,.sl AB ix,.i l1,.i l2,.i l3,.i l4,.i l5,.i l6,.sl BP ks,.b st,.b sp,.sl (.sl (.sl .u8)) rb,.i ru,.i vc,.b sf,.i dr,.sl sesT ss,.sl objT ob,.sl .i64 rl,.sl .i64 wl],.i h] [])=some (.ret (.tup [.agg [.sl .u8 (YO h),.sl .u8 v,.sl .u8 [],.b false],.i 0]) []):=by
 have hi:=Yi sd au en ac re rs ck od su mc ix l1 l2 l3 l4 l5 l6 ks st sp rb ru vc sf dr ss ob rl wl h hh hl hx
 have hb:=Yf sd au en ac re rs ck od [] su mc ix l1 l2 l3 l4 l5 l6 ks st sp rb ru vc sf dr ss ob rl wl h ho zaa (by rw[EX,if_neg zaa])
 refine tq ?_
 rw[hi]
 refine tq ?_
 rw[hb]
 refine tq ?_
 rw[A0Y _]
 refine tq ?_
 rw[hv]
 exact tq rfl
theorem mJ(sd:List (List UInt8))(au:List (List UInt8))(en:List UInt8)(ac:Int)(re:Int)(rs:Int)(ck:Int)(od:Bool)(su:Int)(mc:Int)(ix:List (El AB))(l1:Int)(l2:Int)(l3:Int)(l4:Int)(l5:Int)(l6:Int)(ks:List (El BP))(st:Bool)(sp:Bool)(rb:List (List (List UInt8)))(ru:Int)(vc:Int)(sf:Bool)(dr:Int)(ss:List (El sesT))(ob:List (El objT))(rl:List Int)(wl:List Int)(h:Int)(v:List UInt8)(hh:0<=h/\h<=3)(hl:ix.length<=10)(hx:∀ x∈ix,NT x)(ho:ob.length<=1000)(ha:au.length=4)(hv:Ah au h=some v):Y E0 (.call 181 [.agg [.sl (.sl .u8) sd,.sl (.sl .u8) au,.sl .u8 en,.i ac,.i re,.i rs,.i ck,.b od,.sl (.sl (.sl .u8)) [],.i su,.i mc,.sl AB ix,.i l1,.i l2,.i l3,.i l4,.i l5,.i l6,.sl BP ks,.b st,.b sp,.sl (.sl (.sl .u8)) rb,.i ru,.i vc,.b sf,.i dr,.sl sesT ss,.sl objT ob,.sl .i64 rl,.sl .i64 wl],.i h] [])=some (.ret (.tup [.sl .u8 (YO h),.i 0]) []):=by
 have hf:=Qe sd au en ac re rs ck od su mc ix l1 l2 l3 l4 l5 l6 ks st sp rb ru vc sf dr ss ob rl wl h v hh hl hx ho ha hv
 refine tq ?_
 rw[hf]
 exact tq rfl
theorem vO(sd:List (List UInt8))(au:List (List UInt8))(en:List UInt8)(ac:Int)(re:Int)(rs:Int)(ck:Int)(od:Bool)(su:Int)(mc:Int)(ix:List (El AB))(l1:Int)(l2:Int)(l3:Int)(l4:Int)(l5:Int)(l6:Int)(ks:List (El BP))(st:Bool)(sp:Bool)(rb:List (List (List UInt8)))(ru:Int)(vc:Int)(sf:Bool)(dr:Int)(ss:List (El sesT))(ob:List (El objT))(rl:List Int)(wl:List Int)(h:Int)(v:List UInt8)(hh:0<=h/\h<=3)(hl:ix.length<=10)(hx:∀ x∈ix,NT x)(ho:ob.length<=1000)(ha:au.length=4)(hv:Ah au h=some v):Y E0 (.call 237 [.agg [.sl (.sl .u8) sd,.sl (.sl .u8) au,.sl .u8 en,.i ac,.i re,.i rs,.i ck,.b od,.sl (.sl (.sl .u8)) [],.i su,.i mc,.sl AB ix,.i l1,.i l2,.i l3,.i l4,.i l5,.i l6,.sl BP ks,.b st,.b sp,.sl (.sl (.sl .u8)) rb,.i ru,.i vc,.b sf,.i dr,.sl sesT ss,.sl objT ob,.sl .i64 rl,.sl .i64 wl],.i h] [])=some (.ret (.tup [.sl .u8 v,.i 0]) []):=by
 have hf:=Qe sd au en ac re rs ck od su mc ix l1 l2 l3 l4 l5 l6 ks st sp rb ru vc sf dr ss ob rl wl h v hh hl hx ho ha hv
 refine tq ?_
 rw[hf]
 exact tq rfl
theorem mM(sd:List (List UInt8))(au:List (List UInt8))(en:List UInt8)(ac:Int)(re:Int)(rs:Int)(ck:Int)(od:Bool)(su:Int)(mc:Int)(ix:List (El AB))(l1:Int)(l2:Int)(l3:Int)(l4:Int)(l5:Int)(l6:Int)(ks:List (El BP))(st:Bool)(sp:Bool)(rb:List (List (List UInt8)))(ru:Int)(vc:Int)(sf:Bool)(dr:Int)(ss:List (El sesT))(ob:List (El objT))(rl:List Int)(wl:List Int)(h:Int)(v:List UInt8)(hh:0<=h/\h<=3)(hl:ix.length<=10)(hx:∀ x∈ix,NT x)(ho:ob.length<=1000)(ha:au.length=4)(hv:Ah au h=some v):Y E0 (.call 293 [.agg [.sl (.sl .u8) sd,.sl (.sl .u8) au,.sl .u8 en,.i ac,.i re,.i rs,.i ck,.b od,.sl (.sl (.sl .u8)) [],.i su,.i mc,.sl AB ix,.i l1,.i l2,.i l3,.i l4,.i l5,.i l6,.sl BP ks,.b st,.b sp,.sl (.sl (.sl .u8)) rb,.i ru,.i vc,.b sf,.i dr,.sl sesT ss,.sl objT ob,.sl .i64 rl,.sl .i64 wl],.i h] [])=some (.ret (.b false) []):=by
 have hf:=Qe sd au en ac re rs ck od su mc ix l1 l2 l3 l4 l5 l6 ks st sp rb ru vc sf dr ss ob rl wl h v hh hl hx ho ha hv
 refine tq ?_
 rw[hf]
 exact tq rfl
end
section
attribute [local irreducible] Bl CS CU CJ Bh Ak CV Du EN E5 EH Be BN CE Bz and' CG CO BC Ag Ar BF BG AY Aa AP AX CW Dv CX DT C9 BJ BD BA BB Au AQ Az Ac Aw Ah CY BL Bi BR BI CB CZ CP fits Cb CQ A8 AA AZ
theorem Yj(sd:List (List UInt8))(au:List (List UInt8))(en:List UInt8)(ac:Int)(re:Int)(rs:Int)(ck:Int)(od:Bool)(su:Int)(mc:Int)(ix:List (El AB))(l1:Int)(l2:Int)(l3:Int)(l4:Int)(l5:Int)(l6:Int)(ks:List (El BP))(st:Bool)(sp:Bool)(rb:List (List (List UInt8)))(ru:Int)(vc:Int)(sf:Bool)(dr:Int)(ss:List (El sesT))(ob:List (El objT))(rl:List Int)(wl:List Int)(c:Int)(hs:List Int)(az:List (El AL))(qi:List Int)(qb:List (List UInt8))(se:Int)(nn v:List UInt8)(h:Int):Y E0 (.call 244 [.agg [.sl (.sl .u8) sd,.sl (.sl .u8) au,.sl .u8 en,.i ac,.i re,.i rs,.i ck,.b od,.sl (.sl (.sl .u8)) [],.i su,.i mc,.sl AB ix,.i l1,.i l2,.i l3,.i l4,.i l5,.i l6,.sl BP ks,.b st,.b sp,.sl (.sl (.sl .u8)) rb,.i ru,.i vc,.b sf,.i dr,.sl sesT ss,.sl objT ob,.sl .i64 rl,.sl .i64 wl,.i c,.sl .i64 hs,.sl AL az,.sl .i64 qi,.sl (.sl .u8) qb,.i se,.sl .u8 nn,.sl .u8 v,.i h]] [])=some (.ret (.i vc) []):=by
 refine tq ?_
 with_reducible rfl
theorem A1L(sd:List (List UInt8))(au:List (List UInt8))(en:List UInt8)(ac:Int)(re:Int)(rs:Int)(ck:Int)(od:Bool)(su:Int)(mc:Int)(ix:List (El AB))(l1:Int)(l2:Int)(l3:Int)(l4:Int)(l5:Int)(l6:Int)(ks:List (El BP))(st:Bool)(sp:Bool)(rb:List (List (List UInt8)))(ru:Int)(vc:Int)(sf:Bool)(dr:Int)(ss:List (El sesT))(ob:List (El objT))(rl:List Int)(wl:List Int)(c:Int)(hs:List Int)(az:List (El AL))(qi:List Int)(qb:List (List UInt8))(se:Int)(nn v:List UInt8)(h:Int)(hh:0<=h/\h<=3)(hl:ix.length<=10)(hx:∀ x∈ix,NT x):Y E0 (.call 242 [.agg [.sl (.sl .u8) sd,.sl (.sl .u8) au,.sl .u8 en,.i ac,.i re,.i rs,.i ck,.b od,.sl (.sl (.sl .u8)) [],.i su,.i mc,.sl AB ix,.i l1,.i l2,.i l3,.i l4,.i l5,.i l6,.sl BP ks,.b st,.b sp,.sl (.sl (.sl .u8)) rb,.i ru,.i vc,.b sf,.i dr,.sl sesT ss,.sl objT ob,.sl .i64 rl,.sl .i64 wl,.i c,.sl .i64 hs,.sl AL az,.sl .i64 qi,.sl (.sl .u8) qb,.i se,.sl .u8 nn,.sl .u8 v,.i h],.i h] [])=some (.ret (.tup [.i 0,.b false]) []):=by
 have hi:=Yi sd au en ac re rs ck od su mc ix l1 l2 l3 l4 l5 l6 ks st sp rb ru vc sf dr ss ob rl wl h hh hl hx
 refine tq ?_
 rw[hi]
 exact tq rfl
theorem A1M(sd:List (List UInt8))(au:List (List UInt8))(en:List UInt8)(ac:Int)(re:Int)(rs:Int)(ck:Int)(od:Bool)(su:Int)(mc:Int)(ix:List (El AB))(l1:Int)(l2:Int)(l3:Int)(l4:Int)(l5:Int)(l6:Int)(ks:List (El BP))(st:Bool)(sp:Bool)(rb:List (List (List UInt8)))(ru:Int)(vc:Int)(sf:Bool)(dr:Int)(ss:List (El sesT))(ob:List (El objT))(rl:List Int)(wl:List Int)(c:Int)(hs:List Int)(az:List (El AL))(qi:List Int)(qb:List (List UInt8))(se:Int)(nn v:List UInt8)(h:Int)(hh:0<=h/\h<=3)(hl:ix.length<=10)(hx:∀ x∈ix,NT x)(ho:ob.length<=1000)(hc:c<23\/29<c):Y E0 (.call 235 [.agg [.sl (.sl .u8) sd,.sl (.sl .u8) au,.sl .u8 en,.i ac,.i re,.i rs,.i ck,.b od,.sl (.sl (.sl .u8)) [],.i su,.i mc,.sl AB ix,.i l1,.i l2,.i l3,.i l4,.i l5,.i l6,.sl BP ks,.b st,.b sp,.sl (.sl (.sl .u8)) rb,.i ru,.i vc,.b sf,.i dr,.sl sesT ss,.sl objT ob,.sl .i64 rl,.sl .i64 wl,.i c,.sl .i64 hs,.sl AL az,.sl .i64 qi,.sl (.sl .u8) qb,.i se,.sl .u8 nn,.sl .u8 v,.i h]] [])=some (.ret (.b false) []):=by
 have hi:=A1L sd au en ac re rs ck od su mc ix l1 l2 l3 l4 l5 l6 ks st sp rb ru vc sf dr ss ob rl wl c hs az qi qb se nn v h hh hl hx
 have hb:=Yf sd au en ac re rs ck od [] su mc ix l1 l2 l3 l4 l5 l6 ks st sp rb ru vc sf dr ss ob rl wl h ho zaa (by rw[EX,if_neg zaa])
 rcases hc with hc|hc
 ·by_cases h1:h=1
  ·subst h1
   refine tq ?_
   rw[hb]
   refine tq ?_
   rw[hi]
   exact tq rfl
  ·refine tq ?_
   rw[hb]
   refine tq ?_
   rw[hi]
   exact tq rfl
 ·by_cases h1:h=1
  ·subst h1
   refine tq ?_
   rw[hb]
   refine tq ?_
   rw[hi]
   exact tq rfl
  ·refine tq ?_
   rw[hb]
   refine tq ?_
   rw[hi]
   exact tq rfl
theorem A1N(sd:List (List UInt8))(au:List (List UInt8))(en:List UInt8)(ac:Int)(re:Int)(rs:Int)(ck:Int)(od:Bool)(su:Int)(mc:Int)(ix:List (El AB))(l1:Int)(l2:Int)(l3:Int)(l4:Int)(l5:Int)(l6:Int)(ks:List (El BP))(st:Bool)(sp:Bool)(rb:List (List (List UInt8)))(ru:Int)(vc:Int)(sf:Bool)(dr:Int)(ss:List (El sesT))(ob:List (El objT))(rl:List Int)(wl:List Int)(c:Int)(hs:List Int)(az:List (El AL))(qi:List Int)(qb:List (List UInt8))(se:Int)(nn v:List UInt8)(h:Int)(hh:0<=h/\h<=2)(w:List UInt8)(hl:ix.length<=10)(hx:∀ x∈ix,NT x)(ho:ob.length<=1000)(ha:au.length=4)(hv:Ah au h=some w):Y E0 (.call 236 [.agg [.sl (.sl .u8) sd,.sl (.sl .u8) au,.sl .u8 en,.i ac,.i re,.i rs,.i ck,.b od,.sl (.sl (.sl .u8)) [],.i su,.i mc,.sl AB ix,.i l1,.i l2,.i l3,.i l4,.i l5,.i l6,.sl BP ks,.b st,.b sp,.sl (.sl (.sl .u8)) rb,.i ru,.i vc,.b sf,.i dr,.sl sesT ss,.sl objT ob,.sl .i64 rl,.sl .i64 wl,.i c,.sl .i64 hs,.sl AL az,.sl .i64 qi,.sl (.sl .u8) qb,.i se,.sl .u8 nn,.sl .u8 v,.i h]] [])=some (.ret (.b false) []):=by
 have hp:=mM sd au en ac re rs ck od su mc ix l1 l2 l3 l4 l5 l6 ks st sp rb ru vc sf dr ss ob rl wl h w zaa hl hx ho ha hv
 refine tq ?_
 rw[hp]
 exact tq rfl
theorem Yk(sd:List (List UInt8))(au:List (List UInt8))(en:List UInt8)(ac:Int)(re:Int)(rs:Int)(ck:Int)(od:Bool)(su:Int)(mc:Int)(ix:List (El AB))(l1:Int)(l2:Int)(l3:Int)(l4:Int)(l5:Int)(l6:Int)(ks:List (El BP))(st:Bool)(sp:Bool)(rb:List (List (List UInt8)))(ru:Int)(vc:Int)(sf:Bool)(dr:Int)(ss:List (El sesT))(ob:List (El objT))(rl:List Int)(wl:List Int)(c:Int)(hs:List Int)(az:List (El AL))(qi:List Int)(qb:List (List UInt8))(se:Int)(nn v:List UInt8)(h:Int)(x:List UInt8)(hx:x.length<=100000):Y E0 (.call 238 [.agg [.sl (.sl .u8) sd,.sl (.sl .u8) au,.sl .u8 en,.i ac,.i re,.i rs,.i ck,.b od,.sl (.sl (.sl .u8)) [],.i su,.i mc,.sl AB ix,.i l1,.i l2,.i l3,.i l4,.i l5,.i l6,.sl BP ks,.b st,.b sp,.sl (.sl (.sl .u8)) rb,.i ru,.i vc,.b sf,.i dr,.sl sesT ss,.sl objT ob,.sl .i64 rl,.sl .i64 wl,.i c,.sl .i64 hs,.sl AL az,.sl .i64 qi,.sl (.sl .u8) qb,.i se,.sl .u8 nn,.sl .u8 v,.i h],.sl .u8 x,.sl .u8 x] [])=some (.ret (.tup [.agg [.sl (.sl .u8) sd,.sl (.sl .u8) au,.sl .u8 en,.i ac,.i re,.i rs,.i ck,.b od,.sl (.sl (.sl .u8)) [],.i su,.i mc,.sl AB ix,.i l1,.i l2,.i l3,.i l4,.i l5,.i l6,.sl BP ks,.b st,.b sp,.sl (.sl (.sl .u8)) rb,.i ru,.i vc,.b sf,.i dr,.sl sesT ss,.sl objT ob,.sl .i64 rl,.sl .i64 wl],.i 0]) []):=by
 have he:=fG x x zaa
 rw[decide_eq_true rfl] at he
 refine tq ?_
 rw[he]
 exact tq rfl
theorem A3N(sd:List (List UInt8))(au:List (List UInt8))(en:List UInt8)(ac:Int)(re:Int)(rs:Int)(ck:Int)(od:Bool)(su:Int)(mc:Int)(ix:List (El AB))(l1:Int)(l2:Int)(l3:Int)(l4:Int)(l5:Int)(l6:Int)(ks:List (El BP))(st:Bool)(sp:Bool)(rb:List (List (List UInt8)))(ru:Int)(vc:Int)(sf:Bool)(dr:Int)(ss:List (El sesT))(ob:List (El objT))(rl:List Int)(wl:List Int)(c:Int)(hs:List Int)(az:List (El AL))(qi:List Int)(qb:List (List UInt8))(se:Int)(nn v:List UInt8)(h:Int)(hh:0<=h/\h<=2)(hl:ix.length<=10)(hx:∀ x∈ix,NT x)(ho:ob.length<=1000)(ha:au.length=4)(hv:Ah au h=some v)(hc:c<23\/29<c)(hvl:v.length<=1000):Y E0 (.call 194 [.agg [.sl (.sl .u8) sd,.sl (.sl .u8) au,.sl .u8 en,.i ac,.i re,.i rs,.i ck,.b od,.sl (.sl (.sl .u8)) [],.i su,.i mc,.sl AB ix,.i l1,.i l2,.i l3,.i l4,.i l5,.i l6,.sl BP ks,.b st,.b sp,.sl (.sl (.sl .u8)) rb,.i ru,.i vc,.b sf,.i dr,.sl sesT ss,.sl objT ob,.sl .i64 rl,.sl .i64 wl,.i c,.sl .i64 hs,.sl AL az,.sl .i64 qi,.sl (.sl .u8) qb,.i se,.sl .u8 nn,.sl .u8 v,.i h],pg 0 [] [] 0 0 0 0 false] [])=some (.ret (.tup [.agg [.sl (.sl .u8) sd,.sl (.sl .u8) au,.sl .u8 en,.i ac,.i re,.i rs,.i ck,.b od,.sl (.sl (.sl .u8)) [],.i su,.i mc,.sl AB ix,.i l1,.i l2,.i l3,.i l4,.i l5,.i l6,.sl BP ks,.b st,.b sp,.sl (.sl (.sl .u8)) rb,.i ru,.i vc,.b sf,.i dr,.sl sesT ss,.sl objT ob,.sl .i64 rl,.sl .i64 wl],.i 0]) []):=by
 have h1:=A1M sd au en ac re rs ck od su mc ix l1 l2 l3 l4 l5 l6 ks st sp rb ru vc sf dr ss ob rl wl c hs az qi qb se nn v h zaa hl hx ho hc
 have h2:=A1N sd au en ac re rs ck od su mc ix l1 l2 l3 l4 l5 l6 ks st sp rb ru vc sf dr ss ob rl wl c hs az qi qb se nn v h hh v hl hx ho ha hv
 have h3:=vO sd au en ac re rs ck od su mc ix l1 l2 l3 l4 l5 l6 ks st sp rb ru vc sf dr ss ob rl wl h v zaa hl hx ho ha hv
 have h4:=Yk sd au en ac re rs ck od su mc ix l1 l2 l3 l4 l5 l6 ks st sp rb ru vc sf dr ss ob rl wl c hs az qi qb se nn v h v zaa
 refine tq ?_
 rw[h1]
 refine tq ?_
 rw[h2]
 refine tq ?_
 rw[h3]
 refine tq ?_
 rw[h4]
 exact tq rfl
theorem A3O(sd:List (List UInt8))(au:List (List UInt8))(en:List UInt8)(ac:Int)(re:Int)(rs:Int)(ck:Int)(od:Bool)(su:Int)(mc:Int)(ix:List (El AB))(l1:Int)(l2:Int)(l3:Int)(l4:Int)(l5:Int)(l6:Int)(ks:List (El BP))(st:Bool)(sp:Bool)(rb:List (List (List UInt8)))(ru:Int)(vc:Int)(sf:Bool)(dr:Int)(ss:List (El sesT))(ob:List (El objT))(rl:List Int)(wl:List Int)(c h:Int)(hs:List Int)(nn v:List UInt8)(az:List (El AL))(qi:List Int)(qb:List (List UInt8))(hh:0<=h/\h<=2)(hl:ix.length<=10)(hx:∀ x∈ix,NT x)(ho:ob.length<=1000)(ha:au.length=4)(hv:Ah au h=some v)(hc:c<23\/29<c)(hv1:v.length<=1000):Y E0 (.call 164 [.agg [.sl (.sl .u8) sd,.sl (.sl .u8) au,.sl .u8 en,.i ac,.i re,.i rs,.i ck,.b od,.sl (.sl (.sl .u8)) [],.i su,.i mc,.sl AB ix,.i l1,.i l2,.i l3,.i l4,.i l5,.i l6,.sl BP ks,.b st,.b sp,.sl (.sl (.sl .u8)) rb,.i ru,.i vc,.b sf,.i dr,.sl sesT ss,.sl objT ob,.sl .i64 rl,.sl .i64 wl],.i 0,rq c (h::hs) ((0,nn,v)::az) qi qb] [])=some (.ret (.tup [.agg [.sl (.sl .u8) sd,.sl (.sl .u8) au,.sl .u8 en,.i ac,.i re,.i rs,.i ck,.b od,.sl (.sl (.sl .u8)) [],.i su,.i mc,.sl AB ix,.i l1,.i l2,.i l3,.i l4,.i l5,.i l6,.sl BP ks,.b st,.b sp,.sl (.sl (.sl .u8)) rb,.i ru,.i vc,.b sf,.i dr,.sl sesT ss,.sl objT ob,.sl .i64 rl,.sl .i64 wl],.i 0]) []):=by
 have hk:=A3N sd au en ac re rs ck od su mc ix l1 l2 l3 l4 l5 l6 ks st sp rb ru vc sf dr ss ob rl wl c (h::hs) ((0,nn,v)::az) qi qb 0 nn v h hh hl hx ho ha hv hc hv1
 refine tq ?_
 rw[hk]
 exact tq rfl
end
end Go.Proofs.YtanagnimhaemgaaGreatDoor
