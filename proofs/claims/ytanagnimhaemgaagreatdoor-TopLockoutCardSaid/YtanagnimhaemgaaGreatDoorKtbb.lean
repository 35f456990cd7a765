/-
  Own texts, laid together for this claim: contracts of functions of the program and its references, used by the statements of this seat.
-/
import Derived.Test.YtanagnimhaemgaaGreatDoorKtac
import Derived.Test.YtanagnimhaemgaaGreatDoorKtad
import Derived.Test.YtanagnimhaemgaaGreatDoorKtaf
import Derived.Test.YtanagnimhaemgaaGreatDoorKtag
import Derived.Test.YtanagnimhaemgaaGreatDoorKtah
import Derived.Test.YtanagnimhaemgaaGreatDoorKtai
import Derived.Test.YtanagnimhaemgaaGreatDoorKtaj
import Derived.Test.YtanagnimhaemgaaGreatDoorKtak
import Derived.Test.YtanagnimhaemgaaGreatDoorKtal
import Derived.Test.YtanagnimhaemgaaGreatDoorKtam
import Derived.Test.YtanagnimhaemgaaGreatDoorKtas
import Derived.Test.YtanagnimhaemgaaGreatDoorKtat
import Derived.Test.YtanagnimhaemgaaGreatDoorKtau
import Derived.Test.YtanagnimhaemgaaGreatDoorKtav
import Derived.Test.YtanagnimhaemgaaGreatDoorKtaw
import Derived.Test.YtanagnimhaemgaaGreatDoorKtay
import Derived.Test.YtanagnimhaemgaaGreatDoorKtaz
import Derived.Test.YtanagnimhaemgaaGreatDoorKtba
set_option linter.all false
set_option maxHeartbeats 40000000
set_option maxRecDepth 100000
namespace Go.Proofs.YtanagnimhaemgaaGreatDoor
open Go Go.Ax Go.Eng
variable (ar ar':List (List UInt8))(wr cu to:Int)(sd au:List (List UInt8))
section
attribute [local irreducible] Bl CS CU CJ Bh Ak CV Du EN E5 EH Be BN CE Bz and' CG CO BC Ag Ar BF BG AY Aa AP AX CW Dv CX DT C9 BJ BD BA BB Au AQ Az Ac Aw Ah CY BL Bi BR BI CB CZ CP fits Cb CQ A8 AA AZ
theorem P9{c nb:Int}{hs:List Int}{az:List (El AL)}{is:List Int}{bs:List (List UInt8)}(h:rqG c nb hs az is bs):Y E0 (.call 160 [rq c hs az is bs] [])=some (.ret (.i 0) []) :=
 uu c nb hs az is bs h.sh h.ct h.hl h.al h.il h.bl h.hm h.am h.im h.bm h.ln
theorem A14:rqG 1 0 [] [] [0] []:=by
 refine⟨uo,O8 0,A0z,Sm 0,by decide,by decide,by decide,by decide,by decide,by simp,by simp,by simp,by simp,?_⟩
 simp only[Gn,IY,List.length_append,DK,List.flatMap_nil,List.flatMap_cons,List.length_nil,List.length_cons,Bo]
 decide
theorem VI(sd:List (List UInt8))(au:List (List UInt8))(en:List UInt8)(ac:Int)(re:Int)(rs:Int)(ck:Int)(od:Bool)(su:Int)(mc:Int)(ix:List (El AB))(l1:Int)(l2:Int)(l3:Int)(l4:Int)(l5:Int)(l6:Int)(ks:List (El BP))(st:Bool)(sp:Bool)(rb:List (List (List UInt8)))(ru:Int)(vc:Int)(sf:Bool)(dr:Int)(ss:List (El sesT))(ob:List (El objT))(rl:List Int)(wl:List Int)(c:Int)(hs:List Int)(az:List (El AL))(is:List Int)(bs:List (List UInt8))(hl:hs.length<=10)(hn:∀ h∈hs,∃ x,Y E0 (.call 181 [.agg [.sl (.sl .u8) sd,.sl (.sl .u8) au,.sl .u8 en,.i ac,.i re,.i rs,.i ck,.b od,.sl (.sl (.sl .u8)) [],.i su,.i mc,.sl AB ix,.i l1,.i l2,.i l3,.i l4,.i l5,.i l6,.sl BP ks,.b st,.b sp,.sl (.sl (.sl .u8)) rb,.i ru,.i vc,.b sf,.i dr,.sl sesT ss,.sl objT ob,.sl .i64 rl,.sl .i64 wl],.i h] [])=some (.ret (.tup [.sl .u8 x,.i 0]) [])):∀(k j:Nat),j+k=hs.length ->
  Y E0 (.loop 162 0 0 2 [(2,.pa 0 0),(3,.pa 1 0),(15,.sl .i64 hs),(16,.i (hs.length:Int)),(17,.i (j:Int))] [(0,some (.var [.sl (.sl .u8) sd,.sl (.sl .u8) au,.sl .u8 en,.i ac,.i re,.i rs,.i ck,.b od,.sl (.sl (.sl .u8)) [],.i su,.i mc,.sl AB ix,.i l1,.i l2,.i l3,.i l4,.i l5,.i l6,.sl BP ks,.b st,.b sp,.sl (.sl (.sl .u8)) rb,.i ru,.i vc,.b sf,.i dr,.sl sesT ss,.sl objT ob,.sl .i64 rl,.sl .i64 wl])),(1,some (.var [.i c,.sl .i64 hs,.sl AL az,.sl .i64 is,.sl (.sl .u8) bs]))])
   = some (.fin (.exit 0) 2 [(2,.pa 0 0),(3,.pa 1 0)] [(0,some (.var [.sl (.sl .u8) sd,.sl (.sl .u8) au,.sl .u8 en,.i ac,.i re,.i rs,.i ck,.b od,.sl (.sl (.sl .u8)) [],.i su,.i mc,.sl AB ix,.i l1,.i l2,.i l3,.i l4,.i l5,.i l6,.sl BP ks,.b st,.b sp,.sl (.sl (.sl .u8)) rb,.i ru,.i vc,.b sf,.i dr,.sl sesT ss,.sl objT ob,.sl .i64 rl,.sl .i64 wl])),(1,some (.var [.i c,.sl .i64 hs,.sl AL az,.sl .i64 is,.sl (.sl .u8) bs]))])
 | 0,j,hj=>by
  obtain rfl:j=hs.length:=zaa
  rw[AU];conv=>lhs;whnf
  refine tq ?_
  with_reducible rfl
 | k+1,j,hj=>by
  obtain⟨x,hm,hg⟩:=Gp (l:=hs) (i:=(j:Int)) zaa
  obtain⟨nm,ho⟩:=hn x hm
  have ih:=VI sd au en ac re rs ck od su mc ix l1 l2 l3 l4 l5 l6 ks st sp rb ru vc sf dr ss ob rl wl c hs az is bs hl hn k (j+1) zaa
  rw[show((j+1:Nat):Int)=(j:Int)+1 from by omega] at ih
  rw[AU];conv=>lhs;whnf
  refine to ?_
  rw[hg]
  refine tq ?_
  rw[ho]
  refine tq ?_
  exact ih
theorem PD(en:List UInt8)(ac:Int)(re:Int)(rs:Int)(ck:Int)(od:Bool)(su:Int)(mc:Int)(ix:List (El AB))(l1:Int)(l2:Int)(l3:Int)(l4:Int)(l5:Int)(l6:Int)(ks:List (El BP))(st:Bool)(sp:Bool)(rb:List (List (List UInt8)))(ru:Int)(vc:Int)(sf:Bool)(dr:Int)(ss:List (El sesT))(ob:List (El objT))(rl:List Int)(wl:List Int)(c:Int)(az:List (El AL))(is:List Int)(bs:List (List UInt8)):Y E0 (.call 162 [.agg [.sl (.sl .u8) sd,.sl (.sl .u8) au,.sl .u8 en,.i ac,.i re,.i rs,.i ck,.b od,.sl (.sl (.sl .u8)) [],.i su,.i mc,.sl AB ix,.i l1,.i l2,.i l3,.i l4,.i l5,.i l6,.sl BP ks,.b st,.b sp,.sl (.sl (.sl .u8)) rb,.i ru,.i vc,.b sf,.i dr,.sl sesT ss,.sl objT ob,.sl .i64 rl,.sl .i64 wl],rq c [] az is bs] [])=some (.ret (.b true) []):=by
 have l0:=VI sd au en ac re rs ck od su mc ix l1 l2 l3 l4 l5 l6 ks st sp rb ru vc sf dr ss ob rl wl c [] az is bs zan zan 0 0 rfl
 have e2:Aw ([]:List Int)=0:=zaQ
 rw[show((List.length ([]:List Int):Nat):Int)=0 from rfl,show((0:Nat):Int)=0 from rfl] at l0
 refine tq ?_
 simp only[e2,Nat.reduceAdd];rw[l0]
 conv=>lhs;whnf
 rw[e2]
 exact tq rfl
theorem ig(en:List UInt8)(ac:Int)(re:Int)(rs:Int)(ck:Int)(od:Bool)(su:Int)(mc:Int)(ix:List (El AB))(l1:Int)(l2:Int)(l3:Int)(l4:Int)(l5:Int)(l6:Int)(ks:List (El BP))(st:Bool)(sp:Bool)(rb:List (List (List UInt8)))(ru:Int)(vc:Int)(sf:Bool)(dr:Int)(ss:List (El sesT))(ob:List (El objT))(rl:List Int)(wl:List Int)(e:Int):Y E0 (.call 161 [.agg [.sl (.sl .u8) sd,.sl (.sl .u8) au,.sl .u8 en,.i ac,.i re,.i rs,.i ck,.b od,.sl (.sl (.sl .u8)) [],.i su,.i mc,.sl AB ix,.i l1,.i l2,.i l3,.i l4,.i l5,.i l6,.sl BP ks,.b st,.b sp,.sl (.sl (.sl .u8)) rb,.i ru,.i vc,.b sf,.i dr,.sl sesT ss,.sl objT ob,.sl .i64 rl,.sl .i64 wl],.i e] [])=some (.ret (.tup [.agg [.sl (.sl .u8) sd,.sl (.sl .u8) au,.sl .u8 en,.i ac,.i re,.i rs,.i ck,.b od,.sl (.sl (.sl .u8)) [],.i su,.i mc,.sl AB ix,.i l1,.i l2,.i l3,.i l4,.i l5,.i l6,.sl BP ks,.b st,.b sp,.sl (.sl (.sl .u8)) rb,.i ru,.i vc,.b sf,.i dr,.sl sesT ss,.sl objT ob,.sl .i64 rl,.sl .i64 wl],Jw e [] [] []]) []):=by
 refine tq ?_
 with_reducible rfl
theorem qV(sd0:List (List UInt8))(au0:List (List UInt8))(en0:List UInt8)(ac0:Int)(re0:Int)(rs0:Int)(ck0:Int)(od0:Bool)(su0:Int)(mc0:Int)(ix0:List (El AB))(l10:Int)(l20:Int)(l30:Int)(l40:Int)(l50:Int)(l60:Int)(ks0:List (El BP))(st0:Bool)(sp0:Bool)(rb0:List (List (List UInt8)))(ru0:Int)(vc0:Int)(sf0:Bool)(dr0:Int)(ss0:List (El sesT))(ob0:List (El objT))(rl0:List Int)(wl0:List Int)(sd:List (List UInt8))(au:List (List UInt8))(en:List UInt8)(ac:Int)(re:Int)(rs:Int)(ck:Int)(od:Bool)(su:Int)(mc:Int)(ix:List (El AB))(l1:Int)(l2:Int)(l3:Int)(l4:Int)(l5:Int)(l6:Int)(ks:List (El BP))(st:Bool)(sp:Bool)(rb:List (List (List UInt8)))(ru:Int)(vc:Int)(sf:Bool)(dr:Int)(ss:List (El sesT))(ob:List (El objT))(rl:List Int)(wl:List Int):Y E0 (.call 185 [.agg [.sl (.sl .u8) sd0,.sl (.sl .u8) au0,.sl .u8 en0,.i ac0,.i re0,.i rs0,.i ck0,.b od0,.sl (.sl (.sl .u8)) [],.i su0,.i mc0,.sl AB ix0,.i l10,.i l20,.i l30,.i l40,.i l50,.i l60,.sl BP ks0,.b st0,.b sp0,.sl (.sl (.sl .u8)) rb0,.i ru0,.i vc0,.b sf0,.i dr0,.sl sesT ss0,.sl objT ob0,.sl .i64 rl0,.sl .i64 wl0],.agg [.sl (.sl .u8) sd,.sl (.sl .u8) au,.sl .u8 en,.i ac,.i re,.i rs,.i ck,.b od,.sl (.sl (.sl .u8)) [],.i su,.i mc,.sl AB ix,.i l1,.i l2,.i l3,.i l4,.i l5,.i l6,.sl BP ks,.b st,.b sp,.sl (.sl (.sl .u8)) rb,.i ru,.i vc,.b sf,.i dr,.sl sesT ss,.sl objT ob,.sl .i64 rl,.sl .i64 wl],.i 0] [])=some (.ret (.tup [.agg [.sl (.sl .u8) sd,.sl (.sl .u8) au,.sl .u8 en,.i ac,.i re,.i rs,.i ck,.b od,.sl (.sl (.sl .u8)) [],.i su,.i mc,.sl AB ix,.i l1,.i l2,.i l3,.i l4,.i l5,.i l6,.sl BP ks,.b st,.b sp,.sl (.sl (.sl .u8)) rb,.i ru,.i vc,.b sf,.i dr,.sl sesT ss,.sl objT ob,.sl .i64 rl,.sl .i64 wl],Jw 0 [] [] []]) []):=by
 refine tq ?_
 with_reducible rfl
theorem A3E(en:List UInt8)(ac:Int)(re:Int)(rs:Int)(ck:Int)(od:Bool)(su:Int)(mc:Int)(ix:List (El AB))(l1:Int)(l2:Int)(l3:Int)(l4:Int)(l5:Int)(l6:Int)(ks:List (El BP))(st:Bool)(sp:Bool)(rb:List (List (List UInt8)))(ru:Int)(vc:Int)(sf:Bool)(dr:Int)(ss:List (El sesT))(ob:List (El objT))(rl:List Int)(wl:List Int)(h:st=false/\sp=false)(ha:ac=2)(hre:0<=re/\re<=1000000):Y E0 (.call 163 [.agg [.sl (.sl .u8) sd,.sl (.sl .u8) au,.sl .u8 en,.i ac,.i re,.i rs,.i ck,.b od,.sl (.sl (.sl .u8)) [],.i su,.i mc,.sl AB ix,.i l1,.i l2,.i l3,.i l4,.i l5,.i l6,.sl BP ks,.b st,.b sp,.sl (.sl (.sl .u8)) rb,.i ru,.i vc,.b sf,.i dr,.sl sesT ss,.sl objT ob,.sl .i64 rl,.sl .i64 wl],.i 0,rq 1 [] [] [0] []] [])=some (.ret (.tup [.agg [.sl (.sl .u8) sd,.sl (.sl .u8) au,.sl .u8 en,.i ac,.i (re+1),.i 0,.i ck,.b false,.sl (.sl (.sl .u8)) [],.i 0,.i mc,.sl AB ix,.i l1,.i l2,.i l3,.i l4,.i l5,.i l6,.sl BP ks,.b true,.b sp,.sl (.sl (.sl .u8)) (BZ 2),.i 0,.i ck,.b od,.i dr,.sl sesT ss,.sl objT ob,.sl .i64 rl,.sl .i64 wl],Jw 0 [] [] []]) []):=by
 have ha:=ul sd au en ac re rs ck od [] su mc ix l1 l2 l3 l4 l5 l6 ks st sp rb ru vc sf dr ss ob rl wl h ha hre
 refine tq ?_
 rw[ha]
 refine tq ?_
 rw[qV ..]
 exact tq rfl
theorem qW(en:List UInt8)(ac:Int)(re:Int)(rs:Int)(ck:Int)(od:Bool)(su:Int)(mc:Int)(ix:List (El AB))(l1:Int)(l2:Int)(l3:Int)(l4:Int)(l5:Int)(l6:Int)(ks:List (El BP))(st:Bool)(sp:Bool)(rb:List (List (List UInt8)))(ru:Int)(vc:Int)(sf:Bool)(dr:Int)(ss:List (El sesT))(ob:List (El objT))(rl:List Int)(wl:List Int)(h:st=false/\sp=false)(ha:ac=2)(hre:0<=re/\re<=1000000):Y E0 (.call 131 [.agg [.sl (.sl .u8) sd,.sl (.sl .u8) au,.sl .u8 en,.i ac,.i re,.i rs,.i ck,.b od,.sl (.sl (.sl .u8)) [],.i su,.i mc,.sl AB ix,.i l1,.i l2,.i l3,.i l4,.i l5,.i l6,.sl BP ks,.b st,.b sp,.sl (.sl (.sl .u8)) rb,.i ru,.i vc,.b sf,.i dr,.sl sesT ss,.sl objT ob,.sl .i64 rl,.sl .i64 wl],.i 0,rq 1 [] [] [0] []] [])=some (.ret (.tup [.agg [.sl (.sl .u8) sd,.sl (.sl .u8) au,.sl .u8 en,.i ac,.i (re+1),.i 0,.i ck,.b false,.sl (.sl (.sl .u8)) [],.i 0,.i mc,.sl AB ix,.i l1,.i l2,.i l3,.i l4,.i l5,.i l6,.sl BP ks,.b true,.b sp,.sl (.sl (.sl .u8)) (BZ 2),.i 0,.i ck,.b od,.i dr,.sl sesT ss,.sl objT ob,.sl .i64 rl,.sl .i64 wl],Jw 0 [] [] []]) []):=by
 have hk:=P9 A14
 have ha:=A3E sd au en ac re rs ck od su mc ix l1 l2 l3 l4 l5 l6 ks st sp rb ru vc sf dr ss ob rl wl h ha hre
 refine tq ?_
 rw[hk]
 refine tq ?_
 rw[PD ..]
 refine tq ?_
 rw[ha]
 exact tq rfl
theorem O9(nx wr' nx' loc:Int)(sd0:List (List UInt8))(au0:List (List UInt8))(en0:List UInt8)(ac0:Int)(re0:Int)(rs0:Int)(ck0:Int)(od0:Bool)(su0:Int)(mc0:Int)(ix0:List (El AB))(l10:Int)(l20:Int)(l30:Int)(l40:Int)(l50:Int)(l60:Int)(ks0:List (El BP))(st0:Bool)(sp0:Bool)(rb0:List (List (List UInt8)))(ru0:Int)(vc0:Int)(sf0:Bool)(dr0:Int)(ss0:List (El sesT))(ob0:List (El objT))(rl0:List Int)(wl0:List Int)(sd:List (List UInt8))(au:List (List UInt8))(en:List UInt8)(ac:Int)(re:Int)(rs:Int)(ck:Int)(od:Bool)(su:Int)(mc:Int)(ix:List (El AB))(l1:Int)(l2:Int)(l3:Int)(l4:Int)(l5:Int)(l6:Int)(ks:List (El BP))(st:Bool)(sp:Bool)(rb:List (List (List UInt8)))(ru:Int)(vc:Int)(sf:Bool)(dr:Int)(ss:List (El sesT))(ob:List (El objT))(rl:List Int)(wl:List Int)(c:Int)(hs:List Int)(az:List (El AL))(qi:List Int)(qb:List (List UInt8))(e n m:Int)(is:List Int)(bs ns:List (List UInt8))(ha:Y E0 (.call 13 [Gm ar wr 0 to false sd0 au0 en0 ac0 re0 rs0 ck0 od0 [] su0 mc0 ix0 l10 l20 l30 l40 l50 l60 ks0 st0 sp0 rb0 ru0 vc0 sf0 dr0 ss0 ob0 rl0 wl0 true nx,.i loc,rq c hs az qi qb] [])=some (.ret (.tup [Gm ar' wr' 0 to false sd au en ac re rs ck od [] su mc ix l1 l2 l3 l4 l5 l6 ks st sp rb ru vc sf dr ss ob rl wl true nx',Jw e is bs ns,.b true]) []))(hl:is.length<=10/\bs.length<=10)(he:e=0)(hn:(is.length:Int)=n)(hm:(bs.length:Int)=m):
  Y E0 (.call 9 [Gm ar wr 0 to false sd0 au0 en0 ac0 re0 rs0 ck0 od0 [] su0 mc0 ix0 l10 l20 l30 l40 l50 l60 ks0 st0 sp0 rb0 ru0 vc0 sf0 dr0 ss0 ob0 rl0 wl0 true nx,.i loc,rq c hs az qi qb,.i n,.i m] [])=some (.ret (.tup [Gm ar' wr' 0 to false sd au en ac re rs ck od [] su mc ix l1 l2 l3 l4 l5 l6 ks st sp rb ru vc sf dr ss ob rl wl true nx',Jw e is bs ns,.b true]) []):=by
 refine tq ?_
 rw[ha]
 conv=>lhs;whnf
 try dsimp -iota -beta -eta -zeta only
 rw[Ep zaa]
 conv=>lhs;whnf
 rw[Ep zas]
 conv=>lhs;whnf
 try dsimp -iota -beta -eta -zeta only
 rw[drw zai];conv=>lhs;whnf
 try dsimp -iota -beta -eta -zeta only
 (congr 3;simp only[Hq,JA,Io,JB,DJ,GZ,AC];first|rfl|(rw[decide_eq_decide];omega)|(simp;omega))
theorem lu:Y E0 (.call 27 [.i 0] [])=some (.ret (rq 1 [] [] [0] []) []):=by
 refine tq ?_
 with_reducible rfl
theorem qX(en:List UInt8)(he:en.length=32)(p:List UInt8)(hp:encS (Aq en) [[],[],[],[]] (BK en Bc [] 32) 2 0 0 0 true [] 0 0 [] 0 5 100 0 0 1000 []=p)(hok:stOK (Aq en) [[],[],[],[]] (BK en Bc [] 32) 2 0 0 0 0 0 [] 0 5 100 0 0 1000 []):Y E0 (.call 37 [.i 4,.sl .u8 en,.i 2] [])=some (.ret (.tup [lI (BL [[],[],[],[]] 1 (Gv 1 p)) 1 0 0 true false 2,.i 0]) []):=by
 have hn:=A3A en 2 he zac
 have hl:=Lp _ _ _ _ _ _ _ true _ _ _ _ _ _ _ _ _ _ hok
 have e1:=Kw (Aq en) [[],[],[],[]] (BK en Bc [] 32) 2 0 0 0 true 0 0 [] 0 5 100 0 0 1000 [] hok.sl hok.al hok.sm hok.am hok.en hok.il hok.im hok.kl hok.km
 rw[hp] at e1 hl
 have ec:=Wh [[],[],[],[]] 0 0 1 p zac zac zac zaa zac
 rw[show(1:Int)%2=1 from rfl,show(0+1:Int)=1 from rfl] at ec
 refine tq ?_
 rw[hn]
 refine tq ?_
 rw[A30]
 refine tq ?_
 rw[e1]
 refine tq ?_
 rw[ec]
 refine tq ?_
 rw[Zp ..]
 exact tq rfl
theorem qY(p:List UInt8)(hp:p.length<=60000):Q5 (BL [[],[],[],[]] 1 (Gv 1 p)) 1 p:=by
 rw[EU]
 exact⟨rfl,by decide,by decide,hp,rfl,.inl rfl⟩
end
section
attribute [local irreducible] Bl CS CU CJ Bh Ak CV Du EN E5 EH Be BN CE Bz and' CG CO BC Ag Ar BF BG AY Aa AP AX CW Dv CX DT C9 BJ BD BA BB Au AQ Az Ac Aw Ah CY BL Bi BR BI CB CZ CP fits Cb CQ A8 AA AZ
@[reducible] def ED:List (El sesT):=List.replicate 3 (0,[],[],0,0,0,0,false)
@[reducible] def H8:List (El objT):=List.replicate 3 ((0,0,0,[],[]),([],[],[]),0)
theorem X0(wr' cu to to' nx nx' XB:Int)(of on:Bool)(sd0:List (List UInt8))(au0:List (List UInt8))(en0:List UInt8)(ac0:Int)(re0:Int)(rs0:Int)(ck0:Int)(od0:Bool)(su0:Int)(mc0:Int)(ix0:List (El AB))(l10:Int)(l20:Int)(l30:Int)(l40:Int)(l50:Int)(l60:Int)(ks0:List (El BP))(st0:Bool)(sp0:Bool)(rb0:List (List (List UInt8)))(ru0:Int)(vc0:Int)(sf0:Bool)(dr0:Int)(ss0:List (El sesT))(ob0:List (El objT))(rl0:List Int)(wl0:List Int)(sd:List (List UInt8))(au:List (List UInt8))(en:List UInt8)(ac:Int)(re:Int)(rs:Int)(ck:Int)(od:Bool)(su:Int)(mc:Int)(ix:List (El AB))(l1:Int)(l2:Int)(l3:Int)(l4:Int)(l5:Int)(l6:Int)(ks:List (El BP))(st:Bool)(sp:Bool)(rb:List (List (List UInt8)))(ru:Int)(vc:Int)(sf:Bool)(dr:Int)(ss:List (El sesT))(ob:List (El objT))(rl:List Int)(wl:List Int)(sd2 au2:List (List UInt8))(en2:List UInt8)(ac2 re2 rs2 ck2:Int)(od2:Bool)(su2 mc2 l12 l22 l32 l42 l52 l62:Int)(hon:Y E0 (.call 25 [lI ar wr cu to true false nx] [])=some (.ret (.tup [Gm ar 0 0 0 false sd2 au2 en2 ac2 re2 rs2 ck2 od2 [] su2 mc2 [] l12 l22 l32 l42 l52 l62 [] false false [] 0 0 false 0 ED H8 [] [] true XB,.i 0]) []))(hm:Y E0 (.call 9 [Gm ar 0 0 0 false sd2 au2 en2 ac2 re2 rs2 ck2 od2 [] su2 mc2 [] l12 l22 l32 l42 l52 l62 [] false false [] 0 0 false 0 ED H8 [] [] true XB,.i 0,rq 1 [] [] [0] [],.i 0,.i 0] [])=some (.ret (.tup [Gm ar' wr' 0 0 false sd au en ac re rs ck od [] su mc ix l1 l2 l3 l4 l5 l6 ks st sp rb ru vc sf dr ss ob rl wl true nx',Jw 0 [] [] [],.b true]) [])):
  Y E0 (.call 16 [Gm ar wr cu to of sd0 au0 en0 ac0 re0 rs0 ck0 od0 [] su0 mc0 ix0 l10 l20 l30 l40 l50 l60 ks0 st0 sp0 rb0 ru0 vc0 sf0 dr0 ss0 ob0 rl0 wl0 on nx] [])=some (.ret (.tup [Gm ar' wr' 0 0 false sd au en ac re rs ck od [] su mc ix l1 l2 l3 l4 l5 l6 ks st sp rb ru vc sf dr ss ob rl wl true nx',.b true]) []):=by
 have hoff:=A3B ar wr cu to of on nx sd0 au0 en0 ac0 re0 rs0 ck0 od0 [] su0 mc0 ix0 l10 l20 l30 l40 l50 l60 ks0 st0 sp0 rb0 ru0 vc0 sf0 dr0 ss0 ob0 rl0 wl0
 refine tq ?_
 rw[hoff]
 refine tq ?_
 rw[hon]
 refine tq ?_
 rw[lu]
 refine tq ?_
 rw[hm]
 exact tq rfl
theorem A15(nx q:Int)(of on:Bool)(sd0:List (List UInt8))(au0:List (List UInt8))(en0:List UInt8)(ac0:Int)(re0:Int)(rs0:Int)(ck0:Int)(od0:Bool)(su0:Int)(mc0:Int)(ix0:List (El AB))(l10:Int)(l20:Int)(l30:Int)(l40:Int)(l50:Int)(l60:Int)(ks0:List (El BP))(st0:Bool)(sp0:Bool)(rb0:List (List (List UInt8)))(ru0:Int)(vc0:Int)(sf0:Bool)(dr0:Int)(ss0:List (El sesT))(ob0:List (El objT))(rl0:List Int)(wl0:List Int)(sd au:List (List UInt8))(en:List UInt8)(re rs ck:Int)(od:Bool)(su mc l1 l2 l3 l4 l5 l6:Int)(har:Q5 ar q (encS sd au en 2 re rs ck od [] su mc [] l1 l2 l3 l4 l5 l6 []))(hok:stOK sd au en 2 re rs ck su mc [] l1 l2 l3 l4 l5 l6 [])(hre:re<=900000)(hq:q<=700000):
  ∃ ar' wr' nx',Q5 ar' (nx'-1) (encS sd au en 2 (re+1) 0 ck false [] 0 mc [] l1 l2 l3 l4 l5 l6 [])/\0<=wr'/\wr'<=nx'/\nx'<=q+2/\Y E0 (.call 16 [Gm ar wr cu to of sd0 au0 en0 ac0 re0 rs0 ck0 od0 [] su0 mc0 ix0 l10 l20 l30 l40 l50 l60 ks0 st0 sp0 rb0 ru0 vc0 sf0 dr0 ss0 ob0 rl0 wl0 on nx] [])=some (.ret (.tup [Gm ar' wr' 0 0 false sd au en 2 (re+1) 0 ck false [] 0 mc [] l1 l2 l3 l4 l5 l6 [] true false (BZ 2) 0 ck od 0 ED H8 [] [] true nx',.b true]) []):=by
 have hon:=A5I ar wr cu to nx q sd au en 2 re rs ck od su mc l1 l2 l3 l4 l5 l6 har zac hok.sl hok.al hok.sm hok.am hok.en hok.re hok.rs hok.ck hok.su hok.mc hok.lk
 have hq1:1<=q:=har.2.1
 have h1:stOK sd au en 2 (re+1) 0 ck 0 mc [] l1 l2 l3 l4 l5 l6 []:=⟨hok.sl,hok.al,hok.sm,hok.am,hok.en,hok.ac,⟨by have:=hok.re;omega,by omega⟩,by decide,hok.ck,by decide,hok.mc,hok.il,hok.im,hok.lk,hok.kl,hok.km⟩
 have hp:rpG 0 [] [] []:=⟨.inl rfl,by decide,by decide,by decide,by simp,by simp,by simp⟩
 have hx:=qW sd au en 2 re rs ck od su mc [] l1 l2 l3 l4 l5 l6 [] false false [] 0 0 false 0 ED H8 [] [] ⟨rfl,rfl⟩ rfl hok.re
 obtain⟨ar',wr',nx',k1,k2,k3,k4,_,ha⟩:=Wy ar 0 0 (q+1) 0 sd au en 2 re rs ck od su mc [] l1 l2 l3 l4 l5 l6 [] false false [] 0 0 false 0 ED H8 [] [] sd au en 2 (re+1) 0 ck false 0 mc [] l1 l2 l3 l4 l5 l6 [] true false (BZ 2) 0 ck od 0 ED H8 [] [] 1 0 [] [] [0] [] 0 [] [] [] A14 hp hok h1 (by rw[show q+1-1=q from by omega];exact har) ⟨by decide,by omega⟩ zaa hx
 refine⟨ar',wr',nx',k1,k2,k3,by omega,?_⟩
 have hm:=O9 ar ar' 0 0 (q+1) wr' nx' 0 sd au en 2 re rs ck od su mc [] l1 l2 l3 l4 l5 l6 [] false false [] 0 0 false 0 ED H8 [] [] sd au en 2 (re+1) 0 ck false 0 mc [] l1 l2 l3 l4 l5 l6 [] true false (BZ 2) 0 ck od 0 ED H8 [] [] 1 [] [] [0] [] 0 0 0 [] [] [] ha zac rfl rfl rfl
 exact X0 ar ar' wr wr' cu to 0 nx nx' (q+1) of on sd0 au0 en0 ac0 re0 rs0 ck0 od0 su0 mc0 ix0 l10 l20 l30 l40 l50 l60 ks0 st0 sp0 rb0 ru0 vc0 sf0 dr0 ss0 ob0 rl0 wl0 sd au en 2 (re+1) 0 ck false 0 mc [] l1 l2 l3 l4 l5 l6 [] true false (BZ 2) 0 ck od 0 ED H8 [] [] sd au en 2 re rs ck od su mc l1 l2 l3 l4 l5 l6 hon hm
end
section
attribute [local irreducible] Bl CS CU CJ Bh Ak CV Du EN E5 EH Be BN CE Bz and' CG CO BC Ag Ar BF BG AY Aa AP AX CW Dv CX DT C9 BJ BD BA BB Au AQ Az Ac Aw Ah CY BL Bi BR BI CB CZ CP fits Cb CQ A8 AA AZ
@[irreducible] def zen:List UInt8:=List.replicate 32 0
theorem zen_len:zen.length=32:=by rw[zen];simp
theorem Qb(re:Int)(hre:0<=re/\re<=10):stOK (Aq zen) [[],[],[],[]] (BK zen Bc [] 32) 2 re 0 0 0 0 [] 0 5 100 0 0 1000 []:=by
 refine⟨lG _,rfl,uQ _,?_,?_,by decide,by omega,by decide,by decide,by decide,by decide,by decide,by simp,by unfold Zl;omega,by decide,by simp⟩
 ·intro x hx
  simp at hx
  rw[hx];decide
 ·rw[Eb zac];decide
theorem X3(ar':List (List UInt8))(wr' nx':Int)(sd:List (List UInt8))(au:List (List UInt8))(en:List UInt8)(ac:Int)(re:Int)(rs:Int)(ck:Int)(od:Bool)(su:Int)(mc:Int)(ix:List (El AB))(l1:Int)(l2:Int)(l3:Int)(l4:Int)(l5:Int)(l6:Int)(ks:List (El BP))(st:Bool)(sp:Bool)(rb:List (List (List UInt8)))(ru:Int)(vc:Int)(sf:Bool)(dr:Int)(ss:List (El sesT))(ob:List (El objT))(rl:List Int)(wl:List Int)(hm:Y E0 (.call 37 [.i 4,.sl .u8 zen,.i 2] [])=some (.ret (.tup [lI ar wr 0 0 true false 2,.i 0]) []))(hc:Y E0 (.call 16 [lI ar wr 0 0 true false 2] [])=some (.ret (.tup [Gm ar' wr' 0 0 false sd au en ac re rs ck od [] su mc ix l1 l2 l3 l4 l5 l6 ks st sp rb ru vc sf dr ss ob rl wl true nx',.b true]) [])):Y E0 (.call 8 [.i 2] [])=some (.ret (.tup [Gm ar' wr' 0 0 false sd au en ac re rs ck od [] su mc ix l1 l2 l3 l4 l5 l6 ks st sp rb ru vc sf dr ss ob rl wl true nx',.b true]) []):=by
 have e:Ak .and 2 3=2:=by rw[Ba];decide
 have hz:BR 32 (0:UInt8)=zen:=by rw[FO,zen];rfl
 refine tq ?_
 rw[hz,e,hm]
 refine tq ?_
 rw[hc]
 exact tq rfl
theorem A16:∃ ar wr nx,Q5 ar (nx-1) (encS (Aq zen) [[],[],[],[]] (BK zen Bc [] 32) 2 1 0 0 false [] 0 0 [] 0 5 100 0 0 1000 [])/\0<=wr/\wr<=nx/\nx<=3/\Y E0 (.call 8 [.i 2] [])=some (.ret (.tup [Gm ar wr 0 0 false (Aq zen) [[],[],[],[]] (BK zen Bc [] 32) 2 1 0 0 false [] 0 0 [] 0 5 100 0 0 1000 [] true false (BZ 2) 0 0 true 0 ED H8 [] [] true nx,.b true]) []):=by
 have h0:=Qb 0 zac
 have hm:=qX zen zen_len _ rfl h0
 obtain⟨ar',wr',nx',k1,k2,k3,k4,hc⟩:=A15 _ 1 0 0 2 1 true false [] [] [] 0 0 0 0 false 0 0 [] 0 0 0 0 0 0 [] false false [] 0 0 false 0 [] [] [] [] (Aq zen) [[],[],[],[]] (BK zen Bc [] 32) 0 0 0 true 0 0 0 5 100 0 0 1000 (qY _ (Nat.le_trans (Lp _ _ _ _ _ _ _ true _ _ _ _ _ _ _ _ _ _ h0) zac)) h0 zac zac
 exact⟨ar',wr',nx',k1,k2,k3,k4,X3 _ 1 ar' wr' nx' (Aq zen) [[],[],[],[]] (BK zen Bc [] 32) 2 1 0 0 false 0 0 [] 0 5 100 0 0 1000 [] true false (BZ 2) 0 0 true 0 ED H8 [] [] hm hc⟩
end
section
attribute [local irreducible] Bl CS CU CJ Bh Ak CV Du EN E5 EH Be BN CE Bz and' CG CO BC Ag Ar BF BG AY Aa AP AX CW Dv CX DT C9 BJ BD BA BB Au AQ Az Ac Aw Ah CY BL Bi BR BI CB CZ CP fits Cb CQ A8 AA AZ
theorem jB(b s m:List UInt8)(v w:Int)(hb:b.length<=1000000)(hv:1<=v/\v<=1000000)(hw:v%2=w){n:Nat}(g0:XE b 0 0 32=(s,32,0))(g1:IZ b 32 0 8=(v,40,0))(g2:IZ b 40 0 4=((n:Int),44,0))(g3:XE b 44 0 (n:Int)=(m,44+n,0))(hp:m.length=n)(hn:44+n=b.length)(hs:s≠Lj v m)(hsl:s.length=32):Y E0 (.call 90 [.sl .u8 b,.i w] [])=some (.ret (.tup [.sl .u8 [],.i 0,.b false]) []):=by
 have h0:=QZ b 0 0 32 zaa zaa zaa
 have h1:=Fa b 32 0 8 zaa zaa
 have h2:=Fa b 40 0 4 zaa zaa
 have h3:=QZ b 44 0 n zaa zaa zaa
 rw[g0] at h0;rw[g1] at h1;rw[g2] at h2;rw[g3] at h3
 have hl:=Bg v m
 have hd:decide (s=Lj v m)=false:=decide_eq_false hs
 refine tq ?_
 rw[U6 _ Am]
 refine tq ?_
 rw[show Y E0 (.call 134 [.pa 0 0,.i 32] [.var [.sl .u8 b,.i 0,.i 0]])=_ from h0]
 refine tq ?_
 rw[h1]
 refine tq ?_
 rw[h2]
 refine tq ?_
 rw[h3]
 refine tq ?_
 rw[ML ..]
 refine tq ?_
 rw[SN _ _ Am]
 exact tq rfl
theorem vK{b s m:List UInt8}{v:Int}(hb:b=s++n8 v++n4 (m.length:Int)++m)(hs:s.length=32)(hp:m.length<=60000)(hq:1<=v/\v<=1000000):XE b 0 0 32=(s,32,0)/\IZ b 32 0 8=(v,40,0)/\IZ b 40 0 4=((m.length:Int),44,0)/\XE b 44 0 (m.length:Int)=(m,44+m.length,0)/\44+m.length=b.length:=by
 have hl:b.length=44+m.length:=by rw[hb];simp[hs,Bo,DL];omega
 have e0:b.drop 0=s++(n8 v++(n4 (m.length:Int)++(m++[]))):=by rw[hb];simp
 obtain⟨a0,a1,a2⟩:=VD (n:=32) zaa e0 hs
 obtain⟨b0,b1,b2⟩:=Kr (n:=8) (x:=v) a1 zaa a2 zaa zaa zaa
 obtain⟨c0,c1,c2⟩:=Kr (n:=4) (x:=(m.length:Int)) b1 zaa b2 zaa zaa zar
 obtain⟨d0,d1,d2⟩:=VD (n:=m.length) c1 c2 rfl;exact⟨a0,b0,c0,d0,by omega⟩
theorem jC(b s m:List UInt8)(v w:Int)(hb:b=s++n8 v++n4 (m.length:Int)++m)(hs:s.length=32)(hp:m.length<=60000)(hq:1<=v/\v<=1000000)(hw:v%2=w):Y E0 (.call 90 [.sl .u8 b,.i w] [])=some (.ret (.tup [.sl .u8 [],.i 0,.b false]) [])\/(b=Gv v m/\Y E0 (.call 90 [.sl .u8 b,.i w] [])=some (.ret (.tup [.sl .u8 m,.i v,.b true]) [])):=by
 obtain⟨h0,h1,h2,h3,h4⟩:=vK hb hs hp hq
 by_cases he:s=Lj v m
 ·refine .inr ⟨by rw[hb,he,Gv],?_⟩
  exact YP b m v w zaa hq hw (by rw[h0,he]) h1 h2 h3 rfl h4
 ·exact .inl (jB b s m v w zaa hq hw h0 h1 h2 h3 rfl h4 he hs)
theorem vM(q v:Int)(p s m:List UInt8)(wr cu to:Int)(hl:ar.length=4)(hq:2<=q/\q<=900000)(hp:p.length<=60000)(h5:ar[(q%2).toNat]?=some (Gv q p))(h6:ar[((q+1)%2).toNat]?=some (s++n8 v++n4 (m.length:Int)++m))(hs:s.length=32)(hm:m.length<=60000)(hv:v=q+1\/v=q-1):
  Y E0 (.call 50 [.agg [.sl (.sl .u8) ar,.i wr,.i cu,.i to,.b false],.i 0] [])=some (.ret (.tup [.sl .u8 p,.i q,.i 0]) []) \/
  (ar[((q+1)%2).toNat]?=some (Gv (q+1) m)/\Y E0 (.call 50 [.agg [.sl (.sl .u8) ar,.i wr,.i cu,.i to,.b false],.i 0] [])=some (.ret (.tup [.sl .u8 m,.i (q+1),.i 0]) [])):=by
 obtain⟨b,hb⟩:∃ b,s++n8 v++n4 (m.length:Int)++m=b:=⟨_,rfl⟩
 have hbl:b.length=44+m.length:=by rw[<-hb];simp[hs,Bo,DL];omega
 have hr:=Cm q p
 have hk:=MO p q (q%2) hp zaa rfl
 have hj:=jC b s m v ((q+1)%2) hb.symm hs hm zaa zaa
 rw[hb] at h6
 rcases(by omega:q%2=0\/q%2=1) with hm|hm
 ·rw[hm] at h5 hk;rw[show(q+1)%2=1 from by omega] at h6 hj ⊢
  rcases hj with hj|⟨hbr,hj⟩
  ·exact .inl (J3 ar wr cu to hl h5 h6 zaa zaa hk hj zaa)
  ·rcases hv with rfl|rfl
   ·exact .inr ⟨by rw[h6,hbr],Iz ar wr cu to hl h5 h6 zaa zaa hk hj zaa (fun _=>by omega)⟩
   ·exact .inl (J3 ar wr cu to hl h5 h6 zaa zaa hk hj zaa)
 ·rw[hm] at h5 hk;rw[show(q+1)%2=0 from by omega] at h6 hj ⊢
  rcases hj with hj|⟨hbr,hj⟩
  ·exact .inl (Iz ar wr cu to hl h6 h5 zaa zaa hj hk zaa (fun h=>by cases h))
  ·rcases hv with rfl|rfl
   ·exact .inr ⟨by rw[h6,hbr],J3 ar wr cu to hl h6 h5 zaa zaa hj hk zaa⟩
   ·exact .inl (Iz ar wr cu to hl h6 h5 zaa zaa hj hk zaa (fun _=>by omega))
theorem A1A(nx q:Int)(sd au:List (List UInt8))(en:List UInt8)(ac re rs ck:Int)(od:Bool)(su mc l1 l2 l3 l4 l5 l6:Int)(h1:Y E0 (.call 50 [.agg [.sl (.sl .u8) ar,.i 0,.i 0,.i 0,.b false],.i 0] [])=some (.ret (.tup [.sl .u8 (encS sd au en ac re rs ck od [] su mc [] l1 l2 l3 l4 l5 l6 []),.i q,.i 0]) []))(hq:1<=q/\q<=900000)(hac:0<=ac/\ac<=3)(hsd:sd.length=3)(hau:au.length=4)(hsm:∀ x∈sd,x.length<=1000)(ham:∀ x∈au,x.length<=1000)(hen:en.length<=1000)(hre:0<=re/\re<=1000000)(hrs:0<=rs/\rs<=1000000)(hck:0<=ck/\ck<=2000000000000)(hsu:0<=su/\su<=1000000)(hmc:0<=mc/\mc<=2000000000000)(hl:Zl l1 l2 l3 l4 l5 l6):Y E0 (.call 25 [lI ar wr cu to true false nx] [])=some (.ret (.tup [Gm ar 0 0 0 false sd au en ac re rs ck od [] su mc [] l1 l2 l3 l4 l5 l6 [] false false [] 0 0 false 0 ED H8 [] [] true (q+1),.i 0]) []):=by
 have h2:=fD sd au en ac re rs ck od su mc l1 l2 l3 l4 l5 l6 hac hsd hau hsm ham hen hre hrs hck hsu hmc hl
 have h3:=Lm ar wr cu to true false nx [] [] [] 0 0 0 0 false [] 0 0 [] 0 0 0 0 0 0 [] false false [] 0 0 false 0 [] [] [] []
 refine tq ?_
 rw[h3]
 refine tq ?_
 rw[Uh ..]
 refine tq ?_
 rw[h1]
 refine tq ?_
 rw[h2]
 refine tq ?_
 rw[qL ..]
 exact tq rfl
theorem lw(loc:Int)(sd0:List (List UInt8))(au0:List (List UInt8))(en0:List UInt8)(ac0:Int)(re0:Int)(rs0:Int)(ck0:Int)(od0:Bool)(su0:Int)(mc0:Int)(ix0:List (El AB))(l10:Int)(l20:Int)(l30:Int)(l40:Int)(l50:Int)(l60:Int)(ks0:List (El BP))(st0:Bool)(sp0:Bool)(rb0:List (List (List UInt8)))(ru0:Int)(vc0:Int)(sf0:Bool)(dr0:Int)(ss0:List (El sesT))(ob0:List (El objT))(rl0:List Int)(wl0:List Int)(sd:List (List UInt8))(au:List (List UInt8))(en:List UInt8)(ac:Int)(re:Int)(rs:Int)(ck:Int)(od:Bool)(su:Int)(mc:Int)(ix:List (El AB))(l1:Int)(l2:Int)(l3:Int)(l4:Int)(l5:Int)(l6:Int)(ks:List (El BP))(st:Bool)(sp:Bool)(rb:List (List (List UInt8)))(ru:Int)(vc:Int)(sf:Bool)(dr:Int)(ss:List (El sesT))(ob:List (El objT))(rl:List Int)(wl:List Int)(c nb:Int)(hs:List Int)(az:List (El AL))(qi:List Int)(qb:List (List UInt8))(e:Int)(is:List Int)(bs ns:List (List UInt8))(hq:rqG c nb hs az qi qb)(hp:rpG e is bs ns)(hx:Y E0 (.call 131 [.agg [.sl (.sl .u8) sd0,.sl (.sl .u8) au0,.sl .u8 en0,.i ac0,.i re0,.i rs0,.i ck0,.b od0,.sl (.sl (.sl .u8)) [],.i su0,.i mc0,.sl AB ix0,.i l10,.i l20,.i l30,.i l40,.i l50,.i l60,.sl BP ks0,.b st0,.b sp0,.sl (.sl (.sl .u8)) rb0,.i ru0,.i vc0,.b sf0,.i dr0,.sl sesT ss0,.sl objT ob0,.sl .i64 rl0,.sl .i64 wl0],.i loc,rq c hs az qi qb] [])=some (.ret (.tup [.agg [.sl (.sl .u8) sd,.sl (.sl .u8) au,.sl .u8 en,.i ac,.i re,.i rs,.i ck,.b od,.sl (.sl (.sl .u8)) [],.i su,.i mc,.sl AB ix,.i l1,.i l2,.i l3,.i l4,.i l5,.i l6,.sl BP ks,.b st,.b sp,.sl (.sl (.sl .u8)) rb,.i ru,.i vc,.b sf,.i dr,.sl sesT ss,.sl objT ob,.sl .i64 rl,.sl .i64 wl],Jw e is bs ns]) [])):
  Y E0 (.call 38 [rq c hs az qi qb] [])=some (.ret (.tup [.sl .u8 (Gn c hs az qi qb),.i 0]) [])/\Y E0 (.call 81 [.agg [.sl (.sl .u8) sd0,.sl (.sl .u8) au0,.sl .u8 en0,.i ac0,.i re0,.i rs0,.i ck0,.b od0,.sl (.sl (.sl .u8)) [],.i su0,.i mc0,.sl AB ix0,.i l10,.i l20,.i l30,.i l40,.i l50,.i l60,.sl BP ks0,.b st0,.b sp0,.sl (.sl (.sl .u8)) rb0,.i ru0,.i vc0,.b sf0,.i dr0,.sl sesT ss0,.sl objT ob0,.sl .i64 rl0,.sl .i64 wl0],.i loc,.sl .u8 (Gn c hs az qi qb)] [])=some (.ret (.tup [.agg [.sl (.sl .u8) sd,.sl (.sl .u8) au,.sl .u8 en,.i ac,.i re,.i rs,.i ck,.b od,.sl (.sl (.sl .u8)) [],.i su,.i mc,.sl AB ix,.i l1,.i l2,.i l3,.i l4,.i l5,.i l6,.sl BP ks,.b st,.b sp,.sl (.sl (.sl .u8)) rb,.i ru,.i vc,.b sf,.i dr,.sl sesT ss,.sl objT ob,.sl .i64 rl,.sl .i64 wl],.sl .u8 (Gi e is bs ns)]) [])/\Y E0 (.call 40 [.sl .u8 (Gi e is bs ns)] [])=some (.ret (.tup [Jw e is bs ns,.i 0]) []):=by
 have hen:=qR c nb hs az qi qb hq.rs hq.rc hq.hl hq.al hq.il hq.bl hq.hm hq.am hq.im hq.bm hq.ln
 have hd:=iF c nb hs az qi qb hq.cb hq.sh hq.ct hq.hl hq.al hq.il hq.bl hq.hm hq.am hq.im hq.bm hq.ln
 have hr:Y E0 (.call 130 [Jw e is bs ns] [])=some (.ret (.sl .u8 (Gi e is bs ns)) []):=by
  rcases hp.er with rfl|⟨h,rfl,rfl,rfl⟩
  ·exact A0x is bs ns hp.il hp.bl hp.nl hp.bm hp.nm
  ·exact iG e [] [] [] zaa
 have hdr:Y E0 (.call 40 [.sl .u8 (Gi e is bs ns)] [])=some (.ret (.tup [Jw e is bs ns,.i 0]) []):=by
  rcases hp.er with rfl|⟨h,rfl,rfl,rfl⟩
  ·exact A49 is bs ns hp.il hp.bl hp.nl hp.im hp.bm hp.nm
  ·exact A0y e [] [] [] h
 exact⟨hen,A12 sd0 au0 en0 ac0 re0 rs0 ck0 od0 su0 mc0 ix0 l10 l20 l30 l40 l50 l60 ks0 st0 sp0 rb0 ru0 vc0 sf0 dr0 ss0 ob0 rl0 wl0 sd au en ac re rs ck od su mc ix l1 l2 l3 l4 l5 l6 ks st sp rb ru vc sf dr ss ob rl wl loc c hs az qi qb e (Gn c hs az qi qb) is bs ns hd hx hr,hdr⟩
theorem A1B(nx loc:Int)(sd0:List (List UInt8))(au0:List (List UInt8))(en0:List UInt8)(ac0:Int)(re0:Int)(rs0:Int)(ck0:Int)(od0:Bool)(su0:Int)(mc0:Int)(ix0:List (El AB))(l10:Int)(l20:Int)(l30:Int)(l40:Int)(l50:Int)(l60:Int)(ks0:List (El BP))(st0:Bool)(sp0:Bool)(rb0:List (List (List UInt8)))(ru0:Int)(vc0:Int)(sf0:Bool)(dr0:Int)(ss0:List (El sesT))(ob0:List (El objT))(rl0:List Int)(wl0:List Int)(sd:List (List UInt8))(au:List (List UInt8))(en:List UInt8)(ac:Int)(re:Int)(rs:Int)(ck:Int)(od:Bool)(su:Int)(mc:Int)(ix:List (El AB))(l1:Int)(l2:Int)(l3:Int)(l4:Int)(l5:Int)(l6:Int)(ks:List (El BP))(st:Bool)(sp:Bool)(rb:List (List (List UInt8)))(ru:Int)(vc:Int)(sf:Bool)(dr:Int)(ss:List (El sesT))(ob:List (El objT))(rl:List Int)(wl:List Int)(c nb:Int)(hs:List Int)(az:List (El AL))(qi:List Int)(qb:List (List UInt8))(e:Int)(is:List Int)(bs ns:List (List UInt8))(hq:rqG c nb hs az qi qb)(hp:rpG e is bs ns)(h0:stOK sd0 au0 en0 ac0 re0 rs0 ck0 su0 mc0 ix0 l10 l20 l30 l40 l50 l60 ks0)(h1:stOK sd au en ac re rs ck su mc ix l1 l2 l3 l4 l5 l6 ks)(he:encS sd au en ac re rs ck od [] su mc ix l1 l2 l3 l4 l5 l6 ks≠encS sd0 au0 en0 ac0 re0 rs0 ck0 od0 [] su0 mc0 ix0 l10 l20 l30 l40 l50 l60 ks0)(hl:2<=ar.length/\ar.length<=1000)(hw:0<=wr/\wr<=900000)(hn:1<=nx/\nx<=900000)(hx:Y E0 (.call 131 [.agg [.sl (.sl .u8) sd0,.sl (.sl .u8) au0,.sl .u8 en0,.i ac0,.i re0,.i rs0,.i ck0,.b od0,.sl (.sl (.sl .u8)) [],.i su0,.i mc0,.sl AB ix0,.i l10,.i l20,.i l30,.i l40,.i l50,.i l60,.sl BP ks0,.b st0,.b sp0,.sl (.sl (.sl .u8)) rb0,.i ru0,.i vc0,.b sf0,.i dr0,.sl sesT ss0,.sl objT ob0,.sl .i64 rl0,.sl .i64 wl0],.i loc,rq c hs az qi qb] [])=some (.ret (.tup [.agg [.sl (.sl .u8) sd,.sl (.sl .u8) au,.sl .u8 en,.i ac,.i re,.i rs,.i ck,.b od,.sl (.sl (.sl .u8)) [],.i su,.i mc,.sl AB ix,.i l1,.i l2,.i l3,.i l4,.i l5,.i l6,.sl BP ks,.b st,.b sp,.sl (.sl (.sl .u8)) rb,.i ru,.i vc,.b sf,.i dr,.sl sesT ss,.sl objT ob,.sl .i64 rl,.sl .i64 wl],Jw e is bs ns]) [])):
  Y E0 (.call 13 [Gm ar wr 0 to false sd0 au0 en0 ac0 re0 rs0 ck0 od0 [] su0 mc0 ix0 l10 l20 l30 l40 l50 l60 ks0 st0 sp0 rb0 ru0 vc0 sf0 dr0 ss0 ob0 rl0 wl0 true nx,.i loc,rq c hs az qi qb] [])=some (.ret (.tup [Gm (BL ar (nx%2) (Gv nx (encS sd au en ac re rs ck od [] su mc ix l1 l2 l3 l4 l5 l6 ks))) (wr+1) 0 to false sd au en ac re rs ck od [] su mc ix l1 l2 l3 l4 l5 l6 ks st sp rb ru vc sf dr ss ob rl wl true (nx+1),Jw e is bs ns,.b true]) []):=by
 obtain⟨r1,r2,r3⟩:=lw loc sd0 au0 en0 ac0 re0 rs0 ck0 od0 su0 mc0 ix0 l10 l20 l30 l40 l50 l60 ks0 st0 sp0 rb0 ru0 vc0 sf0 dr0 ss0 ob0 rl0 wl0 sd au en ac re rs ck od su mc ix l1 l2 l3 l4 l5 l6 ks st sp rb ru vc sf dr ss ob rl wl c nb hs az qi qb e is bs ns hq hp hx
 have hc:=SY ar wr to nx sd0 au0 en0 ac0 re0 rs0 ck0 od0 su0 mc0 ix0 l10 l20 l30 l40 l50 l60 ks0 st0 sp0 rb0 ru0 vc0 sf0 dr0 ss0 ob0 rl0 wl0 sd au en ac re rs ck od su mc ix l1 l2 l3 l4 l5 l6 ks st sp rb ru vc sf dr ss ob rl wl h0 h1 he hl hw hn
 exact A13 ar _ wr to nx (wr+1) (nx+1) loc sd0 au0 en0 ac0 re0 rs0 ck0 od0 su0 mc0 ix0 l10 l20 l30 l40 l50 l60 ks0 st0 sp0 rb0 ru0 vc0 sf0 dr0 ss0 ob0 rl0 wl0 sd au en ac re rs ck od su mc ix l1 l2 l3 l4 l5 l6 ks st sp rb ru vc sf dr ss ob rl wl c hs az qi qb (Gn c hs az qi qb) (Gi e is bs ns) e is bs ns r1 (qU ar _ wr to nx (wr+1) (nx+1) loc sd0 au0 en0 ac0 re0 rs0 ck0 od0 su0 mc0 ix0 l10 l20 l30 l40 l50 l60 ks0 st0 sp0 rb0 ru0 vc0 sf0 dr0 ss0 ob0 rl0 wl0 sd au en ac re rs ck od su mc ix l1 l2 l3 l4 l5 l6 ks st sp rb ru vc sf dr ss ob rl wl (Gn c hs az qi qb) (Gi e is bs ns) r2 hc) r3
theorem mD(nx loc:Int)(sd0:List (List UInt8))(au0:List (List UInt8))(en0:List UInt8)(ac0:Int)(re0:Int)(rs0:Int)(ck0:Int)(od0:Bool)(su0:Int)(mc0:Int)(ix0:List (El AB))(l10:Int)(l20:Int)(l30:Int)(l40:Int)(l50:Int)(l60:Int)(ks0:List (El BP))(st0:Bool)(sp0:Bool)(rb0:List (List (List UInt8)))(ru0:Int)(vc0:Int)(sf0:Bool)(dr0:Int)(ss0:List (El sesT))(ob0:List (El objT))(rl0:List Int)(wl0:List Int)(sd:List (List UInt8))(au:List (List UInt8))(en:List UInt8)(ac:Int)(re:Int)(rs:Int)(ck:Int)(od:Bool)(su:Int)(mc:Int)(ix:List (El AB))(l1:Int)(l2:Int)(l3:Int)(l4:Int)(l5:Int)(l6:Int)(ks:List (El BP))(st:Bool)(sp:Bool)(rb:List (List (List UInt8)))(ru:Int)(vc:Int)(sf:Bool)(dr:Int)(ss:List (El sesT))(ob:List (El objT))(rl:List Int)(wl:List Int)(c nb:Int)(hs:List Int)(az:List (El AL))(qi:List Int)(qb:List (List UInt8))(e:Int)(is:List Int)(bs ns:List (List UInt8))(hq:rqG c nb hs az qi qb)(hp:rpG e is bs ns)(h0:stOK sd0 au0 en0 ac0 re0 rs0 ck0 su0 mc0 ix0 l10 l20 l30 l40 l50 l60 ks0)(h1:stOK sd au en ac re rs ck su mc ix l1 l2 l3 l4 l5 l6 ks)(he:encS sd au en ac re rs ck od [] su mc ix l1 l2 l3 l4 l5 l6 ks=encS sd0 au0 en0 ac0 re0 rs0 ck0 od0 [] su0 mc0 ix0 l10 l20 l30 l40 l50 l60 ks0)(hx:Y E0 (.call 131 [.agg [.sl (.sl .u8) sd0,.sl (.sl .u8) au0,.sl .u8 en0,.i ac0,.i re0,.i rs0,.i ck0,.b od0,.sl (.sl (.sl .u8)) [],.i su0,.i mc0,.sl AB ix0,.i l10,.i l20,.i l30,.i l40,.i l50,.i l60,.sl BP ks0,.b st0,.b sp0,.sl (.sl (.sl .u8)) rb0,.i ru0,.i vc0,.b sf0,.i dr0,.sl sesT ss0,.sl objT ob0,.sl .i64 rl0,.sl .i64 wl0],.i loc,rq c hs az qi qb] [])=some (.ret (.tup [.agg [.sl (.sl .u8) sd,.sl (.sl .u8) au,.sl .u8 en,.i ac,.i re,.i rs,.i ck,.b od,.sl (.sl (.sl .u8)) [],.i su,.i mc,.sl AB ix,.i l1,.i l2,.i l3,.i l4,.i l5,.i l6,.sl BP ks,.b st,.b sp,.sl (.sl (.sl .u8)) rb,.i ru,.i vc,.b sf,.i dr,.sl sesT ss,.sl objT ob,.sl .i64 rl,.sl .i64 wl],Jw e is bs ns]) [])):
  Y E0 (.call 13 [Gm ar wr cu to false sd0 au0 en0 ac0 re0 rs0 ck0 od0 [] su0 mc0 ix0 l10 l20 l30 l40 l50 l60 ks0 st0 sp0 rb0 ru0 vc0 sf0 dr0 ss0 ob0 rl0 wl0 true nx,.i loc,rq c hs az qi qb] [])=some (.ret (.tup [Gm ar wr cu to false sd au en ac re rs ck od [] su mc ix l1 l2 l3 l4 l5 l6 ks st sp rb ru vc sf dr ss ob rl wl true nx,Jw e is bs ns,.b true]) []):=by
 obtain⟨r1,r2,r3⟩:=lw loc sd0 au0 en0 ac0 re0 rs0 ck0 od0 su0 mc0 ix0 l10 l20 l30 l40 l50 l60 ks0 st0 sp0 rb0 ru0 vc0 sf0 dr0 ss0 ob0 rl0 wl0 sd au en ac re rs ck od su mc ix l1 l2 l3 l4 l5 l6 ks st sp rb ru vc sf dr ss ob rl wl c nb hs az qi qb e is bs ns hq hp hx
 have hc:=jA ar wr cu to nx sd0 au0 en0 ac0 re0 rs0 ck0 od0 su0 mc0 ix0 l10 l20 l30 l40 l50 l60 ks0 st0 sp0 rb0 ru0 vc0 sf0 dr0 ss0 ob0 rl0 wl0 sd au en ac re rs ck od su mc ix l1 l2 l3 l4 l5 l6 ks st sp rb ru vc sf dr ss ob rl wl h0 h1 he
 exact A19 ar wr cu to nx loc sd0 au0 en0 ac0 re0 rs0 ck0 od0 su0 mc0 ix0 l10 l20 l30 l40 l50 l60 ks0 st0 sp0 rb0 ru0 vc0 sf0 dr0 ss0 ob0 rl0 wl0 sd au en ac re rs ck od su mc ix l1 l2 l3 l4 l5 l6 ks st sp rb ru vc sf dr ss ob rl wl c hs az qi qb (Gn c hs az qi qb) (Gi e is bs ns) e is bs ns r1 (vJ ar wr cu to nx loc sd0 au0 en0 ac0 re0 rs0 ck0 od0 su0 mc0 ix0 l10 l20 l30 l40 l50 l60 ks0 st0 sp0 rb0 ru0 vc0 sf0 dr0 ss0 ob0 rl0 wl0 sd au en ac re rs ck od su mc ix l1 l2 l3 l4 l5 l6 ks st sp rb ru vc sf dr ss ob rl wl (Gn c hs az qi qb) (Gi e is bs ns) r2 hc) r3
theorem A3H(nx loc:Int)(n:Nat)(old:List UInt8)(sd0:List (List UInt8))(au0:List (List UInt8))(en0:List UInt8)(ac0:Int)(re0:Int)(rs0:Int)(ck0:Int)(od0:Bool)(su0:Int)(mc0:Int)(ix0:List (El AB))(l10:Int)(l20:Int)(l30:Int)(l40:Int)(l50:Int)(l60:Int)(ks0:List (El BP))(st0:Bool)(sp0:Bool)(rb0:List (List (List UInt8)))(ru0:Int)(vc0:Int)(sf0:Bool)(dr0:Int)(ss0:List (El sesT))(ob0:List (El objT))(rl0:List Int)(wl0:List Int)(sd:List (List UInt8))(au:List (List UInt8))(en:List UInt8)(ac:Int)(re:Int)(rs:Int)(ck:Int)(od:Bool)(su:Int)(mc:Int)(ix:List (El AB))(l1:Int)(l2:Int)(l3:Int)(l4:Int)(l5:Int)(l6:Int)(ks:List (El BP))(st:Bool)(sp:Bool)(rb:List (List (List UInt8)))(ru:Int)(vc:Int)(sf:Bool)(dr:Int)(ss:List (El sesT))(ob:List (El objT))(rl:List Int)(wl:List Int)(c nb:Int)(hs:List Int)(az:List (El AL))(qi:List Int)(qb:List (List UInt8))(e:Int)(is:List Int)(bs ns:List (List UInt8))(hq:rqG c nb hs az qi qb)(hp:rpG e is bs ns)(h0:stOK sd0 au0 en0 ac0 re0 rs0 ck0 su0 mc0 ix0 l10 l20 l30 l40 l50 l60 ks0)(h1:stOK sd au en ac re rs ck su mc ix l1 l2 l3 l4 l5 l6 ks)(he:encS sd au en ac re rs ck od [] su mc ix l1 l2 l3 l4 l5 l6 ks≠encS sd0 au0 en0 ac0 re0 rs0 ck0 od0 [] su0 mc0 ix0 l10 l20 l30 l40 l50 l60 ks0)(hl:2<=ar.length/\ar.length<=1000)(hg:Ah ar (nx%2)=some old)(ho:old.length<=60000)(hnl:n<=44+(encS sd au en ac re rs ck od [] su mc ix l1 l2 l3 l4 l5 l6 ks).length)(hw:0<=wr/\wr<=900000)(hn:1<=nx/\nx<=900000)(hx:Y E0 (.call 131 [.agg [.sl (.sl .u8) sd0,.sl (.sl .u8) au0,.sl .u8 en0,.i ac0,.i re0,.i rs0,.i ck0,.b od0,.sl (.sl (.sl .u8)) [],.i su0,.i mc0,.sl AB ix0,.i l10,.i l20,.i l30,.i l40,.i l50,.i l60,.sl BP ks0,.b st0,.b sp0,.sl (.sl (.sl .u8)) rb0,.i ru0,.i vc0,.b sf0,.i dr0,.sl sesT ss0,.sl objT ob0,.sl .i64 rl0,.sl .i64 wl0],.i loc,rq c hs az qi qb] [])=some (.ret (.tup [.agg [.sl (.sl .u8) sd,.sl (.sl .u8) au,.sl .u8 en,.i ac,.i re,.i rs,.i ck,.b od,.sl (.sl (.sl .u8)) [],.i su,.i mc,.sl AB ix,.i l1,.i l2,.i l3,.i l4,.i l5,.i l6,.sl BP ks,.b st,.b sp,.sl (.sl (.sl .u8)) rb,.i ru,.i vc,.b sf,.i dr,.sl sesT ss,.sl objT ob,.sl .i64 rl,.sl .i64 wl],Jw e is bs ns]) [])):
  Y E0 (.call 13 [Gm ar wr (wr+1) (n:Int) false sd0 au0 en0 ac0 re0 rs0 ck0 od0 [] su0 mc0 ix0 l10 l20 l30 l40 l50 l60 ks0 st0 sp0 rb0 ru0 vc0 sf0 dr0 ss0 ob0 rl0 wl0 true nx,.i loc,rq c hs az qi qb] [])=some (.ret (.tup [lI (BL ar (nx%2) (JU n (Gv nx (encS sd au en ac re rs ck od [] su mc ix l1 l2 l3 l4 l5 l6 ks)) old)) (wr+1) (wr+1) (n:Int) true false nx,Jw 0 [] [] [],.b false]) []):=by
 obtain⟨r1,r2,r3⟩:=lw loc sd0 au0 en0 ac0 re0 rs0 ck0 od0 su0 mc0 ix0 l10 l20 l30 l40 l50 l60 ks0 st0 sp0 rb0 ru0 vc0 sf0 dr0 ss0 ob0 rl0 wl0 sd au en ac re rs ck od su mc ix l1 l2 l3 l4 l5 l6 ks st sp rb ru vc sf dr ss ob rl wl c nb hs az qi qb e is bs ns hq hp hx
 have hc:=iy ar wr nx n old sd0 au0 en0 ac0 re0 rs0 ck0 od0 su0 mc0 ix0 l10 l20 l30 l40 l50 l60 ks0 st0 sp0 rb0 ru0 vc0 sf0 dr0 ss0 ob0 rl0 wl0 sd au en ac re rs ck od su mc ix l1 l2 l3 l4 l5 l6 ks st sp rb ru vc sf dr ss ob rl wl h0 h1 he hl hg ho hnl hw hn
 exact A18 ar _ wr (wr+1) n (wr+1) (wr+1) n nx nx loc sd0 au0 en0 ac0 re0 rs0 ck0 od0 su0 mc0 ix0 l10 l20 l30 l40 l50 l60 ks0 st0 sp0 rb0 ru0 vc0 sf0 dr0 ss0 ob0 rl0 wl0 c hs az qi qb (Gn c hs az qi qb) r1 (vI ar _ wr (wr+1) n (wr+1) (wr+1) n nx nx loc sd0 au0 en0 ac0 re0 rs0 ck0 od0 su0 mc0 ix0 l10 l20 l30 l40 l50 l60 ks0 st0 sp0 rb0 ru0 vc0 sf0 dr0 ss0 ob0 rl0 wl0 sd au en ac re rs ck od su mc ix l1 l2 l3 l4 l5 l6 ks st sp rb ru vc sf dr ss ob rl wl (Gn c hs az qi qb) (Gi e is bs ns) r2 hc)
end
end Go.Proofs.YtanagnimhaemgaaGreatDoor
