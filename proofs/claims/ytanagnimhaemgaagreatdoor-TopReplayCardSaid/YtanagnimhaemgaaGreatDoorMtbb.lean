/-
  Own texts, laid together for this claim: contracts of functions of the program and its references, used by the statements of this seat.
-/
import Derived.Test.YtanagnimhaemgaaGreatDoorMtab
import Derived.Test.YtanagnimhaemgaaGreatDoorMtac
import Derived.Test.YtanagnimhaemgaaGreatDoorMtad
import Derived.Test.YtanagnimhaemgaaGreatDoorMtaf
import Derived.Test.YtanagnimhaemgaaGreatDoorMtag
import Derived.Test.YtanagnimhaemgaaGreatDoorMtah
import Derived.Test.YtanagnimhaemgaaGreatDoorMtaj
import Derived.Test.YtanagnimhaemgaaGreatDoorMtak
import Derived.Test.YtanagnimhaemgaaGreatDoorMtal
import Derived.Test.YtanagnimhaemgaaGreatDoorMtan
import Derived.Test.YtanagnimhaemgaaGreatDoorMtas
import Derived.Test.YtanagnimhaemgaaGreatDoorMtat
import Derived.Test.YtanagnimhaemgaaGreatDoorMtau
import Derived.Test.YtanagnimhaemgaaGreatDoorMtaw
import Derived.Test.YtanagnimhaemgaaGreatDoorMtay
import Derived.Test.YtanagnimhaemgaaGreatDoorMtba
set_option linter.all false
set_option maxHeartbeats 40000000
set_option maxRecDepth 100000
namespace Go.Proofs.YtanagnimhaemgaaGreatDoor
open Go Go.Ax Go.Eng
variable (ar:List (List UInt8))(h:Int)(d x:List UInt8)(ar':List (List UInt8))(wr:Int)(sd au:List (List UInt8))
section
attribute [local irreducible] BL BM BN BO BP BJ BQ CX Cm CY CW Ba Bc BF BC and' BG Bd Aa Ac Ad Ae Af AL AO AP AQ BR D8 BU D5 Be Bf Ag Ah Ai Aj AB AZ AU Ar BA BV BH BB Au Aw BI Bg BX fits BZ BK A7 A8 AC
theorem chk_of{c nb:Int}{hs:List Int}{az:List (El MR)}{is:List Int}{bs:List (List UInt8)}(h:rqG c nb hs az is bs):Y E0 (.call 160 [rq c hs az is bs] [])=some (.ret (.i 0) []) :=
 ev_ccheck c nb hs az is bs h.sh h.ct h.hl h.al h.il h.bl h.hm h.am h.im h.bm h.ln
theorem rq_su:rqG 1 0 [] [] [0] []:=by
 refine⟨ev_shape1,ev_counted 0,ev_r22s1,ev_rfits 0,by decide,by decide,by decide,by decide,by decide,by simp,by simp,by simp,by simp,?_⟩
 simp only[lT,aN,List.length_append,n2_len,List.flatMap_nil,List.flatMap_cons,List.length_nil,List.length_cons,n8_len]
 decide
theorem ev_al_l(sd:List (List UInt8))(au:List (List UInt8))(en:List UInt8)(ac:Int)(re:Int)(rs:Int)(ck:Int)(od:Bool)(su:Int)(mc:Int)(ix:List (El FU))(l1:Int)(l2:Int)(l3:Int)(l4:Int)(l5:Int)(l6:Int)(ks:List (El IJ))(st:Bool)(sp:Bool)(rb:List (List (List UInt8)))(ru:Int)(vc:Int)(sf:Bool)(dr:Int)(ss:List (El Gi))(ob:List (El objT))(rl:List Int)(wl:List Int)(c:Int)(hs:List Int)(az:List (El MR))(is:List Int)(bs:List (List UInt8))(hl:hs.length<=10)(hn:∀ h∈hs,∃ x,Y E0 (.call 181 [.agg [.sl (.sl .u8) sd,.sl (.sl .u8) au,.sl .u8 en,.i ac,.i re,.i rs,.i ck,.b od,.sl (.sl (.sl .u8)) [],.i su,.i mc,.sl FU ix,.i l1,.i l2,.i l3,.i l4,.i l5,.i l6,.sl IJ ks,.b st,.b sp,.sl (.sl (.sl .u8)) rb,.i ru,.i vc,.b sf,.i dr,.sl Gi ss,.sl objT ob,.sl .i64 rl,.sl .i64 wl],.i h] [])=some (.ret (.tup [.sl .u8 x,.i 0]) [])):∀(k j:Nat),j+k=hs.length ->
  Y E0 (.loop 162 0 0 2 [(2,.pa 0 0),(3,.pa 1 0),(15,.sl .i64 hs),(16,.i (hs.length:Int)),(17,.i (j:Int))] [(0,some (.var [.sl (.sl .u8) sd,.sl (.sl .u8) au,.sl .u8 en,.i ac,.i re,.i rs,.i ck,.b od,.sl (.sl (.sl .u8)) [],.i su,.i mc,.sl FU ix,.i l1,.i l2,.i l3,.i l4,.i l5,.i l6,.sl IJ ks,.b st,.b sp,.sl (.sl (.sl .u8)) rb,.i ru,.i vc,.b sf,.i dr,.sl Gi ss,.sl objT ob,.sl .i64 rl,.sl .i64 wl])),(1,some (.var [.i c,.sl .i64 hs,.sl MR az,.sl .i64 is,.sl (.sl .u8) bs]))])
   = some (.fin (.exit 0) 2 [(2,.pa 0 0),(3,.pa 1 0)] [(0,some (.var [.sl (.sl .u8) sd,.sl (.sl .u8) au,.sl .u8 en,.i ac,.i re,.i rs,.i ck,.b od,.sl (.sl (.sl .u8)) [],.i su,.i mc,.sl FU ix,.i l1,.i l2,.i l3,.i l4,.i l5,.i l6,.sl IJ ks,.b st,.b sp,.sl (.sl (.sl .u8)) rb,.i ru,.i vc,.b sf,.i dr,.sl Gi ss,.sl objT ob,.sl .i64 rl,.sl .i64 wl])),(1,some (.var [.i c,.sl .i64 hs,.sl MR az,.sl .i64 is,.sl (.sl .u8) bs]))])
 | 0,j,hj=>by
  obtain rfl:j=hs.length:=zf
  rw[JB];conv=>lhs;whnf
  refine tq ?_
  with_reducible rfl
 | k+1,j,hj=>by
  obtain⟨x,hm,hg⟩:=get_m (l:=hs) (i:=(j:Int)) zf
  obtain⟨nm,ho⟩:=hn x hm
  have ih:=ev_al_l sd au en ac re rs ck od su mc ix l1 l2 l3 l4 l5 l6 ks st sp rb ru vc sf dr ss ob rl wl c hs az is bs hl hn k (j+1) zf
  rw[show((j+1:Nat):Int)=(j:Int)+1 from by omega] at ih
  rw[JB];conv=>lhs;whnf
  refine to ?_
  rw[hg]
  refine tq ?_
  rw[ho]
  refine tq ?_
  exact ih
theorem ev_allowed0(en:List UInt8)(ac:Int)(re:Int)(rs:Int)(ck:Int)(od:Bool)(su:Int)(mc:Int)(ix:List (El FU))(l1:Int)(l2:Int)(l3:Int)(l4:Int)(l5:Int)(l6:Int)(ks:List (El IJ))(st:Bool)(sp:Bool)(rb:List (List (List UInt8)))(ru:Int)(vc:Int)(sf:Bool)(dr:Int)(ss:List (El Gi))(ob:List (El objT))(rl:List Int)(wl:List Int)(c:Int)(az:List (El MR))(is:List Int)(bs:List (List UInt8)):Y E0 (.call 162 [.agg [.sl (.sl .u8) sd,.sl (.sl .u8) au,.sl .u8 en,.i ac,.i re,.i rs,.i ck,.b od,.sl (.sl (.sl .u8)) [],.i su,.i mc,.sl FU ix,.i l1,.i l2,.i l3,.i l4,.i l5,.i l6,.sl IJ ks,.b st,.b sp,.sl (.sl (.sl .u8)) rb,.i ru,.i vc,.b sf,.i dr,.sl Gi ss,.sl objT ob,.sl .i64 rl,.sl .i64 wl],rq c [] az is bs] [])=some (.ret (.b true) []):=by
 have l0:=ev_al_l sd au en ac re rs ck od su mc ix l1 l2 l3 l4 l5 l6 ks st sp rb ru vc sf dr ss ob rl wl c [] az is bs zB zB 0 0 rfl
 have e2:Ar ([]:List Int)=0:=by rw[QP];rfl
 rw[show((List.length ([]:List Int):Nat):Int)=0 from rfl,show((0:Nat):Int)=0 from rfl] at l0
 refine tq ?_
 simp only[e2,Nat.reduceAdd];rw[l0]
 conv=>lhs;whnf
 rw[e2]
 exact tq rfl
theorem ev_mfail(en:List UInt8)(ac:Int)(re:Int)(rs:Int)(ck:Int)(od:Bool)(su:Int)(mc:Int)(ix:List (El FU))(l1:Int)(l2:Int)(l3:Int)(l4:Int)(l5:Int)(l6:Int)(ks:List (El IJ))(st:Bool)(sp:Bool)(rb:List (List (List UInt8)))(ru:Int)(vc:Int)(sf:Bool)(dr:Int)(ss:List (El Gi))(ob:List (El objT))(rl:List Int)(wl:List Int)(e:Int):Y E0 (.call 161 [.agg [.sl (.sl .u8) sd,.sl (.sl .u8) au,.sl .u8 en,.i ac,.i re,.i rs,.i ck,.b od,.sl (.sl (.sl .u8)) [],.i su,.i mc,.sl FU ix,.i l1,.i l2,.i l3,.i l4,.i l5,.i l6,.sl IJ ks,.b st,.b sp,.sl (.sl (.sl .u8)) rb,.i ru,.i vc,.b sf,.i dr,.sl Gi ss,.sl objT ob,.sl .i64 rl,.sl .i64 wl],.i e] [])=some (.ret (.tup [.agg [.sl (.sl .u8) sd,.sl (.sl .u8) au,.sl .u8 en,.i ac,.i re,.i rs,.i ck,.b od,.sl (.sl (.sl .u8)) [],.i su,.i mc,.sl FU ix,.i l1,.i l2,.i l3,.i l4,.i l5,.i l6,.sl IJ ks,.b st,.b sp,.sl (.sl (.sl .u8)) rb,.i ru,.i vc,.b sf,.i dr,.sl Gi ss,.sl objT ob,.sl .i64 rl,.sl .i64 wl],nV e [] [] []]) []):=by
 refine tq ?_
 with_reducible rfl
theorem ev_done(sd0:List (List UInt8))(au0:List (List UInt8))(en0:List UInt8)(ac0:Int)(re0:Int)(rs0:Int)(ck0:Int)(od0:Bool)(su0:Int)(mc0:Int)(ix0:List (El FU))(l10:Int)(l20:Int)(l30:Int)(l40:Int)(l50:Int)(l60:Int)(ks0:List (El IJ))(st0:Bool)(sp0:Bool)(rb0:List (List (List UInt8)))(ru0:Int)(vc0:Int)(sf0:Bool)(dr0:Int)(ss0:List (El Gi))(ob0:List (El objT))(rl0:List Int)(wl0:List Int)(sd:List (List UInt8))(au:List (List UInt8))(en:List UInt8)(ac:Int)(re:Int)(rs:Int)(ck:Int)(od:Bool)(su:Int)(mc:Int)(ix:List (El FU))(l1:Int)(l2:Int)(l3:Int)(l4:Int)(l5:Int)(l6:Int)(ks:List (El IJ))(st:Bool)(sp:Bool)(rb:List (List (List UInt8)))(ru:Int)(vc:Int)(sf:Bool)(dr:Int)(ss:List (El Gi))(ob:List (El objT))(rl:List Int)(wl:List Int):Y E0 (.call 185 [.agg [.sl (.sl .u8) sd0,.sl (.sl .u8) au0,.sl .u8 en0,.i ac0,.i re0,.i rs0,.i ck0,.b od0,.sl (.sl (.sl .u8)) [],.i su0,.i mc0,.sl FU ix0,.i l10,.i l20,.i l30,.i l40,.i l50,.i l60,.sl IJ ks0,.b st0,.b sp0,.sl (.sl (.sl .u8)) rb0,.i ru0,.i vc0,.b sf0,.i dr0,.sl Gi ss0,.sl objT ob0,.sl .i64 rl0,.sl .i64 wl0],.agg [.sl (.sl .u8) sd,.sl (.sl .u8) au,.sl .u8 en,.i ac,.i re,.i rs,.i ck,.b od,.sl (.sl (.sl .u8)) [],.i su,.i mc,.sl FU ix,.i l1,.i l2,.i l3,.i l4,.i l5,.i l6,.sl IJ ks,.b st,.b sp,.sl (.sl (.sl .u8)) rb,.i ru,.i vc,.b sf,.i dr,.sl Gi ss,.sl objT ob,.sl .i64 rl,.sl .i64 wl],.i 0] [])=some (.ret (.tup [.agg [.sl (.sl .u8) sd,.sl (.sl .u8) au,.sl .u8 en,.i ac,.i re,.i rs,.i ck,.b od,.sl (.sl (.sl .u8)) [],.i su,.i mc,.sl FU ix,.i l1,.i l2,.i l3,.i l4,.i l5,.i l6,.sl IJ ks,.b st,.b sp,.sl (.sl (.sl .u8)) rb,.i ru,.i vc,.b sf,.i dr,.sl Gi ss,.sl objT ob,.sl .i64 rl,.sl .i64 wl],nV 0 [] [] []]) []):=by
 refine tq ?_
 with_reducible rfl
theorem ev_plsu(en:List UInt8)(ac:Int)(re:Int)(rs:Int)(ck:Int)(od:Bool)(su:Int)(mc:Int)(ix:List (El FU))(l1:Int)(l2:Int)(l3:Int)(l4:Int)(l5:Int)(l6:Int)(ks:List (El IJ))(st:Bool)(sp:Bool)(rb:List (List (List UInt8)))(ru:Int)(vc:Int)(sf:Bool)(dr:Int)(ss:List (El Gi))(ob:List (El objT))(rl:List Int)(wl:List Int)(h:st=false/\sp=false)(ha:ac=2)(hre:0<=re/\re<=1000000):Y E0 (.call 163 [.agg [.sl (.sl .u8) sd,.sl (.sl .u8) au,.sl .u8 en,.i ac,.i re,.i rs,.i ck,.b od,.sl (.sl (.sl .u8)) [],.i su,.i mc,.sl FU ix,.i l1,.i l2,.i l3,.i l4,.i l5,.i l6,.sl IJ ks,.b st,.b sp,.sl (.sl (.sl .u8)) rb,.i ru,.i vc,.b sf,.i dr,.sl Gi ss,.sl objT ob,.sl .i64 rl,.sl .i64 wl],.i 0,rq 1 [] [] [0] []] [])=some (.ret (.tup [.agg [.sl (.sl .u8) sd,.sl (.sl .u8) au,.sl .u8 en,.i ac,.i (re+1),.i 0,.i ck,.b false,.sl (.sl (.sl .u8)) [],.i 0,.i mc,.sl FU ix,.i l1,.i l2,.i l3,.i l4,.i l5,.i l6,.sl IJ ks,.b true,.b sp,.sl (.sl (.sl .u8)) (newRB 2),.i 0,.i ck,.b od,.i dr,.sl Gi ss,.sl objT ob,.sl .i64 rl,.sl .i64 wl],nV 0 [] [] []]) []):=by
 have ha:=ev_sstart sd au en ac re rs ck od [] su mc ix l1 l2 l3 l4 l5 l6 ks st sp rb ru vc sf dr ss ob rl wl h ha hre
 refine tq ?_
 rw[ha]
 refine tq ?_
 rw[ev_done ..]
 exact tq rfl
theorem ev_exsu(en:List UInt8)(ac:Int)(re:Int)(rs:Int)(ck:Int)(od:Bool)(su:Int)(mc:Int)(ix:List (El FU))(l1:Int)(l2:Int)(l3:Int)(l4:Int)(l5:Int)(l6:Int)(ks:List (El IJ))(st:Bool)(sp:Bool)(rb:List (List (List UInt8)))(ru:Int)(vc:Int)(sf:Bool)(dr:Int)(ss:List (El Gi))(ob:List (El objT))(rl:List Int)(wl:List Int)(h:st=false/\sp=false)(ha:ac=2)(hre:0<=re/\re<=1000000):Y E0 (.call 131 [.agg [.sl (.sl .u8) sd,.sl (.sl .u8) au,.sl .u8 en,.i ac,.i re,.i rs,.i ck,.b od,.sl (.sl (.sl .u8)) [],.i su,.i mc,.sl FU ix,.i l1,.i l2,.i l3,.i l4,.i l5,.i l6,.sl IJ ks,.b st,.b sp,.sl (.sl (.sl .u8)) rb,.i ru,.i vc,.b sf,.i dr,.sl Gi ss,.sl objT ob,.sl .i64 rl,.sl .i64 wl],.i 0,rq 1 [] [] [0] []] [])=some (.ret (.tup [.agg [.sl (.sl .u8) sd,.sl (.sl .u8) au,.sl .u8 en,.i ac,.i (re+1),.i 0,.i ck,.b false,.sl (.sl (.sl .u8)) [],.i 0,.i mc,.sl FU ix,.i l1,.i l2,.i l3,.i l4,.i l5,.i l6,.sl IJ ks,.b true,.b sp,.sl (.sl (.sl .u8)) (newRB 2),.i 0,.i ck,.b od,.i dr,.sl Gi ss,.sl objT ob,.sl .i64 rl,.sl .i64 wl],nV 0 [] [] []]) []):=by
 have hk:=chk_of rq_su
 have ha:=ev_plsu sd au en ac re rs ck od su mc ix l1 l2 l3 l4 l5 l6 ks st sp rb ru vc sf dr ss ob rl wl h ha hre
 refine tq ?_
 rw[hk]
 refine tq ?_
 rw[ev_allowed0 ..]
 refine tq ?_
 rw[ha]
 exact tq rfl
theorem ev_must(to nx wr' nx' loc:Int)(sd0:List (List UInt8))(au0:List (List UInt8))(en0:List UInt8)(ac0:Int)(re0:Int)(rs0:Int)(ck0:Int)(od0:Bool)(su0:Int)(mc0:Int)(ix0:List (El FU))(l10:Int)(l20:Int)(l30:Int)(l40:Int)(l50:Int)(l60:Int)(ks0:List (El IJ))(st0:Bool)(sp0:Bool)(rb0:List (List (List UInt8)))(ru0:Int)(vc0:Int)(sf0:Bool)(dr0:Int)(ss0:List (El Gi))(ob0:List (El objT))(rl0:List Int)(wl0:List Int)(sd:List (List UInt8))(au:List (List UInt8))(en:List UInt8)(ac:Int)(re:Int)(rs:Int)(ck:Int)(od:Bool)(su:Int)(mc:Int)(ix:List (El FU))(l1:Int)(l2:Int)(l3:Int)(l4:Int)(l5:Int)(l6:Int)(ks:List (El IJ))(st:Bool)(sp:Bool)(rb:List (List (List UInt8)))(ru:Int)(vc:Int)(sf:Bool)(dr:Int)(ss:List (El Gi))(ob:List (El objT))(rl:List Int)(wl:List Int)(c:Int)(hs:List Int)(az:List (El MR))(qi:List Int)(qb:List (List UInt8))(e n m:Int)(is:List Int)(bs ns:List (List UInt8))(ha:Y E0 (.call 13 [nG ar wr 0 to false sd0 au0 en0 ac0 re0 rs0 ck0 od0 [] su0 mc0 ix0 l10 l20 l30 l40 l50 l60 ks0 st0 sp0 rb0 ru0 vc0 sf0 dr0 ss0 ob0 rl0 wl0 true nx,.i loc,rq c hs az qi qb] [])=some (.ret (.tup [nG ar' wr' 0 to false sd au en ac re rs ck od [] su mc ix l1 l2 l3 l4 l5 l6 ks st sp rb ru vc sf dr ss ob rl wl true nx',nV e is bs ns,.b true]) []))(hl:is.length<=10/\bs.length<=10)(he:e=0)(hn:(is.length:Int)=n)(hm:(bs.length:Int)=m):
  Y E0 (.call 9 [nG ar wr 0 to false sd0 au0 en0 ac0 re0 rs0 ck0 od0 [] su0 mc0 ix0 l10 l20 l30 l40 l50 l60 ks0 st0 sp0 rb0 ru0 vc0 sf0 dr0 ss0 ob0 rl0 wl0 true nx,.i loc,rq c hs az qi qb,.i n,.i m] [])=some (.ret (.tup [nG ar' wr' 0 to false sd au en ac re rs ck od [] su mc ix l1 l2 l3 l4 l5 l6 ks st sp rb ru vc sf dr ss ob rl wl true nx',nV e is bs ns,.b true]) []):=by
 refine tq ?_
 rw[ha]
 conv=>lhs;whnf
 try dsimp -iota -beta -eta -zeta only
 rw[fD zf]
 conv=>lhs;whnf
 rw[fD (by(simp only[n8_len,n4_len,n2_len,bl_len,Gu,OO,Xa,ZO,LL] at *<;>omega))]
 conv=>lhs;whnf
 try dsimp -iota -beta -eta -zeta only
 rw[drw zi];conv=>lhs;whnf
 try dsimp -iota -beta -eta -zeta only
 (congr 3;simp only[bu,bz,ilt_eq,ile_eq,UK,bi,QP];first|rfl|(rw[decide_eq_decide];omega)|(simp;omega))
theorem ev_startup:Y E0 (.call 27 [.i 0] [])=some (.ret (rq 1 [] [] [0] []) []):=by
 refine tq ?_
 with_reducible rfl
theorem ev_make(en:List UInt8)(he:en.length=32)(p:List UInt8)(hp:encS (seedsE en) [[],[],[],[]] (D7 en entrL [] 32) 2 0 0 0 true [] 0 0 [] 0 5 100 0 0 1000 []=p)(hok:stOK (seedsE en) [[],[],[],[]] (D7 en entrL [] 32) 2 0 0 0 0 0 [] 0 5 100 0 0 1000 []):Y E0 (.call 37 [.i 4,.sl .u8 en,.i 2] [])=some (.ret (.tup [nT (BH [[],[],[],[]] 1 (rcdB 1 p)) 1 0 0 true false 2,.i 0]) []):=by
 have hn:=ev_snew en 2 he zh
 have hl:=encS_len _ _ _ _ _ _ _ true _ _ _ _ _ _ _ _ _ _ hok
 have e1:=ev_senc (seedsE en) [[],[],[],[]] (D7 en entrL [] 32) 2 0 0 0 true 0 0 [] 0 5 100 0 0 1000 [] hok.sl hok.al hok.sm hok.am hok.en hok.il hok.im hok.kl hok.km
 rw[hp] at e1 hl
 have ec:=ev_jcommit [[],[],[],[]] 0 0 1 p zh zh zh zf zh
 rw[show(1:Int)%2=1 from rfl,show(0+1:Int)=1 from rfl] at ec
 refine tq ?_
 rw[hn]
 refine tq ?_
 rw[ev_dnew]
 refine tq ?_
 rw[e1]
 refine tq ?_
 rw[ec]
 refine tq ?_
 rw[ev_lose ..]
 exact tq rfl
theorem ar_make(p:List UInt8)(hp:p.length<=60000):arOK (BH [[],[],[],[]] 1 (rcdB 1 p)) 1 p:=by
 rw[UJ]
 exact⟨rfl,by decide,by decide,hp,rfl,.inl rfl⟩
end
section
attribute [local irreducible] BL BM BN BO BP BJ BQ CX Cm CY CW Ba Bc BF BC and' BG Bd Aa Ac Ad Ae Af AL AO AP AQ BR D8 BU D5 Be Bf Ag Ah Ai Aj AB AZ AU Ar BA BV BH BB Au Aw BI Bg BX fits BZ BK A7 A8 AC
@[reducible] def nH:List (El Gi):=List.replicate 3 (0,[],[],0,0,0,0,false)
@[reducible] def nI:List (El objT):=List.replicate 3 ((0,0,0,[],[]),([],[],[]),0)
theorem ev_cycle_w(wr' cu to to' nx nx' nx1:Int)(of on:Bool)(sd0:List (List UInt8))(au0:List (List UInt8))(en0:List UInt8)(ac0:Int)(re0:Int)(rs0:Int)(ck0:Int)(od0:Bool)(su0:Int)(mc0:Int)(ix0:List (El FU))(l10:Int)(l20:Int)(l30:Int)(l40:Int)(l50:Int)(l60:Int)(ks0:List (El IJ))(st0:Bool)(sp0:Bool)(rb0:List (List (List UInt8)))(ru0:Int)(vc0:Int)(sf0:Bool)(dr0:Int)(ss0:List (El Gi))(ob0:List (El objT))(rl0:List Int)(wl0:List Int)(sd:List (List UInt8))(au:List (List UInt8))(en:List UInt8)(ac:Int)(re:Int)(rs:Int)(ck:Int)(od:Bool)(su:Int)(mc:Int)(ix:List (El FU))(l1:Int)(l2:Int)(l3:Int)(l4:Int)(l5:Int)(l6:Int)(ks:List (El IJ))(st:Bool)(sp:Bool)(rb:List (List (List UInt8)))(ru:Int)(vc:Int)(sf:Bool)(dr:Int)(ss:List (El Gi))(ob:List (El objT))(rl:List Int)(wl:List Int)(sd2 au2:List (List UInt8))(en2:List UInt8)(ac2 re2 rs2 ck2:Int)(od2:Bool)(su2 mc2 l12 l22 l32 l42 l52 l62:Int)(hon:Y E0 (.call 25 [nT ar wr cu to true false nx] [])=some (.ret (.tup [nG ar 0 0 0 false sd2 au2 en2 ac2 re2 rs2 ck2 od2 [] su2 mc2 [] l12 l22 l32 l42 l52 l62 [] false false [] 0 0 false 0 nH nI [] [] true nx1,.i 0]) []))(hm:Y E0 (.call 9 [nG ar 0 0 0 false sd2 au2 en2 ac2 re2 rs2 ck2 od2 [] su2 mc2 [] l12 l22 l32 l42 l52 l62 [] false false [] 0 0 false 0 nH nI [] [] true nx1,.i 0,rq 1 [] [] [0] [],.i 0,.i 0] [])=some (.ret (.tup [nG ar' wr' 0 0 false sd au en ac re rs ck od [] su mc ix l1 l2 l3 l4 l5 l6 ks st sp rb ru vc sf dr ss ob rl wl true nx',nV 0 [] [] [],.b true]) [])):
  Y E0 (.call 16 [nG ar wr cu to of sd0 au0 en0 ac0 re0 rs0 ck0 od0 [] su0 mc0 ix0 l10 l20 l30 l40 l50 l60 ks0 st0 sp0 rb0 ru0 vc0 sf0 dr0 ss0 ob0 rl0 wl0 on nx] [])=some (.ret (.tup [nG ar' wr' 0 0 false sd au en ac re rs ck od [] su mc ix l1 l2 l3 l4 l5 l6 ks st sp rb ru vc sf dr ss ob rl wl true nx',.b true]) []):=by
 have hoff:=ev_poff ar wr cu to of on nx sd0 au0 en0 ac0 re0 rs0 ck0 od0 [] su0 mc0 ix0 l10 l20 l30 l40 l50 l60 ks0 st0 sp0 rb0 ru0 vc0 sf0 dr0 ss0 ob0 rl0 wl0
 refine tq ?_
 rw[hoff]
 refine tq ?_
 rw[hon]
 refine tq ?_
 rw[ev_startup]
 refine tq ?_
 rw[hm]
 exact tq rfl
theorem ev_cycle(cu to nx q:Int)(of on:Bool)(sd0:List (List UInt8))(au0:List (List UInt8))(en0:List UInt8)(ac0:Int)(re0:Int)(rs0:Int)(ck0:Int)(od0:Bool)(su0:Int)(mc0:Int)(ix0:List (El FU))(l10:Int)(l20:Int)(l30:Int)(l40:Int)(l50:Int)(l60:Int)(ks0:List (El IJ))(st0:Bool)(sp0:Bool)(rb0:List (List (List UInt8)))(ru0:Int)(vc0:Int)(sf0:Bool)(dr0:Int)(ss0:List (El Gi))(ob0:List (El objT))(rl0:List Int)(wl0:List Int)(sd au:List (List UInt8))(en:List UInt8)(re rs ck:Int)(od:Bool)(su mc l1 l2 l3 l4 l5 l6:Int)(har:arOK ar q (encS sd au en 2 re rs ck od [] su mc [] l1 l2 l3 l4 l5 l6 []))(hok:stOK sd au en 2 re rs ck su mc [] l1 l2 l3 l4 l5 l6 [])(hre:re<=900000)(hq:q<=700000):
  ∃ ar' wr' nx',arOK ar' (nx'-1) (encS sd au en 2 (re+1) 0 ck false [] 0 mc [] l1 l2 l3 l4 l5 l6 [])/\0<=wr'/\wr'<=nx'/\nx'<=q+2/\Y E0 (.call 16 [nG ar wr cu to of sd0 au0 en0 ac0 re0 rs0 ck0 od0 [] su0 mc0 ix0 l10 l20 l30 l40 l50 l60 ks0 st0 sp0 rb0 ru0 vc0 sf0 dr0 ss0 ob0 rl0 wl0 on nx] [])=some (.ret (.tup [nG ar' wr' 0 0 false sd au en 2 (re+1) 0 ck false [] 0 mc [] l1 l2 l3 l4 l5 l6 [] true false (newRB 2) 0 ck od 0 nH nI [] [] true nx',.b true]) []):=by
 have hon:=ev_pon ar wr cu to nx q sd au en 2 re rs ck od su mc l1 l2 l3 l4 l5 l6 har zh hok.sl hok.al hok.sm hok.am hok.en hok.re hok.rs hok.ck hok.su hok.mc hok.lk
 have hq1:1<=q:=har.2.1
 have h1:stOK sd au en 2 (re+1) 0 ck 0 mc [] l1 l2 l3 l4 l5 l6 []:=⟨hok.sl,hok.al,hok.sm,hok.am,hok.en,hok.ac,⟨by have:=hok.re;omega,by omega⟩,by decide,hok.ck,by decide,hok.mc,hok.il,hok.im,hok.lk,hok.kl,hok.km⟩
 have hp:rpG 0 [] [] []:=⟨.inl rfl,by decide,by decide,by decide,by simp,by simp,by simp⟩
 have hx:=ev_exsu sd au en 2 re rs ck od su mc [] l1 l2 l3 l4 l5 l6 [] false false [] 0 0 false 0 nH nI [] [] ⟨rfl,rfl⟩ rfl hok.re
 obtain⟨ar',wr',nx',k1,k2,k3,k4,_,ha⟩:=ask_of ar 0 0 (q+1) 0 sd au en 2 re rs ck od su mc [] l1 l2 l3 l4 l5 l6 [] false false [] 0 0 false 0 nH nI [] [] sd au en 2 (re+1) 0 ck false 0 mc [] l1 l2 l3 l4 l5 l6 [] true false (newRB 2) 0 ck od 0 nH nI [] [] 1 0 [] [] [0] [] 0 [] [] [] rq_su hp hok h1 (by rw[show q+1-1=q from by omega];exact har) ⟨by decide,by omega⟩ zf hx
 refine⟨ar',wr',nx',k1,k2,k3,by omega,?_⟩
 have hm:=ev_must ar ar' 0 0 (q+1) wr' nx' 0 sd au en 2 re rs ck od su mc [] l1 l2 l3 l4 l5 l6 [] false false [] 0 0 false 0 nH nI [] [] sd au en 2 (re+1) 0 ck false 0 mc [] l1 l2 l3 l4 l5 l6 [] true false (newRB 2) 0 ck od 0 nH nI [] [] 1 [] [] [0] [] 0 0 0 [] [] [] ha zh rfl rfl rfl
 exact ev_cycle_w ar ar' wr wr' cu to 0 nx nx' (q+1) of on sd0 au0 en0 ac0 re0 rs0 ck0 od0 su0 mc0 ix0 l10 l20 l30 l40 l50 l60 ks0 st0 sp0 rb0 ru0 vc0 sf0 dr0 ss0 ob0 rl0 wl0 sd au en 2 (re+1) 0 ck false 0 mc [] l1 l2 l3 l4 l5 l6 [] true false (newRB 2) 0 ck od 0 nH nI [] [] sd au en 2 re rs ck od su mc l1 l2 l3 l4 l5 l6 hon hm
end
section
attribute [local irreducible] BL BM BN BO BP BJ BQ CX Cm CY CW Ba Bc BF BC and' BG Bd Aa Ac Ad Ae Af AL AO AP AQ BR D8 BU D5 Be Bf Ag Ah Ai Aj AB AZ AU Ar BA BV BH BB Au Aw BI Bg BX fits BZ BK A7 A8 AC
@[irreducible] def zen:List UInt8:=List.replicate 32 0
theorem zen_len:zen.length=32:=by rw[zen];simp
theorem ok_new(re:Int)(hre:0<=re/\re<=10):stOK (seedsE zen) [[],[],[],[]] (D7 zen entrL [] 32) 2 re 0 0 0 0 [] 0 5 100 0 0 1000 []:=by
 refine⟨seedsE_len _,rfl,seedsE_le _,?_,?_,by decide,by omega,by decide,by decide,by decide,by decide,by decide,by simp,by unfold Zj;omega,by decide,by simp⟩
 ·intro x hx
  simp at hx
  rw[hx];decide
 ·rw[OY zh];decide
theorem ev_fresh_w(ar':List (List UInt8))(wr' nx':Int)(sd:List (List UInt8))(au:List (List UInt8))(en:List UInt8)(ac:Int)(re:Int)(rs:Int)(ck:Int)(od:Bool)(su:Int)(mc:Int)(ix:List (El FU))(l1:Int)(l2:Int)(l3:Int)(l4:Int)(l5:Int)(l6:Int)(ks:List (El IJ))(st:Bool)(sp:Bool)(rb:List (List (List UInt8)))(ru:Int)(vc:Int)(sf:Bool)(dr:Int)(ss:List (El Gi))(ob:List (El objT))(rl:List Int)(wl:List Int)(hm:Y E0 (.call 37 [.i 4,.sl .u8 zen,.i 2] [])=some (.ret (.tup [nT ar wr 0 0 true false 2,.i 0]) []))(hc:Y E0 (.call 16 [nT ar wr 0 0 true false 2] [])=some (.ret (.tup [nG ar' wr' 0 0 false sd au en ac re rs ck od [] su mc ix l1 l2 l3 l4 l5 l6 ks st sp rb ru vc sf dr ss ob rl wl true nx',.b true]) [])):Y E0 (.call 8 [.i 2] [])=some (.ret (.tup [nG ar' wr' 0 0 false sd au en ac re rs ck od [] su mc ix l1 l2 l3 l4 l5 l6 ks st sp rb ru vc sf dr ss ob rl wl true nx',.b true]) []):=by
 have e:BJ .and 2 3=2:=by rw[ibit_eq];decide
 have hz:Au 32 (0:UInt8)=zen:=by rw[QQ,zen];rfl
 refine tq ?_
 rw[hz,e,hm]
 refine tq ?_
 rw[hc]
 exact tq rfl
theorem ev_fresh:∃ ar wr nx,arOK ar (nx-1) (encS (seedsE zen) [[],[],[],[]] (D7 zen entrL [] 32) 2 1 0 0 false [] 0 0 [] 0 5 100 0 0 1000 [])/\0<=wr/\wr<=nx/\nx<=3/\Y E0 (.call 8 [.i 2] [])=some (.ret (.tup [nG ar wr 0 0 false (seedsE zen) [[],[],[],[]] (D7 zen entrL [] 32) 2 1 0 0 false [] 0 0 [] 0 5 100 0 0 1000 [] true false (newRB 2) 0 0 true 0 nH nI [] [] true nx,.b true]) []):=by
 have h0:=ok_new 0 zh
 have hm:=ev_make zen zen_len _ rfl h0
 obtain⟨ar',wr',nx',k1,k2,k3,k4,hc⟩:=ev_cycle _ 1 0 0 2 1 true false [] [] [] 0 0 0 0 false 0 0 [] 0 0 0 0 0 0 [] false false [] 0 0 false 0 [] [] [] [] (seedsE zen) [[],[],[],[]] (D7 zen entrL [] 32) 0 0 0 true 0 0 0 5 100 0 0 1000 (ar_make _ (Nat.le_trans (encS_len _ _ _ _ _ _ _ true _ _ _ _ _ _ _ _ _ _ h0) zh)) h0 zh zh
 exact⟨ar',wr',nx',k1,k2,k3,k4,ev_fresh_w _ 1 ar' wr' nx' (seedsE zen) [[],[],[],[]] (D7 zen entrL [] 32) 2 1 0 0 false 0 0 [] 0 5 100 0 0 1000 [] true false (newRB 2) 0 0 true 0 nH nI [] [] hm hc⟩
end
theorem ev_rfits_m(n:Int)(h:0<=n/\n<=8):Y E0 (.call 126 [.i (-1),.i n] [])=some (.ret (.b true) []):=by
 refine tq ?_
 with_reducible rfl
theorem one_am{a:Int}{n v:List UInt8}(ha:0<=a/\a<=65535)(hn:n.length<=128)(hv:v.length<=128):∀ x∈([(a,n,v)]:List (El MR)),((0:Int)<=x.1/\(x.1:Int)<=65535)/\x.2.1.length<=128/\x.2.2.length<=128:=by
 intro x hx;simp at hx;subst hx;exact⟨ha,hn,hv⟩
theorem one_hm{h:Int}(hh:0<=h/\h<=65535):∀ x∈[h],0<=x/\x<=65535:=by
 intro x hx;simp at hx;subst hx;exact hh
theorem autB_len(x:El MR):(lS x).length=6+x.2.1.length+x.2.2.length:=by simp[lS,n2_len,bl_len];omega
theorem rq_se(k:Int)(hk:1<=k/\k<=3):rqG 16 0 [] [] [k] []:=by
 refine⟨ev_shape16,ev_counted 0,ev_r22s16,ev_rfits 0,by decide,by simp,by simp,by simp,by simp,by simp,by simp,?_,by simp,?_⟩
 ·intro x hx;simp at hx;omega
 simp only[lT,aN,List.length_append,n2_len,List.flatMap_nil,List.flatMap_cons,List.length_nil,List.length_cons,n8_len]
 decide
theorem rq_po(hh:0<=h/\h<=65535):rqG 17 (-1) [] [] [h,1,0,1,0,0] [[]]:=by
 refine⟨ev_shape17,ev_counted_m 1 zf,ev_r22s17,ev_rfits_m 1 zf,by decide,by simp,by simp,by simp,by simp,by simp,by simp,?_,by simp,?_⟩
 ·intro x hx;simp at hx;omega
 simp only[lT,aN,List.length_append,n2_len,List.flatMap_nil,List.flatMap_cons,List.length_nil,List.length_cons,n8_len,bl_len]
 decide
theorem rq_pr(k a t:Int)(p u d:List UInt8)(hh:0<=h/\h<=65535)(hk:0<=k/\k<=100)(ha:0<=a/\a<=100)(ht:0<=t/\t<=100)(hp:p.length<=200)(hu:u.length<=200)(hd:d.length<=200):rqG 9 3 [h] [(0,[],[])] [k,a,t] [p,u,d]:=by
 refine⟨ev_shape9,ev_counted 3,ev_r22s9,ev_rfits 3,by decide,by simp,by simp,by simp,by simp,one_hm hh,one_am zf zB zB,?_,?_,?_⟩
 ·intro x hx;simp at hx;omega
 ·intro x hx;simp at hx;rcases hx with rfl|rfl|rfl<;>omega
 simp only[lT,aN,List.length_append,n2_len,List.flatMap_nil,List.flatMap_cons,List.length_nil,List.length_cons,n8_len,bl_len,autB_len]
 omega
theorem rq_un(s:Int)(hh:0<=h/\h<=65535)(hs:0<=s/\s<=65535)(v:List UInt8)(hv:v.length<=100):rqG 13 0 [h] [(s,[],v)] [] []:=by
 refine⟨ev_shape13,ev_counted 0,ev_r22s13,ev_rfits 0,by decide,by simp,by simp,by simp,by simp,one_hm hh,one_am hs zB zf,by simp,by simp,?_⟩
 simp only[lT,aN,List.length_append,n2_len,List.flatMap_nil,List.flatMap_cons,List.length_nil,List.length_cons,n8_len,bl_len,autB_len]
 omega
theorem rq_ca(hh:0<=h/\h<=65535)(v a:List UInt8)(hv:v.length<=100)(ha:a.length<=100):rqG 30 1 [h] [(0,[],v)] [] [a]:=by
 refine⟨ev_shape30,ev_counted 1,ev_r22s30,ev_rfits 1,by decide,by simp,by simp,by simp,by simp,one_hm hh,one_am zf zB zf,by simp,?_,?_⟩
 ·intro x hx;simp at hx;subst hx;omega
 simp only[lT,aN,List.length_append,n2_len,List.flatMap_nil,List.flatMap_cons,List.length_nil,List.length_cons,n8_len,bl_len,autB_len]
 omega
theorem rq_df(s:Int)(hh:0<=h/\h<=65535)(hs:0<=s/\s<=65535)(nn v:List UInt8)(hn:nn.length<=100)(hv:v.length<=100):rqG 21 2 [h] [(s,nn,v)] [1,2,3,8] [[],[]]:=by
 refine⟨ev_shape21,ev_counted 2,ev_r22s21,ev_rfits 2,by decide,by simp,by simp,by simp,by simp,one_hm hh,one_am hs zf zf,?_,by simp,?_⟩
 ·intro x hx;simp at hx;omega
 simp only[lT,aN,List.length_append,n2_len,List.flatMap_nil,List.flatMap_cons,List.length_nil,List.length_cons,n8_len,bl_len,autB_len]
 omega
theorem rq_ud(hh:0<=h/\h<=65535)(v:List UInt8)(hv:v.length<=100):rqG 22 0 [h] [(0,[],v)] [1] []:=by
 refine⟨ev_shape22,ev_counted 0,ev_r22s22,ev_rfits 0,by decide,by simp,by simp,by simp,by simp,one_hm hh,one_am zf zB zf,?_,by simp,?_⟩
 ·intro x hx;simp at hx;omega
 simp only[lT,aN,List.length_append,n2_len,List.flatMap_nil,List.flatMap_cons,List.length_nil,List.length_cons,n8_len,bl_len,autB_len]
 omega
section
attribute [local irreducible] BL BM BN BO BP BJ BQ CX Cm CY CW Ba Bc BF BC and' BG Bd Aa Ac Ad Ae Af AL AO AP AQ BR D8 BU D5 Be Bf Ag Ah Ai Aj AB AZ AU Ar BA BV BH BB Au Aw BI Bg BX fits BZ BK A7 A8 AC
abbrev asrT:Ty:=.pair .i64 (.pair (.pair .i64 .i64) (.pair (.sl .u8) (.pair .i64 (.pair .i64 (.pair (.sl .u8) (.pair (.sl .u8) (.pair (.sl .u8) (.sl (.sl .u8)))))))))
def polX(d x:List UInt8):List UInt8:=sha256 (Bh 8 [[1],d,Bz (Bz [] 2 0) 2 1,x])
theorem polX_fl(hd:d.length<=1000)(hx:x.length=32):(Bh 8 [[1],d,Bz (Bz [] 2 0) 2 1,x]).length<=4000:=by
 simp only[Bh,fieldsB,List.flatMap_cons,List.flatMap_nil,List.length_append,List.length_cons,List.length_nil,NZ,OO];omega
theorem polX_len:(polX d x).length=32:=Gu _
theorem ev_r9start:Y E0 (.call 73 [] [])=some (.ret (.sl .u8 zen) []):=by
 have h1:Au 32 (0:UInt8)=zen:=by rw[QQ,zen];rfl
 refine tq ?_
 (rw[h1])
theorem ev_r9sel:Y E0 (.call 147 [.agg [.i 0,.i 1]] [])=some (.ret (.b true) []):=by
 refine tq ?_
 with_reducible rfl
theorem ev_r9chk(hx:x.length=32):Y E0 (.call 113 [asA 1 0 1 x 0 0 [] [] [] []] [])=some (.ret (.i 0) []):=by
 refine tq ?_
 rw[ev_r9sel]
 exact tq rfl
theorem ev_r9frame(hd:d.length<=1000)(hx:x.length=32):Y E0 (.call 114 [.sl .u8 d,asA 1 0 1 x 0 0 [] [] [] []] [])=some (.ret (.sl .u8 (Bh 8 [[1],d,Bz (Bz [] 2 0) 2 1,x])) []):=by
 have hf:Aw [[D5 1]] [d,Bz (Bz [] 2 0) 2 1,x]=[[1],d,Bz (Bz [] 2 0) 2 1,x]:=by rw[UH,iu8_eq];rfl
 have hl:=polX_fl d x hd hx
 refine tq ?_
 rw[ev_r3uint _ _ _ NE]
 refine tq ?_
 rw[ev_r3uint _ _ _ NE]
 refine tq ?_
 rw[hf]
 conv=>lhs;whnf
 rw[ev_ref_frame _ _ NE NE]
 exact tq rfl
theorem ev_r9ext(hd:d.length<=1000)(hx:x.length=32):Y E0 (.call 74 [.sl .u8 d,asA 1 0 1 x 0 0 [] [] [] []] [])=some (.ret (.sl .u8 (polX d x)) []):=by
 have hl:=polX_fl d x hd hx
 have k1:=ev_r9chk x hx
 have k2:=ev_r9frame d x hd hx
 refine tq ?_
 rw[k1]
 refine tq ?_
 rw[k2]
 refine tq ?_
 rw[ev_sum256 _ NE]
 refine tq ?_
 rfl
theorem ev_r9dig_l(hx:x.length=32):Y E0 (.loop 34 0 0 0 [(0,.sl asrT [(1,(0,1),x,0,0,[],[],[],[])]),(3,.sl .u8 zen),(4,.i 0)] [])=some (.fin (.exit 0) 0 [(3,.sl .u8 (polX zen x))] []):=by
 have hp:=polX_len zen x
 have k1:=ev_r9ext zen x (by rw[zen_len];omega) hx
 have hl:Ar ([(1,(0,1),x,0,0,[],[],[],[])]:List (El asrT))=1:=by rw[QP];rfl
 rw[JB];conv=>lhs;whnf
 rw[hl]
 refine tq ?_
 rw[k1]
 refine tq ?_
 rw[JB]
 conv=>lhs;whnf
 rw[hl]
 exact tq rfl
theorem ev_r9dig(hx:x.length=32):Y E0 (.call 34 [.sl asrT [(1,(0,1),x,0,0,[],[],[],[])]] [])=some (.ret (.sl .u8 (polX zen x)) []):=by
 refine tq ?_
 rw[ev_r9start]
 refine tq ?_
 rw[ev_r9dig_l _ NE]
 exact tq rfl
theorem ev_pwin(x a b:Int):Y E0 (.call 307 [.i x,.i a,.i b] [])=some (.ret (.b (decide (a<=x/\x<=b))) []):=by
 refine tq ?_
 rcases ile_c a x with hc0|hc0
 ·
  refine tq ?_
  (congr 3;simp only[bu,bz,ilt_eq,ile_eq,UK,bi,QP];first|rfl|(rw[decide_eq_decide];omega)|(simp;omega))
 refine tq ?_
 simp;omega
theorem ev_parg:Y E0 (.call 306 [.b true] [])=some (.ret (.i 0) []):=by
 refine tq ?_
 with_reducible rfl
theorem ev_polchk(hx:x.length=32):Y E0 (.call 258 [asA 1 0 1 x 0 0 [] [] [] []] [])=some (.ret (.i 0) []):=by
 have w0:=ev_pwin 0 0 65535
 have w1:=ev_pwin 1 0 65535
 rw[show decide ((0:Int)<=0/\(0:Int)<=65535)=true from rfl] at w0
 rw[show decide ((0:Int)<=1/\(1:Int)<=65535)=true from rfl] at w1
 have hi:CX (Ar x) 32=true:=fD (by rw[QP];omega)
 rw[JB]
 conv=>lhs;whnf
 rw[fD zf]
 conv=>lhs;whnf
 try dsimp -iota -beta -eta -zeta only
 rw[fK zf]
 conv=>lhs;whnf
 rw[fH zf]
 conv=>lhs;whnf
 try dsimp -iota -beta -eta -zeta only
 rw[OQ]
 rw[w0]
 conv=>lhs;whnf
 try dsimp -iota -beta -eta -zeta only
 rw[fK zf]
 conv=>lhs;whnf
 rw[fH zf]
 conv=>lhs;whnf
 try dsimp -iota -beta -eta -zeta only
 rw[OQ]
 rw[w1]
 conv=>lhs;whnf
 try dsimp -iota -beta -eta -zeta only
 rw[OQ]
 rw[hi,ev_parg]
 exact tq rfl
theorem ev_polfld(hd:d.length<=1000)(hx:x.length=32):Y E0 (.call 334 [.sl .u8 d,asA 1 0 1 x 0 0 [] [] [] []] [])=some (.ret (.sl (.sl .u8) [d,Bz (Bz [] 2 0) 2 1,x]) []):=by
 refine tq ?_
 rw[ev_uint _ _ _ NE]
 refine tq ?_
 rw[ev_uint _ _ _ NE]
 exact tq rfl
theorem ev_polext(hd:d.length<=1000)(hx:x.length=32):Y E0 (.call 291 [.sl .u8 d,asA 1 0 1 x 0 0 [] [] [] []] [])=some (.ret (.sl .u8 (polX d x)) []):=by
 have k1:=ev_polchk x hx
 have k2:=ev_polfld d x hd hx
 have hf:Aw [[D5 1]] [d,Bz (Bz [] 2 0) 2 1,x]=[[1],d,Bz (Bz [] 2 0) 2 1,x]:=by rw[UH,iu8_eq];rfl
 have hl:=polX_fl d x hd hx
 refine tq ?_
 rw[k1]
 refine tq ?_
 rw[k2]
 refine tq ?_
 rw[hf]
 conv=>lhs;whnf
 rw[ev_dig_hash _ _ NE NE]
 refine tq ?_
 rfl
end
end Go.Proofs.YtanagnimhaemgaaGreatDoor
