/-
  Own texts, laid together for this claim: contracts of functions of the program and its references, used by the statements of this seat.
-/
import Derived.Test.YtanagnimhaemgaaGreatDoorMtab
import Derived.Test.YtanagnimhaemgaaGreatDoorMtac
import Derived.Test.YtanagnimhaemgaaGreatDoorMtad
import Derived.Test.YtanagnimhaemgaaGreatDoorMtaf
import Derived.Test.YtanagnimhaemgaaGreatDoorMtag
import Derived.Test.YtanagnimhaemgaaGreatDoorMtah
import Derived.Test.YtanagnimhaemgaaGreatDoorMtaj
import Derived.Test.YtanagnimhaemgaaGreatDoorMtak
import Derived.Test.YtanagnimhaemgaaGreatDoorMtal
import Derived.Test.YtanagnimhaemgaaGreatDoorMtam
import Derived.Test.YtanagnimhaemgaaGreatDoorMtap
import Derived.Test.YtanagnimhaemgaaGreatDoorMtaq
set_option linter.all false
set_option maxHeartbeats 40000000
set_option maxRecDepth 100000
namespace Go.Ax
open Go.Eng
theorem frameB_len(tag:Int):∀(ls:List (List UInt8)) (m:Nat),(∀ x∈ls,x.length<=m)->(Bh tag ls).length<=1+ls.length*(m+4):=by
 intro ls m h
 have key:∀ j,j<=ls.length->(Bh tag (ls.take j)).length<=1+j*(m+4):=by
  intro j
  induction j with
  | zero=>intro _;simp[Bh,fieldsB]
  | succ j ih =>
   intro hj
   have hg:ls[j]?=some (ls[j]'zf):=List.getElem?_eq_getElem zf
   have hx:=h _ (List.getElem_mem (show j<ls.length by omega))
   rw[frameB_snoc tag ls j _ hg,List.length_append,List.length_append]
   have:=ih zf
   have h4:(dw (ls[j]'zf)).length=4:=rfl
   rw[h4,Nat.succ_mul];omega
 have:=key ls.length (Nat.le_refl _)
 rwa [List.take_length] at this
end Go.Ax
namespace Go.Ax
open Go Go.Eng Go.RowKit
noncomputable def cmdB(c:Int)(ns:List (List UInt8))(is:List Int)(bs:List (List UInt8)):List UInt8:=sha256 (Bh 10 ([D5 c]::ns.flatten::is.flatMap n8::bs))
theorem cmdB_len(c:Int)(ns:List (List UInt8))(is:List Int)(bs:List (List UInt8)):(cmdB c ns is bs).length=32:=Gu _
end Go.Ax
namespace Go.Proofs.YtanagnimhaemgaaGreatDoor
open Go Go.Ax Go.Eng
section
attribute [local irreducible] BL BM BN BO BP BJ BQ CX Cm CY CW Ba Bc BF BC and' BG Bd Aa Ac Ad Ae Af AL AO AP AQ BR D8 BU D5 Be Bf Ag Ah Ai Aj AB AZ AU Ar BA BV BH BB Au Aw BI Bg BX fits BZ BK A7 A8 AC
attribute [local irreducible] D7 CG
theorem ev_lnew:Y E0 (.call 115 [] [])=some (.ret (.agg [.i 0,.i 5,.i 100,.i 0,.i 0,.i 1000]) []):=by
 refine tq ?_
 with_reducible rfl
theorem ev_snew_l(en:List UInt8)(a:Int)(he:en.length=32)(e:List (List UInt8)):Y E0 (.loop 75 0 0 3 [(0,AV.sl Ty.u8 en),(4,AV.pa 0 0),(6,AV.pa 1 0),(24,AV.i 0)] [(0,some (Rs.var [AV.nil,AV.nil,AV.nil,AV.i 0,AV.i 0,AV.i 0,AV.i 0,AV.b false,AV.nil,AV.i 0,AV.i 0,AV.nil,AV.i 0,AV.i 0,AV.i 0,AV.i 0,AV.i 0,AV.i 0,AV.nil])),(1,some (Rs.var [AV.nil,AV.nm 2,AV.nil,AV.i a,AV.i 0,AV.i 0,AV.i 0,AV.b true,AV.nil,AV.i 0,AV.i 0,AV.nil,AV.i 0,AV.i 5,AV.i 100,AV.i 0,AV.i 0,AV.i 1000,AV.nil])),(2,some (Rs.row 22 Ty.u8.sl e))])=some (.fin (.exit 0) 4 [(0,AV.sl Ty.u8 en),(4,AV.pa 0 0),(6,AV.pa 1 0)] [(0,some (Rs.var [AV.nil,AV.nil,AV.nil,AV.i 0,AV.i 0,AV.i 0,AV.i 0,AV.b false,AV.nil,AV.i 0,AV.i 0,AV.nil,AV.i 0,AV.i 0,AV.i 0,AV.i 0,AV.i 0,AV.i 0,AV.nil])),(1,some (Rs.var [AV.nm 2,AV.nm 3,AV.nil,AV.i a,AV.i 0,AV.i 0,AV.i 0,AV.b true,AV.nil,AV.i 0,AV.i 0,AV.nil,AV.i 0,AV.i 5,AV.i 100,AV.i 0,AV.i 0,AV.i 1000,AV.nil])),(2,some (Rs.row 22 Ty.u8.sl (seedsE en))),(3,some (Rs.row 22 Ty.u8.sl e))]):=by
 rw[JB];conv=>lhs;whnf
 refine tq ?_
 rw[ev_derive _ _ _ _ NE NE NE]
 refine tq ?_
 refine tq ?_
 rw[ev_derive _ _ _ _ NE NE NE]
 refine tq ?_
 refine tq ?_
 rw[ev_derive _ _ _ _ NE NE NE]
 refine tq ?_
 refine tq ?_
 (rw[UH,UH,iu8_eq,iu8_eq,iu8_eq];rfl)
theorem ev_snew(en:List UInt8)(a:Int)(he:en.length=32)(ha:0<=a/\a<=3):Y E0 (.call 75 [.sl .u8 en,.i a] [])=some (.ret (.tup [.agg (nS (seedsE en) [[],[],[],[]] (D7 en entrL [] 32) a 0 0 0 true [] 0 0 [] 0 5 100 0 0 1000 []),.i 0]) []):=by
 have h:=ev_snew_l en a he [[],[],[],[]]
 have e4:Au 4 ([]:List UInt8)=[[],[],[],[]]:=by rw[QQ];rfl
 refine tq ?_
 rw[ev_lnew]
 refine tq ?_
 rw[e4,h]
 refine tq ?_
 rw[ev_derive _ _ _ _ NE NE NE]
 refine tq ?_
 rfl
variable (sd au:List (List UInt8))(en:List UInt8)(ac re rs ck:Int)(od:Bool)(sb:List (List (List UInt8)))(su mc:Int)(ix:List (El FU))(l1 l2 l3 l4 l5 l6:Int)(ks:List (El IJ))(st sp:Bool)(rb:List (List (List UInt8)))(ru vc:Int)(sf:Bool)(dr:Int)(ss:List (El Gi))(ob:List (El objT))(rl wl:List Int)
theorem ev_sstart(h:st=false/\sp=false)(ha:ac=2)(hre:0<=re/\re<=1000000):Y E0 (.call 184 [(sX sd au en ac re rs ck od sb su mc ix l1 l2 l3 l4 l5 l6 ks st sp rb ru vc sf dr ss ob rl wl),.i 0] [])=some (.ret (.tup [(sX sd au en ac (re+1) 0 ck false [] 0 mc ix l1 l2 l3 l4 l5 l6 ks true sp (newRB 2) 0 ck od dr ss ob rl wl),.i 0]) []):=by
 obtain⟨rfl,rfl⟩:=h
 subst ha
 refine tp ?_
 rw[ev_pnew2]
 exact tq rfl
theorem ev_lose(ar:List (List UInt8))(wr cu to:Int)(of on:Bool)(nx:Int)(sd au:List (List UInt8))(en:List UInt8)(ac re rs ck:Int)(od:Bool)(sb:List (List (List UInt8)))(su mc:Int)(ix:List (El FU))(l1 l2 l3 l4 l5 l6:Int)(ks:List (El IJ))(st sp:Bool)(rb:List (List (List UInt8)))(ru vc:Int)(sf:Bool)(dr:Int)(ss:List (El Gi))(ob:List (El objT))(rl wl:List Int):Y E0 (.call 53 [nG ar wr cu to of sd au en ac re rs ck od sb su mc ix l1 l2 l3 l4 l5 l6 ks st sp rb ru vc sf dr ss ob rl wl on nx] [])=some (.ret (nT ar wr cu to true false nx) []):=by
 refine tq ?_
 refine tq ?_
 with_reducible rfl
theorem ev_poff(ar:List (List UInt8))(wr cu to:Int)(of on:Bool)(nx:Int)(sd au:List (List UInt8))(en:List UInt8)(ac re rs ck:Int)(od:Bool)(sb:List (List (List UInt8)))(su mc:Int)(ix:List (El FU))(l1 l2 l3 l4 l5 l6:Int)(ks:List (El IJ))(st sp:Bool)(rb:List (List (List UInt8)))(ru vc:Int)(sf:Bool)(dr:Int)(ss:List (El Gi))(ob:List (El objT))(rl wl:List Int):Y E0 (.call 26 [nG ar wr cu to of sd au en ac re rs ck od sb su mc ix l1 l2 l3 l4 l5 l6 ks st sp rb ru vc sf dr ss ob rl wl on nx] [])=some (.ret (nT ar wr cu to true false nx) []):=by
 refine tq ?_
 rw[ev_lose ..]
 exact tq rfl
theorem ev_powered(ar:List (List UInt8))(wr cu to:Int)(of on:Bool)(nx:Int)(sd au:List (List UInt8))(en:List UInt8)(ac re rs ck:Int)(od:Bool)(sb:List (List (List UInt8)))(su mc:Int)(ix:List (El FU))(l1 l2 l3 l4 l5 l6:Int)(ks:List (El IJ))(st sp:Bool)(rb:List (List (List UInt8)))(ru vc:Int)(sf:Bool)(dr:Int)(ss:List (El Gi))(ob:List (El objT))(rl wl:List Int):Y E0 (.call 48 [nG ar wr cu to of sd au en ac re rs ck od sb su mc ix l1 l2 l3 l4 l5 l6 ks st sp rb ru vc sf dr ss ob rl wl on nx] [])=some (.ret (.b (on && !of)) []):=by
 cases on
 ·refine tq ?_
  rfl
 ·refine tq ?_
  rfl
theorem ev_pon(ar:List (List UInt8))(wr cu to:Int)(nx q:Int)(sd au:List (List UInt8))(en:List UInt8)(ac re rs ck:Int)(od:Bool)(su mc l1 l2 l3 l4 l5 l6:Int)(har:arOK ar q (encS sd au en ac re rs ck od [] su mc [] l1 l2 l3 l4 l5 l6 []))(hac:0<=ac/\ac<=3)(hsd:sd.length=3)(hau:au.length=4)(hsm:∀ x∈sd,x.length<=1000)(ham:∀ x∈au,x.length<=1000)(hen:en.length<=1000)(hre:0<=re/\re<=1000000)(hrs:0<=rs/\rs<=1000000)(hck:0<=ck/\ck<=2000000000000)(hsu:0<=su/\su<=1000000)(hmc:0<=mc/\mc<=2000000000000)(hl:Zj l1 l2 l3 l4 l5 l6):Y E0 (.call 25 [nT ar wr cu to true false nx] [])=some (.ret (.tup [nG ar 0 0 0 false sd au en ac re rs ck od [] su mc [] l1 l2 l3 l4 l5 l6 [] false false [] 0 0 false 0 (List.replicate 3 (0,[],[],0,0,0,0,false)) (List.replicate 3 ((0,0,0,[],[]),([],[],[]),0)) [] [] true (q+1),.i 0]) []):=by
 have h1:=ev_jrecover ar q _ 0 0 0 har
 have h2:=ev_sdecE sd au en ac re rs ck od su mc l1 l2 l3 l4 l5 l6 hac hsd hau hsm ham hen hre hrs hck hsu hmc hl
 have hq:1<=q/\q<=900000:=⟨har.2.1,har.2.2.1⟩
 have h3:=ev_powered ar wr cu to true false nx [] [] [] 0 0 0 0 false [] 0 0 [] 0 0 0 0 0 0 [] false false [] 0 0 false 0 [] [] [] []
 refine tq ?_
 rw[h3]
 refine tq ?_
 rw[ev_drestart ..]
 refine tq ?_
 rw[h1]
 refine tq ?_
 rw[h2]
 refine tq ?_
 rw[ev_boot ..]
 exact tq rfl
end
section
attribute [local irreducible] BL BM BN BO BP BJ BQ CX Cm CY CW Ba Bc BF BC and' BG Bd Aa Ac Ad Ae Af AL AO AP AQ BR D8 BU D5 Be Bf Ag Ah Ai Aj AB AZ AU Ar BA BV BH BB Au Aw BI Bg BX fits BZ BK A7 A8 AC
attribute [local irreducible] D7 CG CQ nameB Dh Dv Bh
theorem hierB_ln(h:Int):(hierB h).length<=32:=by
 unfold hierB;split
 ·simp
 ·rw[Gu];exact Nat.le_refl _
end
section
attribute [local irreducible] BL BM BN BO BP BJ BQ CX Cm CY CW Ba Bc BF BC and' BG Bd Aa Ac Ad Ae Af AL AO AP AQ BR D8 BU D5 Be Bf Ag Ah Ai Aj AB AZ AU Ar BA BV BH BB Au Aw BI Bg BX fits BZ BK A7 A8 AC
attribute [local irreducible] D7 CG CQ nameB Dh Dv Bh
abbrev rgA(rb:List (List (List UInt8)))(u:Int):AV:=.agg [.sl (.sl (.sl .u8)) rb,.i u]
theorem ev_r8act0(b:List (List UInt8))(l:List (List (List UInt8)))(u:Int)(hl:l.length<=100):Y E0 (.call 68 [rgA (b::l) u,.i 0] [])=some (.ret (.b (decide (0<b.length))) []):=by
 refine tq ?_
 (rw[ilt_eq,QP];simp)
theorem ev_r8act1(c b:List (List UInt8))(l:List (List (List UInt8)))(u:Int)(hl:l.length<=100):Y E0 (.call 68 [rgA (c::b::l) u,.i 1] [])=some (.ret (.b (decide (0<b.length))) []):=by
 refine tq ?_
 (rw[ilt_eq,QP];simp)
theorem ev_r8actn(u k:Int)(hk:0<=k):Y E0 (.call 68 [rgA [] u,.i k] [])=some (.ret (.b false) []):=by
 exact tq rfl
theorem bk_le{n:Nat}{b:List (List UInt8)}(h:b=[]\/dX n b)(hn:n<=1000):b.length<=16/\∀ x∈b,x.length<=1000:=by
 rcases h with rfl|⟨h1,h2⟩
 ·simp
 ·exact⟨by omega,fun x hx=>by rw[h2 x hx];exact hn⟩
theorem bk_16{n:Nat}{b:List (List UInt8)}(h:b=[]\/dX n b):b.length=0\/b.length=16:=by
 rcases h with rfl|h
 ·exact .inl rfl
 ·exact .inr h.1
end
section
attribute [local irreducible] BL BM BN BO BP BJ BQ CX Cm CY CW Ba Bc BF BC and' BG Bd Aa Ac Ad Ae Af AL AO AP AQ BR D8 BU D5 Be Bf Ag Ah Ai Aj AB AZ AU Ar BA BV BH BB Au Aw BI Bg BX fits BZ BK A7 A8 AC
attribute [local irreducible] D7 CG CQ nameB Dh Dv Bh
abbrev asA(k s0 s1:Int)(d:List UInt8)(n o:Int)(x y z:List UInt8)(bs:List (List UInt8)):AV:=.agg [.i k,.i s0,.i s1,.sl .u8 d,.i n,.i o,.sl .u8 x,.sl .u8 y,.sl .u8 z,.sl (.sl .u8) bs]
end
section
attribute [local irreducible] BL BM BN BO BP BJ BQ CX Cm CY CW Ba Bc BF BC and' BG Bd Aa Ac Ad Ae Af AL AO AP AQ BR D8 BU D5 Be Bf Ag Ah Ai Aj AB AZ AU Ar BA BV BH BB Au Aw BI Bg BX fits BZ BK A7 A8 AC
theorem ev_eidx_l(h:Int)(hh:0<=h/\h<=3)(ix:List (El FU))(hl:ix.length<=10)(hx:∀ x∈ix,iU x):∀(k j:Nat),j+k=ix.length ->
  Y E0 (.loop 183 0 0 0 [(1,.i h),(10,.sl FU ix),(11,.i (ix.length:Int)),(12,.i (j:Int))] [])=some (.fin (.exit 0) 0 [] [])
 | 0,j,hj=>by
  obtain rfl:j=ix.length:=zf
  rw[JB];conv=>lhs;whnf
  refine tq ?_
  with_reducible rfl
 | k+1,j,hj=>by
  obtain⟨x,hm,hg⟩:=get_m (l:=ix) (i:=(j:Int)) zf
  have ho:=hx x hm
  obtain⟨x1,x2,x3,x4,x5,x6,x7,x8⟩:=x
  have h1:(0:Int)<=(x1:Int):=ho.1
  have hne:h-256≠(x1:Int):=zf
  have ih:=ev_eidx_l h hh ix hl hx k (j+1) zf
  rw[show((j+1:Nat):Int)=(j:Int)+1 from by omega] at ih
  rw[JB];conv=>lhs;whnf
  refine to ?_
  rw[hg]
  conv=>lhs;whnf
  try dsimp -iota -beta -eta -zeta only
  rw[ZG zf]
  rw[fE hne]
  refine tq ?_
  exact ih
theorem ev_eidx_f(sd:List (List UInt8))(au:List (List UInt8))(en:List UInt8)(ac:Int)(re:Int)(rs:Int)(ck:Int)(od:Bool)(su:Int)(mc:Int)(ix:List (El FU))(l1:Int)(l2:Int)(l3:Int)(l4:Int)(l5:Int)(l6:Int)(ks:List (El IJ))(st:Bool)(sp:Bool)(rb:List (List (List UInt8)))(ru:Int)(vc:Int)(sf:Bool)(dr:Int)(ss:List (El Gi))(ob:List (El objT))(rl:List Int)(wl:List Int)(h:Int)(hh:0<=h/\h<=3)(hl:ix.length<=10)(hx:∀ x∈ix,iU x):Y E0 (.call 183 [.agg [.sl (.sl .u8) sd,.sl (.sl .u8) au,.sl .u8 en,.i ac,.i re,.i rs,.i ck,.b od,.sl (.sl (.sl .u8)) [],.i su,.i mc,.sl FU ix,.i l1,.i l2,.i l3,.i l4,.i l5,.i l6,.sl IJ ks,.b st,.b sp,.sl (.sl (.sl .u8)) rb,.i ru,.i vc,.b sf,.i dr,.sl Gi ss,.sl objT ob,.sl .i64 rl,.sl .i64 wl],.i h] [])=some (.ret (.tup [.i 0,.i 7]) []):=by
 have l0:=ev_eidx_l h hh ix hl hx ix.length 0 zf
 rw[show((0:Nat):Int)=0 from rfl,<-QP] at l0
 refine tq ?_
 rw[l0]
 exact tq rfl
theorem ev_efind_h(sd:List (List UInt8))(au:List (List UInt8))(en:List UInt8)(ac:Int)(re:Int)(rs:Int)(ck:Int)(od:Bool)(su:Int)(mc:Int)(ix:List (El FU))(l1:Int)(l2:Int)(l3:Int)(l4:Int)(l5:Int)(l6:Int)(ks:List (El IJ))(st:Bool)(sp:Bool)(rb:List (List (List UInt8)))(ru:Int)(vc:Int)(sf:Bool)(dr:Int)(ss:List (El Gi))(ob:List (El objT))(rl:List Int)(wl:List Int)(h:Int)(v:List UInt8)(hh:0<=h/\h<=3)(hl:ix.length<=10)(hx:∀ x∈ix,iU x)(ho:ob.length<=1000)(ha:au.length=4)(hv:BA au h=some v):Y E0 (.call 216 [.agg [.sl (.sl .u8) sd,.sl (.sl .u8) au,.sl .u8 en,.i ac,.i re,.i rs,.i ck,.b od,.sl (.sl (.sl .u8)) [],.i su,.i mc,.sl FU ix,.i l1,.i l2,.i l3,.i l4,.i l5,.i l6,.sl IJ ks,.b st,.b sp,.sl (.sl (.sl .u8)) rb,.i ru,.i vc,.b sf,.i dr,.sl Gi ss,.sl objT ob,.sl .i64 rl,.sl .i64 wl],.i h] [])=some (.ret (.tup [.agg [.sl .u8 (hierB h),.sl .u8 v,.sl .u8 [],.b false],.i 0]) []):=by
 have hi:=ev_eidx_f sd au en ac re rs ck od su mc ix l1 l2 l3 l4 l5 l6 ks st sp rb ru vc sf dr ss ob rl wl h hh hl hx
 have hb:=ev_eobj_f sd au en ac re rs ck od [] su mc ix l1 l2 l3 l4 l5 l6 ks st sp rb ru vc sf dr ss ob rl wl h ho zf (by rw[slotAt,if_neg zf])
 refine tq ?_
 rw[hi]
 refine tq ?_
 rw[hb]
 refine tq ?_
 rw[ev_ahier _]
 refine tq ?_
 rw[hv]
 exact tq rfl
theorem ev_ename_h(sd:List (List UInt8))(au:List (List UInt8))(en:List UInt8)(ac:Int)(re:Int)(rs:Int)(ck:Int)(od:Bool)(su:Int)(mc:Int)(ix:List (El FU))(l1:Int)(l2:Int)(l3:Int)(l4:Int)(l5:Int)(l6:Int)(ks:List (El IJ))(st:Bool)(sp:Bool)(rb:List (List (List UInt8)))(ru:Int)(vc:Int)(sf:Bool)(dr:Int)(ss:List (El Gi))(ob:List (El objT))(rl:List Int)(wl:List Int)(h:Int)(v:List UInt8)(hh:0<=h/\h<=3)(hl:ix.length<=10)(hx:∀ x∈ix,iU x)(ho:ob.length<=1000)(ha:au.length=4)(hv:BA au h=some v):Y E0 (.call 181 [.agg [.sl (.sl .u8) sd,.sl (.sl .u8) au,.sl .u8 en,.i ac,.i re,.i rs,.i ck,.b od,.sl (.sl (.sl .u8)) [],.i su,.i mc,.sl FU ix,.i l1,.i l2,.i l3,.i l4,.i l5,.i l6,.sl IJ ks,.b st,.b sp,.sl (.sl (.sl .u8)) rb,.i ru,.i vc,.b sf,.i dr,.sl Gi ss,.sl objT ob,.sl .i64 rl,.sl .i64 wl],.i h] [])=some (.ret (.tup [.sl .u8 (hierB h),.i 0]) []):=by
 have hf:=ev_efind_h sd au en ac re rs ck od su mc ix l1 l2 l3 l4 l5 l6 ks st sp rb ru vc sf dr ss ob rl wl h v hh hl hx ho ha hv
 refine tq ?_
 rw[hf]
 exact tq rfl
theorem ev_eval_h(sd:List (List UInt8))(au:List (List UInt8))(en:List UInt8)(ac:Int)(re:Int)(rs:Int)(ck:Int)(od:Bool)(su:Int)(mc:Int)(ix:List (El FU))(l1:Int)(l2:Int)(l3:Int)(l4:Int)(l5:Int)(l6:Int)(ks:List (El IJ))(st:Bool)(sp:Bool)(rb:List (List (List UInt8)))(ru:Int)(vc:Int)(sf:Bool)(dr:Int)(ss:List (El Gi))(ob:List (El objT))(rl:List Int)(wl:List Int)(h:Int)(v:List UInt8)(hh:0<=h/\h<=3)(hl:ix.length<=10)(hx:∀ x∈ix,iU x)(ho:ob.length<=1000)(ha:au.length=4)(hv:BA au h=some v):Y E0 (.call 237 [.agg [.sl (.sl .u8) sd,.sl (.sl .u8) au,.sl .u8 en,.i ac,.i re,.i rs,.i ck,.b od,.sl (.sl (.sl .u8)) [],.i su,.i mc,.sl FU ix,.i l1,.i l2,.i l3,.i l4,.i l5,.i l6,.sl IJ ks,.b st,.b sp,.sl (.sl (.sl .u8)) rb,.i ru,.i vc,.b sf,.i dr,.sl Gi ss,.sl objT ob,.sl .i64 rl,.sl .i64 wl],.i h] [])=some (.ret (.tup [.sl .u8 v,.i 0]) []):=by
 have hf:=ev_efind_h sd au en ac re rs ck od su mc ix l1 l2 l3 l4 l5 l6 ks st sp rb ru vc sf dr ss ob rl wl h v hh hl hx ho ha hv
 refine tq ?_
 rw[hf]
 exact tq rfl
theorem ev_eprot_h(sd:List (List UInt8))(au:List (List UInt8))(en:List UInt8)(ac:Int)(re:Int)(rs:Int)(ck:Int)(od:Bool)(su:Int)(mc:Int)(ix:List (El FU))(l1:Int)(l2:Int)(l3:Int)(l4:Int)(l5:Int)(l6:Int)(ks:List (El IJ))(st:Bool)(sp:Bool)(rb:List (List (List UInt8)))(ru:Int)(vc:Int)(sf:Bool)(dr:Int)(ss:List (El Gi))(ob:List (El objT))(rl:List Int)(wl:List Int)(h:Int)(v:List UInt8)(hh:0<=h/\h<=3)(hl:ix.length<=10)(hx:∀ x∈ix,iU x)(ho:ob.length<=1000)(ha:au.length=4)(hv:BA au h=some v):Y E0 (.call 293 [.agg [.sl (.sl .u8) sd,.sl (.sl .u8) au,.sl .u8 en,.i ac,.i re,.i rs,.i ck,.b od,.sl (.sl (.sl .u8)) [],.i su,.i mc,.sl FU ix,.i l1,.i l2,.i l3,.i l4,.i l5,.i l6,.sl IJ ks,.b st,.b sp,.sl (.sl (.sl .u8)) rb,.i ru,.i vc,.b sf,.i dr,.sl Gi ss,.sl objT ob,.sl .i64 rl,.sl .i64 wl],.i h] [])=some (.ret (.b false) []):=by
 have hf:=ev_efind_h sd au en ac re rs ck od su mc ix l1 l2 l3 l4 l5 l6 ks st sp rb ru vc sf dr ss ob rl wl h v hh hl hx ho ha hv
 refine tq ?_
 rw[hf]
 exact tq rfl
end
section
attribute [local irreducible] BL BM BN BO BP BJ BQ CX Cm CY CW Ba Bc BF BC and' BG Bd Aa Ac Ad Ae Af AL AO AP AQ BR D8 BU D5 Be Bf Ag Ah Ai Aj AB AZ AU Ar BA BV BH BB Au Aw BI Bg BX fits BZ BK A7 A8 AC
theorem ev_amac(v d m c:List UInt8)(h1:v.length<=1000)(h2:d.length<=1000)(h3:m.length<=1000)(h4:c.length<=1000):Y E0 (.call 239 [.sl .u8 v,.sl .u8 d,.sl .u8 m,.sl .u8 c] [])=some (.ret (.sl .u8 (dR v (Bh 10 [d,m,c]))) []):=by
 refine tq ?_
 rw[ev_dig_frame _ _ NE NE]
 refine tq ?_
 rw[ev_mac _ _ NE NE]
 exact tq rfl
theorem ev_adig_l0(c:Int)(hs:List Int)(az:List (El MR))(is:List Int)(bs ns:List (List UInt8))(hl:ns.length<=10)(hx:∀ x∈ns,x.length<=1000):∀(k j:Nat) (b:List UInt8),j+k=ns.length->b.length+1000*k<=20000 ->
  Y E0 (.loop 240 0 0 2 [(3,.pa 0 0),(5,.nm 1),(6,.nil),(11,.sl (.sl .u8) ns),(12,.i (ns.length:Int)),(13,.i (j:Int))] [(0,some (.var [.i c,.sl .i64 hs,.sl MR az,.sl .i64 is,.sl (.sl .u8) bs])),(1,some (.row 5 .u8 b))])
   = some (.fin (.exit 0) 1 [(3,.pa 0 0),(5,.sl .u8 (b++(ns.drop j).flatten)),(6,.nil)] [(0,some (.var [.i c,.sl .i64 hs,.sl MR az,.sl .i64 is,.sl (.sl .u8) bs]))])
 | 0,j,b,hj,hb=>by
  obtain rfl:j=ns.length:=zf
  rw[List.drop_length,List.flatten_nil,List.append_nil]
  rw[JB];conv=>lhs;whnf
  refine tq ?_
  with_reducible rfl
 | k+1,j,b,hj,hb=>by
  obtain⟨x,hm,hg⟩:=get_m (l:=ns) (i:=(j:Int)) zf
  have ho:=hx x hm
  have ih:=ev_adig_l0 c hs az is bs ns hl hx k (j+1) (b++x) zf (by rw[List.length_append];omega)
  rw[lget_nat] at hg
  rw[show((j+1:Nat):Int)=(j:Int)+1 from by omega,List.append_assoc,<-List.flatten_cons,<-drop_get hg,<-UH] at ih
  rw[<-lget_nat] at hg
  rw[JB];conv=>lhs;whnf
  refine to ?_
  rw[hg]
  refine tq ?_
  exact ih
theorem ev_adig_l1(c:Int)(hs:List Int)(az:List (El MR))(is:List Int)(bs:List (List UInt8))(al:List UInt8)(hl:is.length<=10):∀(k j:Nat) (b:List UInt8),j+k=is.length->b.length+8*k<=1000 ->
  Y E0 (.loop 240 1 0 1 [(3,.pa 0 0),(5,.sl .u8 al),(6,.sl .u8 b),(22,.sl .i64 is),(23,.i (is.length:Int)),(24,.i (j:Int))] [(0,some (.var [.i c,.sl .i64 hs,.sl MR az,.sl .i64 is,.sl (.sl .u8) bs]))])
   = some (.fin (.exit 2) 1 [(3,.pa 0 0),(5,.sl .u8 al),(6,.sl .u8 (b++(is.drop j).flatMap n8))] [(0,some (.var [.i c,.sl .i64 hs,.sl MR az,.sl .i64 is,.sl (.sl .u8) bs]))])
 | 0,j,b,hj,hb=>by
  obtain rfl:j=is.length:=zf
  rw[List.drop_length,List.flatMap_nil,List.append_nil]
  rw[JB];conv=>lhs;whnf
  refine tq ?_
  with_reducible rfl
 | k+1,j,b,hj,hb=>by
  obtain⟨x,hm,hg⟩:=get_m (l:=is) (i:=(j:Int)) zf
  have el:=n8_len x
  have ih:=ev_adig_l1 c hs az is bs al hl k (j+1) (b++n8 x) zf (by rw[List.length_append];omega)
  rw[lget_nat] at hg
  rw[show((j+1:Nat):Int)=(j:Int)+1 from by omega,List.append_assoc,<-List.flatMap_cons,<-drop_get hg,<-uint_n8] at ih
  rw[<-lget_nat] at hg
  rw[JB];conv=>lhs;whnf
  refine to ?_
  rw[hg]
  refine tq ?_
  rw[ev_uint _ _ _ NE]
  refine tq ?_
  exact ih
theorem ev_adig(c:Int)(hs:List Int)(az:List (El MR))(x:Int)(is:List Int)(bs ns:List (List UInt8))(hl:ns.length<=10)(hx:∀ x∈ns,x.length<=1000)(hi:(x::is).length<=10)(hb:bs.length<=10)(hbm:∀ x∈bs,x.length<=2000):Y E0 (.call 240 [.sl (.sl .u8) ns,rq c hs az (x::is) bs] [])=some (.ret (.sl .u8 (cmdB c ns (x::is) bs)) []):=by
 have el:=n8_len x
 have h0:=ev_adig_l0 c hs az (x::is) bs ns hl hx ns.length 0 [] zf zx
 have h1:=ev_adig_l1 c hs az (x::is) bs ns.flatten hi is.length 1 (n8 x) (by rw[List.length_cons];omega) (by rw[List.length_cons] at hi;omega)
 have h2:Y E0 (.loop 240 1 0 1 [(3,.pa 0 0),(5,.sl .u8 ns.flatten),(6,.nil),(22,.sl .i64 (x::is)),(23,.i ((x::is).length:Int)),(24,.i 0)] [(0,some (.var [.i c,.sl .i64 hs,.sl MR az,.sl .i64 (x::is),.sl (.sl .u8) bs]))])
   = some (.fin (.exit 2) 1 [(3,.pa 0 0),(5,.sl .u8 ns.flatten),(6,.sl .u8 ((x::is).flatMap n8))] [(0,some (.var [.i c,.sl .i64 hs,.sl MR az,.sl .i64 (x::is),.sl (.sl .u8) bs]))]):=by
  have hg:BA (x::is) 0=some x:=by rw[show(0:Int)=((0:Nat):Int) from rfl,lget_nat];rfl
  have hlen:(x::is).length=is.length+1:=rfl
  rw[show((1:Nat):Int)=(0:Int)+1 from rfl,List.drop_one,List.tail_cons,<-List.flatMap_cons,<-List.nil_append (n8 x),<-uint_n8] at h1
  rw[JB];conv=>lhs;whnf
  rw[fH zf]
  conv=>lhs;whnf
  rw[hg]
  refine tq ?_
  rw[ev_uint _ _ _ NE]
  refine tq ?_
  exact h1
 have hF:ns.flatten.length<=10000:=by
  have:=fm_len (f:=fun x:List UInt8=>x) (l:=ns) (m:=1000) hx
  rw[List.flatMap_id'] at this
  omega
 have hI:((x::is).flatMap n8).length<=80:=Nat.le_trans (fm_len (m:=8) fun x _=>by rw[n8_len];decide) zf
 rw[show((0:Nat):Int)=0 from rfl,List.drop_zero,List.nil_append,<-QP] at h0
 rw[<-QP] at h2
 have hB:(bs.flatMap fun b=>b).length<=20000:=Nat.le_trans (fm_len (m:=2000) hbm) zf
 have e:Aw [[D5 c],ns.flatten,List.flatMap n8 (x::is)] bs=[D5 c]::ns.flatten::(x::is).flatMap n8::bs:=by rw[UH];rfl
 have hfl:(Bh 10 ([D5 c]::ns.flatten::(x::is).flatMap n8::bs)).length<=200000:=by
  refine Nat.le_trans (frameB_len 10 _ 10000 ?_) (by simp only[List.length_cons];omega)
  intro y hy
  simp only[List.mem_cons] at hy
  rcases hy with rfl|rfl|rfl|hy
  ·simp
  ·exact hF
  ·omega
  ·have:=hbm y hy;omega
 have hd:=ev_dig_hash 10 ([D5 c]::ns.flatten::(x::is).flatMap n8::bs) zf (by simp only[List.length_cons];omega)
 refine tq ?_
 simp only[Nat.reduceAdd];rw[h0]
 refine tq ?_
 rw[h2]
 refine tq ?_
 rw[e,hd]
 refine tq ?_
 rfl
end
end Go.Proofs.YtanagnimhaemgaaGreatDoor
