/-
  Own texts, laid together for this claim: contracts of functions of the program and its references, used by the statements of this seat.
-/
import Derived.Test.YtanagnimhaemgaaGreatDoorMtab
import Derived.Test.YtanagnimhaemgaaGreatDoorMtac
import Derived.Test.YtanagnimhaemgaaGreatDoorMtad
import Derived.Test.YtanagnimhaemgaaGreatDoorMtag
import Derived.Test.YtanagnimhaemgaaGreatDoorMtaj
import Derived.Test.YtanagnimhaemgaaGreatDoorMtak
import Derived.Test.YtanagnimhaemgaaGreatDoorMtal
set_option linter.all false
set_option maxHeartbeats 40000000
set_option maxRecDepth 100000
namespace Go.Proofs.YtanagnimhaemgaaGreatDoor
open Go Go.Ax Go.Eng
variable (ar:List (List UInt8))(c wr to nx:Int)(sd0 au0:List (List UInt8))(en0:List UInt8)(ac0 re0 rs0 ck0:Int)(od0:Bool)(su0 mc0:Int)(ix0:List (El FU))(l10 l20 l30 l40 l50 l60:Int)(ks0:List (El IJ))(st0 sp0:Bool)(rb0:List (List (List UInt8)))(ru0 vc0:Int)(sf0:Bool)(dr0:Int)(ss0:List (El Gi))(ob0:List (El objT))(rl0 wl0:List Int)
section
attribute [local irreducible] BL BM BN BO BP BJ BQ CX Cm CY CW Ba Bc BF BC and' BG Bd Aa Ac Ad Ae Af AL AO AP AQ BR D8 BU D5 Be Bf Ag Ah Ai Aj AB AZ AU Ar BA BV BH BB Au Aw BI Bg BX fits BZ BK A7 A8 AC
attribute [local irreducible] D7 CG encS
theorem encS_len(sd au:List (List UInt8))(en:List UInt8)(ac re rs ck:Int)(od:Bool)(su mc:Int)(ix:List (El FU))(l1 l2 l3 l4 l5 l6:Int)(ks:List (El IJ))(h:stOK sd au en ac re rs ck su mc ix l1 l2 l3 l4 l5 l6 ks):(encS sd au en ac re rs ck od [] su mc ix l1 l2 l3 l4 l5 l6 ks).length<=20000:=by
 have h0:=getD_len h.sm 0
 have h1:=getD_len h.sm 1
 have h2:=getD_len h.sm 2
 have h3:=getD_len h.am 0
 have h4:=getD_len h.am 1
 have h5:=getD_len h.am 2
 have h6:=getD_len h.am 3
 have hF:(List.flatMap lN ix).length<=1800:=Nat.le_trans (fm_len (m:=300) fun x hx=>ixn_len x (h.im x hx)) (by have:=h.il;omega)
 have hK:(List.flatMap lQ ks).length<=2400:=Nat.le_trans (fm_len (m:=300) fun x hx=>lef_len x (h.km x hx)) (by have:=h.kl;omega)
 have he:=h.en
 delta encS
 rw[regB0]
 simp only[List.length_append,List.length_cons,List.length_nil,bl_len,n8_len]
 omega
theorem ev_commit_eq(sd:List (List UInt8))(au:List (List UInt8))(en:List UInt8)(ac:Int)(re:Int)(rs:Int)(ck:Int)(od:Bool)(su:Int)(mc:Int)(ix:List (El FU))(l1:Int)(l2:Int)(l3:Int)(l4:Int)(l5:Int)(l6:Int)(ks:List (El IJ))(st:Bool)(sp:Bool)(rb:List (List (List UInt8)))(ru:Int)(vc:Int)(sf:Bool)(dr:Int)(ss:List (El Gi))(ob:List (El objT))(rl:List Int)(wl:List Int)(h0:stOK sd0 au0 en0 ac0 re0 rs0 ck0 su0 mc0 ix0 l10 l20 l30 l40 l50 l60 ks0)(h1:stOK sd au en ac re rs ck su mc ix l1 l2 l3 l4 l5 l6 ks)(he:encS sd au en ac re rs ck od [] su mc ix l1 l2 l3 l4 l5 l6 ks=encS sd0 au0 en0 ac0 re0 rs0 ck0 od0 [] su0 mc0 ix0 l10 l20 l30 l40 l50 l60 ks0):Y E0 (.call 82 [nG ar wr 0 to false sd0 au0 en0 ac0 re0 rs0 ck0 od0 [] su0 mc0 ix0 l10 l20 l30 l40 l50 l60 ks0 st0 sp0 rb0 ru0 vc0 sf0 dr0 ss0 ob0 rl0 wl0 true nx,.agg [.sl (.sl .u8) sd,.sl (.sl .u8) au,.sl .u8 en,.i ac,.i re,.i rs,.i ck,.b od,.sl (.sl (.sl .u8)) [],.i su,.i mc,.sl FU ix,.i l1,.i l2,.i l3,.i l4,.i l5,.i l6,.sl IJ ks,.b st,.b sp,.sl (.sl (.sl .u8)) rb,.i ru,.i vc,.b sf,.i dr,.sl Gi ss,.sl objT ob,.sl .i64 rl,.sl .i64 wl]] [])=some (.ret (.tup [nG ar wr 0 to false sd au en ac re rs ck od [] su mc ix l1 l2 l3 l4 l5 l6 ks st sp rb ru vc sf dr ss ob rl wl true nx,.i 0]) []):=by
 have e0:=ev_senc sd0 au0 en0 ac0 re0 rs0 ck0 od0 su0 mc0 ix0 l10 l20 l30 l40 l50 l60 ks0 h0.sl h0.al h0.sm h0.am h0.en h0.il h0.im h0.kl h0.km
 have e1:=ev_senc sd au en ac re rs ck od su mc ix l1 l2 l3 l4 l5 l6 ks h1.sl h1.al h1.sm h1.am h1.en h1.il h1.im h1.kl h1.km
 rw[he] at e1
 refine tq ?_
 rw[e1]
 refine tq ?_
 rw[e0]
 exact tq rfl
theorem ev_commit_ne(sd:List (List UInt8))(au:List (List UInt8))(en:List UInt8)(ac:Int)(re:Int)(rs:Int)(ck:Int)(od:Bool)(su:Int)(mc:Int)(ix:List (El FU))(l1:Int)(l2:Int)(l3:Int)(l4:Int)(l5:Int)(l6:Int)(ks:List (El IJ))(st:Bool)(sp:Bool)(rb:List (List (List UInt8)))(ru:Int)(vc:Int)(sf:Bool)(dr:Int)(ss:List (El Gi))(ob:List (El objT))(rl:List Int)(wl:List Int)(h0:stOK sd0 au0 en0 ac0 re0 rs0 ck0 su0 mc0 ix0 l10 l20 l30 l40 l50 l60 ks0)(h1:stOK sd au en ac re rs ck su mc ix l1 l2 l3 l4 l5 l6 ks)(he:encS sd au en ac re rs ck od [] su mc ix l1 l2 l3 l4 l5 l6 ks≠encS sd0 au0 en0 ac0 re0 rs0 ck0 od0 [] su0 mc0 ix0 l10 l20 l30 l40 l50 l60 ks0)(hl:2<=ar.length/\ar.length<=1000)(hw:0<=wr/\wr<=900000)(hn:1<=nx/\nx<=900000):Y E0 (.call 82 [nG ar wr 0 to false sd0 au0 en0 ac0 re0 rs0 ck0 od0 [] su0 mc0 ix0 l10 l20 l30 l40 l50 l60 ks0 st0 sp0 rb0 ru0 vc0 sf0 dr0 ss0 ob0 rl0 wl0 true nx,.agg [.sl (.sl .u8) sd,.sl (.sl .u8) au,.sl .u8 en,.i ac,.i re,.i rs,.i ck,.b od,.sl (.sl (.sl .u8)) [],.i su,.i mc,.sl FU ix,.i l1,.i l2,.i l3,.i l4,.i l5,.i l6,.sl IJ ks,.b st,.b sp,.sl (.sl (.sl .u8)) rb,.i ru,.i vc,.b sf,.i dr,.sl Gi ss,.sl objT ob,.sl .i64 rl,.sl .i64 wl]] [])=some (.ret (.tup [nG (BH ar (nx%2) (rcdB nx (encS sd au en ac re rs ck od [] su mc ix l1 l2 l3 l4 l5 l6 ks))) (wr+1) 0 to false sd au en ac re rs ck od [] su mc ix l1 l2 l3 l4 l5 l6 ks st sp rb ru vc sf dr ss ob rl wl true (nx+1),.i 0]) []):=by
 have e0:=ev_senc sd0 au0 en0 ac0 re0 rs0 ck0 od0 su0 mc0 ix0 l10 l20 l30 l40 l50 l60 ks0 h0.sl h0.al h0.sm h0.am h0.en h0.il h0.im h0.kl h0.km
 have e1:=ev_senc sd au en ac re rs ck od su mc ix l1 l2 l3 l4 l5 l6 ks h1.sl h1.al h1.sm h1.am h1.en h1.il h1.im h1.kl h1.km
 have hl1:=encS_len sd au en ac re rs ck od su mc ix l1 l2 l3 l4 l5 l6 ks h1
 have hl0:=encS_len sd0 au0 en0 ac0 re0 rs0 ck0 od0 su0 mc0 ix0 l10 l20 l30 l40 l50 l60 ks0 h0
 generalize encS sd au en ac re rs ck od [] su mc ix l1 l2 l3 l4 l5 l6 ks=p1 at *
 generalize encS sd0 au0 en0 ac0 re0 rs0 ck0 od0 [] su0 mc0 ix0 l10 l20 l30 l40 l50 l60 ks0=p0 at *
 have ec:=ev_jcommit ar wr to nx p1 hl.2 hl.1 zf zf zf
 refine tq ?_
 rw[e1]
 refine tq ?_
 rw[e0]
 refine tq ?_
 rw[ec]
 exact tq rfl
theorem ev_commit(sd:List (List UInt8))(au:List (List UInt8))(en:List UInt8)(ac:Int)(re:Int)(rs:Int)(ck:Int)(od:Bool)(su:Int)(mc:Int)(ix:List (El FU))(l1:Int)(l2:Int)(l3:Int)(l4:Int)(l5:Int)(l6:Int)(ks:List (El IJ))(st:Bool)(sp:Bool)(rb:List (List (List UInt8)))(ru:Int)(vc:Int)(sf:Bool)(dr:Int)(ss:List (El Gi))(ob:List (El objT))(rl:List Int)(wl:List Int)(h0:stOK sd0 au0 en0 ac0 re0 rs0 ck0 su0 mc0 ix0 l10 l20 l30 l40 l50 l60 ks0)(h1:stOK sd au en ac re rs ck su mc ix l1 l2 l3 l4 l5 l6 ks)(har:arOK ar (nx-1) (encS sd0 au0 en0 ac0 re0 rs0 ck0 od0 [] su0 mc0 ix0 l10 l20 l30 l40 l50 l60 ks0))(hw:0<=wr/\wr<=nx)(hn:nx<=800000):∃ ar' wr' nx',arOK ar' (nx'-1) (encS sd au en ac re rs ck od [] su mc ix l1 l2 l3 l4 l5 l6 ks)/\0<=wr'/\wr'<=nx'/\nx'<=nx+1/\(encS sd au en ac re rs ck od [] su mc ix l1 l2 l3 l4 l5 l6 ks=encS sd0 au0 en0 ac0 re0 rs0 ck0 od0 [] su0 mc0 ix0 l10 l20 l30 l40 l50 l60 ks0->nx'=nx) /\
  Y E0 (.call 82 [nG ar wr 0 to false sd0 au0 en0 ac0 re0 rs0 ck0 od0 [] su0 mc0 ix0 l10 l20 l30 l40 l50 l60 ks0 st0 sp0 rb0 ru0 vc0 sf0 dr0 ss0 ob0 rl0 wl0 true nx,.agg [.sl (.sl .u8) sd,.sl (.sl .u8) au,.sl .u8 en,.i ac,.i re,.i rs,.i ck,.b od,.sl (.sl (.sl .u8)) [],.i su,.i mc,.sl FU ix,.i l1,.i l2,.i l3,.i l4,.i l5,.i l6,.sl IJ ks,.b st,.b sp,.sl (.sl (.sl .u8)) rb,.i ru,.i vc,.b sf,.i dr,.sl Gi ss,.sl objT ob,.sl .i64 rl,.sl .i64 wl]] [])=some (.ret (.tup [nG ar' wr' 0 to false sd au en ac re rs ck od [] su mc ix l1 l2 l3 l4 l5 l6 ks st sp rb ru vc sf dr ss ob rl wl true nx',.i 0]) []):=by
 have hq:1<=nx-1:=har.2.1
 by_cases he:encS sd au en ac re rs ck od [] su mc ix l1 l2 l3 l4 l5 l6 ks=encS sd0 au0 en0 ac0 re0 rs0 ck0 od0 [] su0 mc0 ix0 l10 l20 l30 l40 l50 l60 ks0
 ·exact⟨ar,wr,nx,by rw[he];exact har,hw.1,hw.2,by omega,fun _=>rfl,ev_commit_eq ar wr to nx sd0 au0 en0 ac0 re0 rs0 ck0 od0 su0 mc0 ix0 l10 l20 l30 l40 l50 l60 ks0 st0 sp0 rb0 ru0 vc0 sf0 dr0 ss0 ob0 rl0 wl0 sd au en ac re rs ck od su mc ix l1 l2 l3 l4 l5 l6 ks st sp rb ru vc sf dr ss ob rl wl h0 h1 he⟩
 ·refine⟨_,wr+1,nx+1,?_,by omega,by omega,by omega,fun h=>absurd h he,ev_commit_ne ar wr to nx sd0 au0 en0 ac0 re0 rs0 ck0 od0 su0 mc0 ix0 l10 l20 l30 l40 l50 l60 ks0 st0 sp0 rb0 ru0 vc0 sf0 dr0 ss0 ob0 rl0 wl0 sd au en ac re rs ck od su mc ix l1 l2 l3 l4 l5 l6 ks st sp rb ru vc sf dr ss ob rl wl h0 h1 he ⟨by rw[har.1];decide,by rw[har.1];decide⟩ zf zf⟩
  have h:=arOK_next (p':=encS sd au en ac re rs ck od [] su mc ix l1 l2 l3 l4 l5 l6 ks) har zf (Nat.le_trans (encS_len sd au en ac re rs ck od su mc ix l1 l2 l3 l4 l5 l6 ks h1) zh)
  rw[show nx-1+1=nx from by omega] at h
  rw[show nx+1-1=nx from by omega]
  exact h
end
theorem ev_with(hs:List Int)(is:List Int)(bs:List (List UInt8))(v:List UInt8):Y E0 (.call 14 [rq c hs [] is bs,.sl .u8 v] [])=some (.ret (rq c hs [(0,[],v)] is bs) []):=by
 refine tq ?_
 with_reducible rfl
theorem ev_by(hs:List Int)(is:List Int)(bs:List (List UInt8))(v:Int):Y E0 (.call 36 [rq c hs [] is bs,.i v] [])=some (.ret (rq c hs [(v,[],[])] is bs) []):=by
 refine tq ?_
 with_reducible rfl
theorem ev_primary(h k a t:Int)(p u d:List UInt8):Y E0 (.call 10 [.i h,.i k,.i a,.i t,.sl .u8 p,.sl .u8 u,.sl .u8 d] [])=some (.ret (rq 9 [h] [(0,[],[])] [k,a,t] [p,u,d]) []):=by
 refine tq ?_
 refine tq ?_
 with_reducible rfl
theorem ev_topen(k:Int):Y E0 (.call 17 [.i k] [])=some (.ret (rq 16 [] [] [k] []) []):=by
 refine tq ?_
 with_reducible rfl
theorem ev_tpolicy(s:Int):Y E0 (.call 35 [.i s,.i 1,.agg [.i 0,.i 1],.i 0,.i 0,.sl (.sl .u8) [[]]] [])=some (.ret (rq 17 [] [] [s,1,0,1,0,0] [[]]) []):=by
 refine tq ?_
 with_reducible rfl
theorem ev_on(h:Int):Y E0 (.call 15 [.i c,.i h,.sl (.sl .u8) []] [])=some (.ret (rq c [h] [] [] []) []):=by
 refine tq ?_
 with_reducible rfl
end Go.Proofs.YtanagnimhaemgaaGreatDoor
