/-
  Own texts, laid together for this claim: contracts of functions of the program and its references, used by the statements of this seat.
-/
import Derived.Test.YtanagnimhaemgaaGreatDoorMtab
import Derived.Test.YtanagnimhaemgaaGreatDoorMtac
import Derived.Test.YtanagnimhaemgaaGreatDoorMtad
import Derived.Test.YtanagnimhaemgaaGreatDoorMtag
import Derived.Test.YtanagnimhaemgaaGreatDoorMtah
import Derived.Test.YtanagnimhaemgaaGreatDoorMtaj
import Derived.Test.YtanagnimhaemgaaGreatDoorMtak
import Derived.Test.YtanagnimhaemgaaGreatDoorMtan
import Derived.Test.YtanagnimhaemgaaGreatDoorMtaq
import Derived.Test.YtanagnimhaemgaaGreatDoorMtas
import Derived.Test.YtanagnimhaemgaaGreatDoorMtat
import Derived.Test.YtanagnimhaemgaaGreatDoorMtav
import Derived.Test.YtanagnimhaemgaaGreatDoorMtaw
import Derived.Test.YtanagnimhaemgaaGreatDoorMtay
import Derived.Test.YtanagnimhaemgaaGreatDoorMtaz
set_option linter.all false
set_option maxHeartbeats 40000000
set_option maxRecDepth 100000
namespace Go.Ax
open Go Go.Eng Go.RowKit
noncomputable def G5(ks:List (El IJ))(p1 p2 p3:Int)(p5 s2 m:List UInt8):List (El IJ)×Ans :=
 if p1≠2 then(ks,⟨19,[],[]⟩) else if BJ .and p2 4≠0 then(ks,⟨20,[],[]⟩) else if 128<m.length then(ks,⟨4,[],[]⟩)
 else if(Ff ks p5 p3).2.2≠0 then(ks,⟨(Ff ks p5 p3).2.2,[],[]⟩) else((Ff ks p5 p3).1,⟨0,[],[Eo s2 p3 (Ff ks p5 p3).2.1 m]⟩)
noncomputable def ER(ks:List (El IJ))(p1 p2 p3:Int)(p5 s2 m:List UInt8)(e:Int)(a:Att):List (El IJ)×Ans :=
 if p1≠2 then(ks,⟨19,[],[]⟩) else if BJ .and p2 4=0 then(ks,⟨20,[],[]⟩) else if 128<m.length then(ks,⟨4,[],[]⟩)
 else if e≠0 then(ks,⟨e,[],[]⟩)
 else if(Ff ks p5 p3).2.2≠0 then(ks,⟨(Ff ks p5 p3).2.2,[],[]⟩) else((Ff ks p5 p3).1,⟨0,[],[GH a,Eo s2 p3 (Ff ks p5 p3).2.1 (GH a)]⟩)
end Go.Ax
namespace Go.Proofs.YtanagnimhaemgaaGreatDoor
open Go Go.Ax Go.Eng
structure rqG (c nb:Int) (hs:List Int) (az:List (El MR)) (is:List Int) (bs:List (List UInt8)):Prop where
 sh:Y E0 (.call 158 [.i c] [])=some (.ret (.tup [.i (hs.length:Int),.i (az.length:Int),.i (is.length:Int),.i nb,.b true]) [])
 ct:Y E0 (.call 159 [.i (bs.length:Int),.i nb] [])=some (.ret (.b true) [])
 rs:Y E0 (.call 125 [.i c] [])=some (.ret (.tup [.agg [.i (hs.length:Int),.i (az.length:Int),.i (is.length:Int),.i nb],.b true]) [])
 rc:Y E0 (.call 126 [.i nb,.i (bs.length:Int)] [])=some (.ret (.b true) [])
 cb:0<=c/\c<=255
 hl:hs.length<=10
 al:az.length<=10
 il:is.length<=10
 bl:bs.length<=10
 hm:∀ x∈hs,0<=x/\x<=65535
 am:∀ x∈az,((0:Int)<=x.1/\(x.1:Int)<=65535)/\x.2.1.length<=128/\x.2.2.length<=128
 im:∀ x∈is,0<=x/\x<=1099511627776
 bm:∀ x∈bs,x.length<=1024
 ln:(lT c hs az is bs).length<=2048
structure rpG (e:Int) (is:List Int) (bs ns:List (List UInt8)):Prop where
 er:e=0\/(0<e/\e<=255)/\is=[]/\bs=[]/\ns=[]
 il:is.length<=10
 bl:bs.length<=10
 nl:ns.length<=10
 im:∀ x∈is,0<=x/\x<9223372036854775808
 bm:∀ x∈bs,x.length<=1024
 nm:∀ x∈ns,x.length<=1024
theorem ask_of(ar:List (List UInt8))(wr to nx loc:Int)(sd0:List (List UInt8))(au0:List (List UInt8))(en0:List UInt8)(ac0:Int)(re0:Int)(rs0:Int)(ck0:Int)(od0:Bool)(su0:Int)(mc0:Int)(ix0:List (El FU))(l10:Int)(l20:Int)(l30:Int)(l40:Int)(l50:Int)(l60:Int)(ks0:List (El IJ))(st0:Bool)(sp0:Bool)(rb0:List (List (List UInt8)))(ru0:Int)(vc0:Int)(sf0:Bool)(dr0:Int)(ss0:List (El Gi))(ob0:List (El objT))(rl0:List Int)(wl0:List Int)(sd:List (List UInt8))(au:List (List UInt8))(en:List UInt8)(ac:Int)(re:Int)(rs:Int)(ck:Int)(od:Bool)(su:Int)(mc:Int)(ix:List (El FU))(l1:Int)(l2:Int)(l3:Int)(l4:Int)(l5:Int)(l6:Int)(ks:List (El IJ))(st:Bool)(sp:Bool)(rb:List (List (List UInt8)))(ru:Int)(vc:Int)(sf:Bool)(dr:Int)(ss:List (El Gi))(ob:List (El objT))(rl:List Int)(wl:List Int)(c nb:Int)(hs:List Int)(az:List (El MR))(qi:List Int)(qb:List (List UInt8))(e:Int)(is:List Int)(bs ns:List (List UInt8))(hq:rqG c nb hs az qi qb)(hp:rpG e is bs ns)(h0:stOK sd0 au0 en0 ac0 re0 rs0 ck0 su0 mc0 ix0 l10 l20 l30 l40 l50 l60 ks0)(h1:stOK sd au en ac re rs ck su mc ix l1 l2 l3 l4 l5 l6 ks)(har:arOK ar (nx-1) (encS sd0 au0 en0 ac0 re0 rs0 ck0 od0 [] su0 mc0 ix0 l10 l20 l30 l40 l50 l60 ks0))(hw:0<=wr/\wr<=nx)(hn:nx<=800000)
  (hx:Y E0 (.call 131 [.agg [.sl (.sl .u8) sd0,.sl (.sl .u8) au0,.sl .u8 en0,.i ac0,.i re0,.i rs0,.i ck0,.b od0,.sl (.sl (.sl .u8)) [],.i su0,.i mc0,.sl FU ix0,.i l10,.i l20,.i l30,.i l40,.i l50,.i l60,.sl IJ ks0,.b st0,.b sp0,.sl (.sl (.sl .u8)) rb0,.i ru0,.i vc0,.b sf0,.i dr0,.sl Gi ss0,.sl objT ob0,.sl .i64 rl0,.sl .i64 wl0],.i loc,rq c hs az qi qb] [])=some (.ret (.tup [.agg [.sl (.sl .u8) sd,.sl (.sl .u8) au,.sl .u8 en,.i ac,.i re,.i rs,.i ck,.b od,.sl (.sl (.sl .u8)) [],.i su,.i mc,.sl FU ix,.i l1,.i l2,.i l3,.i l4,.i l5,.i l6,.sl IJ ks,.b st,.b sp,.sl (.sl (.sl .u8)) rb,.i ru,.i vc,.b sf,.i dr,.sl Gi ss,.sl objT ob,.sl .i64 rl,.sl .i64 wl],nV e is bs ns]) [])) :
  ∃ ar' wr' nx',arOK ar' (nx'-1) (encS sd au en ac re rs ck od [] su mc ix l1 l2 l3 l4 l5 l6 ks)/\0<=wr'/\wr'<=nx'/\nx'<=nx+1/\(encS sd au en ac re rs ck od [] su mc ix l1 l2 l3 l4 l5 l6 ks=encS sd0 au0 en0 ac0 re0 rs0 ck0 od0 [] su0 mc0 ix0 l10 l20 l30 l40 l50 l60 ks0->nx'=nx)/\Y E0 (.call 13 [nG ar wr 0 to false sd0 au0 en0 ac0 re0 rs0 ck0 od0 [] su0 mc0 ix0 l10 l20 l30 l40 l50 l60 ks0 st0 sp0 rb0 ru0 vc0 sf0 dr0 ss0 ob0 rl0 wl0 true nx,.i loc,rq c hs az qi qb] [])=some (.ret (.tup [nG ar' wr' 0 to false sd au en ac re rs ck od [] su mc ix l1 l2 l3 l4 l5 l6 ks st sp rb ru vc sf dr ss ob rl wl true nx',nV e is bs ns,.b true]) []):=by
 obtain⟨ar',wr',nx',k1,k2,k3,k4,k5,hc⟩:=ev_commit ar wr to nx sd0 au0 en0 ac0 re0 rs0 ck0 od0 su0 mc0 ix0 l10 l20 l30 l40 l50 l60 ks0 st0 sp0 rb0 ru0 vc0 sf0 dr0 ss0 ob0 rl0 wl0 sd au en ac re rs ck od su mc ix l1 l2 l3 l4 l5 l6 ks st sp rb ru vc sf dr ss ob rl wl h0 h1 har hw hn
 refine⟨ar',wr',nx',k1,k2,k3,k4,k5,?_⟩
 have hen:=ev_renc c nb hs az qi qb hq.rs hq.rc hq.hl hq.al hq.il hq.bl hq.hm hq.am hq.im hq.bm hq.ln
 have hd:=ev_cdecE c nb hs az qi qb hq.cb hq.sh hq.ct hq.hl hq.al hq.il hq.bl hq.hm hq.am hq.im hq.bm hq.ln
 have hr:Y E0 (.call 130 [nV e is bs ns] [])=some (.ret (.sl .u8 (respB e is bs ns)) []):=by
  rcases hp.er with rfl|⟨h,rfl,rfl,rfl⟩
  ·exact ev_cer is bs ns hp.il hp.bl hp.nl hp.bm hp.nm
  ·exact ev_cer_e e [] [] [] zf
 have hdr:Y E0 (.call 40 [.sl .u8 (respB e is bs ns)] [])=some (.ret (.tup [nV e is bs ns,.i 0]) []):=by
  rcases hp.er with rfl|⟨h,rfl,rfl,rfl⟩
  ·exact ev_dr is bs ns hp.il hp.bl hp.nl hp.im hp.bm hp.nm
  ·exact ev_dre e [] [] [] h
 have hrun:=ev_run sd0 au0 en0 ac0 re0 rs0 ck0 od0 su0 mc0 ix0 l10 l20 l30 l40 l50 l60 ks0 st0 sp0 rb0 ru0 vc0 sf0 dr0 ss0 ob0 rl0 wl0 sd au en ac re rs ck od su mc ix l1 l2 l3 l4 l5 l6 ks st sp rb ru vc sf dr ss ob rl wl loc c hs az qi qb e (lT c hs az qi qb) is bs ns hd hx hr
 have hsn:=ev_send ar ar' wr to nx wr' nx' loc sd0 au0 en0 ac0 re0 rs0 ck0 od0 su0 mc0 ix0 l10 l20 l30 l40 l50 l60 ks0 st0 sp0 rb0 ru0 vc0 sf0 dr0 ss0 ob0 rl0 wl0 sd au en ac re rs ck od su mc ix l1 l2 l3 l4 l5 l6 ks st sp rb ru vc sf dr ss ob rl wl (lT c hs az qi qb) (respB e is bs ns) hrun hc
 exact ev_ask ar ar' wr to nx wr' nx' loc sd0 au0 en0 ac0 re0 rs0 ck0 od0 su0 mc0 ix0 l10 l20 l30 l40 l50 l60 ks0 st0 sp0 rb0 ru0 vc0 sf0 dr0 ss0 ob0 rl0 wl0 sd au en ac re rs ck od su mc ix l1 l2 l3 l4 l5 l6 ks st sp rb ru vc sf dr ss ob rl wl c hs az qi qb (lT c hs az qi qb) (respB e is bs ns) e is bs ns hen hsn hdr
section
attribute [local irreducible] BL BM BN BO BP BJ BQ CX Cm CY CW Ba Bc BF BC and' BG Bd Aa Ac Ad Ae Af AL AO AP AQ BR D8 BU D5 Be Bf Ag Ah Ai Aj AB AZ AU Ar BA BV BH BB Au Aw BI Bg BX fits BZ BK A7 A8 AC
attribute [local irreducible] D7 CG CQ nameB Dh Dv Bh Dp Dt
variable (sd au:List (List UInt8))(en:List UInt8)(ac re rs ck:Int)(od:Bool)(sb:List (List (List UInt8)))(su mc:Int)(ix:List (El FU))(l1 l2 l3 l4 l5 l6:Int)(ks:List (El IJ))(st sp:Bool)(rb:List (List (List UInt8)))(ru vc:Int)(sf:Bool)(dr:Int)(ss:List (El Gi))(ob:List (El objT))(rl wl:List Int)
theorem ev_ounseal_t(c h:Int)(hs:List Int)(az:List (El MR))(is:List Int)(bs:List (List UInt8))(p1 p2 p3:Int)(p4 p5 s1 s2 s3:List UInt8)(hr:Int)(hl:ob.length<=1000)(hhs:hs.length<=100)(hx:slotAt ob h=some ((p1,p2,p3,p4,p5),(s1,s2,s3),hr))(h3:p1=3):
  Y E0 (.call 199 [(sX sd au en ac re rs ck od sb su mc ix l1 l2 l3 l4 l5 l6 ks st sp rb ru vc sf dr ss ob rl wl),.agg [.i c,.sl .i64 (h::hs),.sl MR az,.sl .i64 is,.sl (.sl .u8) bs]] [])=some (.ret (.tup [(sX sd au en ac re rs ck od sb su mc ix l1 l2 l3 l4 l5 l6 ks st sp rb ru vc sf dr ss ob rl wl),.agg [.i 0,.sl .i64 [],.sl (.sl .u8) [s3],.sl (.sl .u8) []]]) []):=by
 refine tq ?_;rw[ev_ofirst (hl:=NE) ..];refine tq ?_;rw[ev_eobj_t _ _ _ _ _ _ _ _ _ _ _ _ _ _ _ _ _ _ _ _ _ _ _ _ _ _ _ _ _ _ _ _ _ _ _ _ _ _ _ _ hl hx];exact tq rfl
end
section
attribute [local irreducible] BL BM BN BO BP BJ BQ CX Cm CY CW Ba Bc BF BC and' BG Bd Aa Ac Ad Ae Af AL AO AP AQ BR D8 BU D5 Be Bf Ag Ah Ai Aj AB AZ AU Ar BA BV BH BB Au Aw BI Bg BX fits BZ BK A7 A8 AC
attribute [local irreducible] D7 CG CQ nameB Dh Dv Bh Dp Dt Dn Di Ef Bz Fe
variable (sd au:List (List UInt8))(en:List UInt8)(ac re rs ck:Int)(od:Bool)(sb:List (List (List UInt8)))(su mc:Int)(ix:List (El FU))(l1 l2 l3 l4 l5 l6:Int)(ks:List (El IJ))(st sp:Bool)(rb:List (List (List UInt8)))(ru vc:Int)(sf:Bool)(dr:Int)(ss:List (El Gi))(ob:List (El objT))(rl wl:List Int)
theorem ev_srand(n:Int)(hen:en.length<=100000):Y E0 (.call 207 [(sX sd au en ac re rs ck od sb su mc ix l1 l2 l3 l4 l5 l6 ks st sp rb ru vc sf dr ss ob rl wl),.i n] [])=some (.ret (.tup [(sX sd au en ac re rs ck od sb su mc ix l1 l2 l3 l4 l5 l6 ks st sp rb ru vc sf (BL dr 1) ss ob rl wl),.sl .u8 (iR en re rs dr n)]) []):=by
 refine tq ?_;rw[ev_uint _ _ _ NE];refine tq ?_;rw[ev_uint _ _ _ NE];refine tq ?_;rw[ev_uint _ _ _ NE];refine tq ?_;rw[show strOf {data := #[114,97,110,100,111,109]}=iQ from rfl,ev_derive _ _ _ _ zf zh (by simp only[Xa,List.length_nil];omega)]
 refine tq ?_
 rfl
end
section
attribute [local irreducible] BL BM BN BO BP BJ BQ CX Cm CY CW Ba Bc BF BC and' BG Bd Aa Ac Ad Ae Af AL AO AP AQ BR D8 BU D5 Be Bf Ag Ah Ai Aj AB AZ AU Ar BA BV BH BB Au Aw BI Bg BX fits BZ BK A7 A8 AC
theorem ev_kattr(sd:List (List UInt8))(au:List (List UInt8))(en:List UInt8)(ac:Int)(re:Int)(rs:Int)(ck:Int)(od:Bool)(su:Int)(mc:Int)(ix:List (El FU))(l1:Int)(l2:Int)(l3:Int)(l4:Int)(l5:Int)(l6:Int)(ks:List (El IJ))(st:Bool)(sp:Bool)(rb:List (List (List UInt8)))(ru:Int)(vc:Int)(sf:Bool)(dr:Int)(ss:List (El Gi))(ob:List (El objT))(rl:List Int)(wl:List Int)(c:Int)(hs:List Int)(az:List (El MR))(qi:List Int)(qb:List (List UInt8))(se:Int)(nn v:List UInt8)(h:Int)(hh:0<=h/\h<=3)(hl:ix.length<=10)(hx:∀ x∈ix,iU x):Y E0 (.call 242 [.agg [.sl (.sl .u8) sd,.sl (.sl .u8) au,.sl .u8 en,.i ac,.i re,.i rs,.i ck,.b od,.sl (.sl (.sl .u8)) [],.i su,.i mc,.sl FU ix,.i l1,.i l2,.i l3,.i l4,.i l5,.i l6,.sl IJ ks,.b st,.b sp,.sl (.sl (.sl .u8)) rb,.i ru,.i vc,.b sf,.i dr,.sl Gi ss,.sl objT ob,.sl .i64 rl,.sl .i64 wl,.i c,.sl .i64 hs,.sl MR az,.sl .i64 qi,.sl (.sl .u8) qb,.i se,.sl .u8 nn,.sl .u8 v,.i h],.i h] [])=some (.ret (.tup [.i 0,.b false]) []):=by
 have hi:=ev_eidx_f sd au en ac re rs ck od su mc ix l1 l2 l3 l4 l5 l6 ks st sp rb ru vc sf dr ss ob rl wl h hh hl hx
 refine tq ?_
 rw[hi]
 exact tq rfl
theorem ev_kforb(sd:List (List UInt8))(au:List (List UInt8))(en:List UInt8)(ac:Int)(re:Int)(rs:Int)(ck:Int)(od:Bool)(su:Int)(mc:Int)(ix:List (El FU))(l1:Int)(l2:Int)(l3:Int)(l4:Int)(l5:Int)(l6:Int)(ks:List (El IJ))(st:Bool)(sp:Bool)(rb:List (List (List UInt8)))(ru:Int)(vc:Int)(sf:Bool)(dr:Int)(ss:List (El Gi))(ob:List (El objT))(rl:List Int)(wl:List Int)(c:Int)(hs:List Int)(az:List (El MR))(qi:List Int)(qb:List (List UInt8))(se:Int)(nn v:List UInt8)(h:Int)(hh:0<=h/\h<=3)(hl:ix.length<=10)(hx:∀ x∈ix,iU x)(ho:ob.length<=1000)(hc:c<23\/29<c):Y E0 (.call 235 [.agg [.sl (.sl .u8) sd,.sl (.sl .u8) au,.sl .u8 en,.i ac,.i re,.i rs,.i ck,.b od,.sl (.sl (.sl .u8)) [],.i su,.i mc,.sl FU ix,.i l1,.i l2,.i l3,.i l4,.i l5,.i l6,.sl IJ ks,.b st,.b sp,.sl (.sl (.sl .u8)) rb,.i ru,.i vc,.b sf,.i dr,.sl Gi ss,.sl objT ob,.sl .i64 rl,.sl .i64 wl,.i c,.sl .i64 hs,.sl MR az,.sl .i64 qi,.sl (.sl .u8) qb,.i se,.sl .u8 nn,.sl .u8 v,.i h]] [])=some (.ret (.b false) []):=by
 have hi:=ev_kattr sd au en ac re rs ck od su mc ix l1 l2 l3 l4 l5 l6 ks st sp rb ru vc sf dr ss ob rl wl c hs az qi qb se nn v h hh hl hx
 have hb:=ev_eobj_f sd au en ac re rs ck od [] su mc ix l1 l2 l3 l4 l5 l6 ks st sp rb ru vc sf dr ss ob rl wl h ho zf (by rw[slotAt,if_neg zf])
 rcases hc with hc|hc
 ·by_cases h1:h=1
  ·subst h1
   refine tq ?_
   rw[hb]
   refine tq ?_
   rw[hi]
   exact tq rfl
  ·refine tq ?_
   rw[hb]
   refine tq ?_
   rw[hi]
   exact tq rfl
 ·by_cases h1:h=1
  ·subst h1
   refine tq ?_
   rw[hb]
   refine tq ?_
   rw[hi]
   exact tq rfl
  ·refine tq ?_
   rw[hb]
   refine tq ?_
   rw[hi]
   exact tq rfl
theorem ev_klock(sd:List (List UInt8))(au:List (List UInt8))(en:List UInt8)(ac:Int)(re:Int)(rs:Int)(ck:Int)(od:Bool)(su:Int)(mc:Int)(ix:List (El FU))(l1:Int)(l2:Int)(l3:Int)(l4:Int)(l5:Int)(l6:Int)(ks:List (El IJ))(st:Bool)(sp:Bool)(rb:List (List (List UInt8)))(ru:Int)(vc:Int)(sf:Bool)(dr:Int)(ss:List (El Gi))(ob:List (El objT))(rl:List Int)(wl:List Int)(c:Int)(hs:List Int)(az:List (El MR))(qi:List Int)(qb:List (List UInt8))(se:Int)(nn v:List UInt8)(h:Int)(hh:0<=h/\h<=2)(w:List UInt8)(hl:ix.length<=10)(hx:∀ x∈ix,iU x)(ho:ob.length<=1000)(ha:au.length=4)(hv:BA au h=some w):Y E0 (.call 236 [.agg [.sl (.sl .u8) sd,.sl (.sl .u8) au,.sl .u8 en,.i ac,.i re,.i rs,.i ck,.b od,.sl (.sl (.sl .u8)) [],.i su,.i mc,.sl FU ix,.i l1,.i l2,.i l3,.i l4,.i l5,.i l6,.sl IJ ks,.b st,.b sp,.sl (.sl (.sl .u8)) rb,.i ru,.i vc,.b sf,.i dr,.sl Gi ss,.sl objT ob,.sl .i64 rl,.sl .i64 wl,.i c,.sl .i64 hs,.sl MR az,.sl .i64 qi,.sl (.sl .u8) qb,.i se,.sl .u8 nn,.sl .u8 v,.i h]] [])=some (.ret (.b false) []):=by
 have hp:=ev_eprot_h sd au en ac re rs ck od su mc ix l1 l2 l3 l4 l5 l6 ks st sp rb ru vc sf dr ss ob rl wl h w zf hl hx ho ha hv
 refine tq ?_
 rw[hp]
 exact tq rfl
theorem ev_kcmp_t(sd:List (List UInt8))(au:List (List UInt8))(en:List UInt8)(ac:Int)(re:Int)(rs:Int)(ck:Int)(od:Bool)(su:Int)(mc:Int)(ix:List (El FU))(l1:Int)(l2:Int)(l3:Int)(l4:Int)(l5:Int)(l6:Int)(ks:List (El IJ))(st:Bool)(sp:Bool)(rb:List (List (List UInt8)))(ru:Int)(vc:Int)(sf:Bool)(dr:Int)(ss:List (El Gi))(ob:List (El objT))(rl:List Int)(wl:List Int)(c:Int)(hs:List Int)(az:List (El MR))(qi:List Int)(qb:List (List UInt8))(se:Int)(nn v:List UInt8)(h:Int)(x:List UInt8)(hx:x.length<=100000):Y E0 (.call 238 [.agg [.sl (.sl .u8) sd,.sl (.sl .u8) au,.sl .u8 en,.i ac,.i re,.i rs,.i ck,.b od,.sl (.sl (.sl .u8)) [],.i su,.i mc,.sl FU ix,.i l1,.i l2,.i l3,.i l4,.i l5,.i l6,.sl IJ ks,.b st,.b sp,.sl (.sl (.sl .u8)) rb,.i ru,.i vc,.b sf,.i dr,.sl Gi ss,.sl objT ob,.sl .i64 rl,.sl .i64 wl,.i c,.sl .i64 hs,.sl MR az,.sl .i64 qi,.sl (.sl .u8) qb,.i se,.sl .u8 nn,.sl .u8 v,.i h],.sl .u8 x,.sl .u8 x] [])=some (.ret (.tup [.agg [.sl (.sl .u8) sd,.sl (.sl .u8) au,.sl .u8 en,.i ac,.i re,.i rs,.i ck,.b od,.sl (.sl (.sl .u8)) [],.i su,.i mc,.sl FU ix,.i l1,.i l2,.i l3,.i l4,.i l5,.i l6,.sl IJ ks,.b st,.b sp,.sl (.sl (.sl .u8)) rb,.i ru,.i vc,.b sf,.i dr,.sl Gi ss,.sl objT ob,.sl .i64 rl,.sl .i64 wl],.i 0]) []):=by
 have he:=ev_equal x x zf
 rw[decide_eq_true rfl] at he
 refine tq ?_
 rw[he]
 exact tq rfl
theorem ev_kcmp_f(sd:List (List UInt8))(au:List (List UInt8))(en:List UInt8)(ac:Int)(re:Int)(rs:Int)(ck:Int)(od:Bool)(su:Int)(mc:Int)(ix:List (El FU))(l1:Int)(l2:Int)(l3:Int)(l4:Int)(l5:Int)(l6:Int)(ks:List (El IJ))(st:Bool)(sp:Bool)(rb:List (List (List UInt8)))(ru:Int)(vc:Int)(sf:Bool)(dr:Int)(ss:List (El Gi))(ob:List (El objT))(rl:List Int)(wl:List Int)(c:Int)(hs:List Int)(az:List (El MR))(qi:List Int)(qb:List (List UInt8))(se:Int)(nn v:List UInt8)(h:Int)(x y w:List UInt8)(hxl:x.length<=100000)(hxy:x≠y)(hh:0<=h/\h<=2)(hl:ix.length<=10)(hx:∀ x∈ix,iU x)(ho:ob.length<=1000)(ha:au.length=4)(hv:BA au h=some w):Y E0 (.call 238 [.agg [.sl (.sl .u8) sd,.sl (.sl .u8) au,.sl .u8 en,.i ac,.i re,.i rs,.i ck,.b od,.sl (.sl (.sl .u8)) [],.i su,.i mc,.sl FU ix,.i l1,.i l2,.i l3,.i l4,.i l5,.i l6,.sl IJ ks,.b st,.b sp,.sl (.sl (.sl .u8)) rb,.i ru,.i vc,.b sf,.i dr,.sl Gi ss,.sl objT ob,.sl .i64 rl,.sl .i64 wl,.i c,.sl .i64 hs,.sl MR az,.sl .i64 qi,.sl (.sl .u8) qb,.i se,.sl .u8 nn,.sl .u8 v,.i h],.sl .u8 x,.sl .u8 y] [])=some (.ret (.tup [.agg [.sl (.sl .u8) sd,.sl (.sl .u8) au,.sl .u8 en,.i ac,.i re,.i rs,.i ck,.b od,.sl (.sl (.sl .u8)) [],.i su,.i mc,.sl FU ix,.i l1,.i l2,.i l3,.i l4,.i l5,.i l6,.sl IJ ks,.b st,.b sp,.sl (.sl (.sl .u8)) rb,.i ru,.i vc,.b sf,.i dr,.sl Gi ss,.sl objT ob,.sl .i64 rl,.sl .i64 wl],.i 9]) []):=by
 have he:=ev_equal x y zf
 rw[decide_eq_false hxy] at he
 have hp:=ev_eprot_h sd au en ac re rs ck od su mc ix l1 l2 l3 l4 l5 l6 ks st sp rb ru vc sf dr ss ob rl wl h w zf hl hx ho ha hv
 refine tq ?_
 rw[he]
 refine tq ?_
 rw[hp]
 exact tq rfl
theorem ev_kval(sd:List (List UInt8))(au:List (List UInt8))(en:List UInt8)(ac:Int)(re:Int)(rs:Int)(ck:Int)(od:Bool)(su:Int)(mc:Int)(ix:List (El FU))(l1:Int)(l2:Int)(l3:Int)(l4:Int)(l5:Int)(l6:Int)(ks:List (El IJ))(st:Bool)(sp:Bool)(rb:List (List (List UInt8)))(ru:Int)(vc:Int)(sf:Bool)(dr:Int)(ss:List (El Gi))(ob:List (El objT))(rl:List Int)(wl:List Int)(c:Int)(hs:List Int)(az:List (El MR))(qi:List Int)(qb:List (List UInt8))(se:Int)(nn v:List UInt8)(h:Int)(hh:0<=h/\h<=2)(hl:ix.length<=10)(hx:∀ x∈ix,iU x)(ho:ob.length<=1000)(ha:au.length=4)(hv:BA au h=some v)(hc:c<23\/29<c)(hvl:v.length<=1000):Y E0 (.call 194 [.agg [.sl (.sl .u8) sd,.sl (.sl .u8) au,.sl .u8 en,.i ac,.i re,.i rs,.i ck,.b od,.sl (.sl (.sl .u8)) [],.i su,.i mc,.sl FU ix,.i l1,.i l2,.i l3,.i l4,.i l5,.i l6,.sl IJ ks,.b st,.b sp,.sl (.sl (.sl .u8)) rb,.i ru,.i vc,.b sf,.i dr,.sl Gi ss,.sl objT ob,.sl .i64 rl,.sl .i64 wl,.i c,.sl .i64 hs,.sl MR az,.sl .i64 qi,.sl (.sl .u8) qb,.i se,.sl .u8 nn,.sl .u8 v,.i h],nP 0 [] [] 0 0 0 0 false] [])=some (.ret (.tup [.agg [.sl (.sl .u8) sd,.sl (.sl .u8) au,.sl .u8 en,.i ac,.i re,.i rs,.i ck,.b od,.sl (.sl (.sl .u8)) [],.i su,.i mc,.sl FU ix,.i l1,.i l2,.i l3,.i l4,.i l5,.i l6,.sl IJ ks,.b st,.b sp,.sl (.sl (.sl .u8)) rb,.i ru,.i vc,.b sf,.i dr,.sl Gi ss,.sl objT ob,.sl .i64 rl,.sl .i64 wl],.i 0]) []):=by
 have h1:=ev_kforb sd au en ac re rs ck od su mc ix l1 l2 l3 l4 l5 l6 ks st sp rb ru vc sf dr ss ob rl wl c hs az qi qb se nn v h zf hl hx ho hc
 have h2:=ev_klock sd au en ac re rs ck od su mc ix l1 l2 l3 l4 l5 l6 ks st sp rb ru vc sf dr ss ob rl wl c hs az qi qb se nn v h hh v hl hx ho ha hv
 have h3:=ev_eval_h sd au en ac re rs ck od su mc ix l1 l2 l3 l4 l5 l6 ks st sp rb ru vc sf dr ss ob rl wl h v zf hl hx ho ha hv
 have h4:=ev_kcmp_t sd au en ac re rs ck od su mc ix l1 l2 l3 l4 l5 l6 ks st sp rb ru vc sf dr ss ob rl wl c hs az qi qb se nn v h v zf
 refine tq ?_
 rw[h1]
 refine tq ?_
 rw[h2]
 refine tq ?_
 rw[h3]
 refine tq ?_
 rw[h4]
 exact tq rfl
theorem ev_achk(sd:List (List UInt8))(au:List (List UInt8))(en:List UInt8)(ac:Int)(re:Int)(rs:Int)(ck:Int)(od:Bool)(su:Int)(mc:Int)(ix:List (El FU))(l1:Int)(l2:Int)(l3:Int)(l4:Int)(l5:Int)(l6:Int)(ks:List (El IJ))(st:Bool)(sp:Bool)(rb:List (List (List UInt8)))(ru:Int)(vc:Int)(sf:Bool)(dr:Int)(ss:List (El Gi))(ob:List (El objT))(rl:List Int)(wl:List Int)(c h:Int)(hs:List Int)(nn v:List UInt8)(az:List (El MR))(qi:List Int)(qb:List (List UInt8))(hh:0<=h/\h<=2)(hl:ix.length<=10)(hx:∀ x∈ix,iU x)(ho:ob.length<=1000)(ha:au.length=4)(hv:BA au h=some v)(hc:c<23\/29<c)(hv1:v.length<=1000):Y E0 (.call 164 [.agg [.sl (.sl .u8) sd,.sl (.sl .u8) au,.sl .u8 en,.i ac,.i re,.i rs,.i ck,.b od,.sl (.sl (.sl .u8)) [],.i su,.i mc,.sl FU ix,.i l1,.i l2,.i l3,.i l4,.i l5,.i l6,.sl IJ ks,.b st,.b sp,.sl (.sl (.sl .u8)) rb,.i ru,.i vc,.b sf,.i dr,.sl Gi ss,.sl objT ob,.sl .i64 rl,.sl .i64 wl],.i 0,rq c (h::hs) ((0,nn,v)::az) qi qb] [])=some (.ret (.tup [.agg [.sl (.sl .u8) sd,.sl (.sl .u8) au,.sl .u8 en,.i ac,.i re,.i rs,.i ck,.b od,.sl (.sl (.sl .u8)) [],.i su,.i mc,.sl FU ix,.i l1,.i l2,.i l3,.i l4,.i l5,.i l6,.sl IJ ks,.b st,.b sp,.sl (.sl (.sl .u8)) rb,.i ru,.i vc,.b sf,.i dr,.sl Gi ss,.sl objT ob,.sl .i64 rl,.sl .i64 wl],.i 0]) []):=by
 have hk:=ev_kval sd au en ac re rs ck od su mc ix l1 l2 l3 l4 l5 l6 ks st sp rb ru vc sf dr ss ob rl wl c (h::hs) ((0,nn,v)::az) qi qb 0 nn v h hh hl hx ho ha hv hc hv1
 refine tq ?_
 rw[hk]
 exact tq rfl
end
section
attribute [local irreducible] BL BM BN BO BP BJ BQ CX Cm CY CW Ba Bc BF BC and' BG Bd Aa Ac Ad Ae Af AL AO AP AQ BR D8 BU D5 Be Bf Ag Ah Ai Aj AB AZ AU Ar BA BV BH BB Au Aw BI Bg BX fits BZ BK A7 A8 AC
theorem ev_kvl_l(sd:List (List UInt8))(au:List (List UInt8))(en:List UInt8)(ac:Int)(re:Int)(rs:Int)(ck:Int)(od:Bool)(su:Int)(mc:Int)(ix:List (El FU))(l1:Int)(l2:Int)(l3:Int)(l4:Int)(l5:Int)(l6:Int)(ks:List (El IJ))(st:Bool)(sp:Bool)(rb:List (List (List UInt8)))(ru:Int)(vc:Int)(sf:Bool)(dr:Int)(ss:List (El Gi))(ob:List (El objT))(rl:List Int)(wl:List Int)(c:Int)(az:List (El MR))(qi:List Int)(qb:List (List UInt8))(se:Int)(nn v:List UInt8)(h:Int)(kd u l cm dl:Int)(n d:List UInt8)(b:Bool)(w x:List UInt8)(hn:Y E0 (.call 181 [.agg [.sl (.sl .u8) sd,.sl (.sl .u8) au,.sl .u8 en,.i ac,.i re,.i rs,.i ck,.b od,.sl (.sl (.sl .u8)) [],.i su,.i mc,.sl FU ix,.i l1,.i l2,.i l3,.i l4,.i l5,.i l6,.sl IJ ks,.b st,.b sp,.sl (.sl (.sl .u8)) rb,.i ru,.i vc,.b sf,.i dr,.sl Gi ss,.sl objT ob,.sl .i64 rl,.sl .i64 wl],.i h] [])=some (.ret (.tup [.sl .u8 x,.i 0]) [])):
  Y E0 (.loop 194 0 0 4 [(2,.pa 0 0),(3,.pa 1 0),(4,.pa 2 0),(6,.sl .u8 w),(8,.nm 3),(44,.sl .i64 [h]),(45,.i 1),(46,.i 0)] [(0,some (.var [.sl (.sl .u8) sd,.sl (.sl .u8) au,.sl .u8 en,.i ac,.i re,.i rs,.i ck,.b od,.sl (.sl (.sl .u8)) [],.i su,.i mc,.sl FU ix,.i l1,.i l2,.i l3,.i l4,.i l5,.i l6,.sl IJ ks,.b st,.b sp,.sl (.sl (.sl .u8)) rb,.i ru,.i vc,.b sf,.i dr,.sl Gi ss,.sl objT ob,.sl .i64 rl,.sl .i64 wl,.i c,.sl .i64 [h],.sl MR az,.sl .i64 qi,.sl (.sl .u8) qb,.i se,.sl .u8 nn,.sl .u8 v,.i h])),(1,some (.var [.i kd,.sl .u8 n,.sl .u8 d,.i u,.i l,.i cm,.i dl,.b b])),(2,some (.var [.nil,.nil,.nil,.i 0,.i 0,.i 0,.i 0,.b false,.nil,.i 0,.i 0,.nil,.i 0,.i 0,.i 0,.i 0,.i 0,.i 0,.nil,.b false,.b false,.nil,.i 0,.i 0,.b false,.i 0,.nil,.nil,.nil,.nil])),(3,some (.row 22 (.sl .u8) []))])
   = some (.fin (.exit 1) 3 [(2,.pa 0 0),(3,.pa 1 0),(4,.pa 2 0),(6,.sl .u8 w),(8,.sl (.sl .u8) [x])] [(0,some (.var [.sl (.sl .u8) sd,.sl (.sl .u8) au,.sl .u8 en,.i ac,.i re,.i rs,.i ck,.b od,.sl (.sl (.sl .u8)) [],.i su,.i mc,.sl FU ix,.i l1,.i l2,.i l3,.i l4,.i l5,.i l6,.sl IJ ks,.b st,.b sp,.sl (.sl (.sl .u8)) rb,.i ru,.i vc,.b sf,.i dr,.sl Gi ss,.sl objT ob,.sl .i64 rl,.sl .i64 wl,.i c,.sl .i64 [h],.sl MR az,.sl .i64 qi,.sl (.sl .u8) qb,.i se,.sl .u8 nn,.sl .u8 v,.i h])),(1,some (.var [.i kd,.sl .u8 n,.sl .u8 d,.i u,.i l,.i cm,.i dl,.b b])),(2,some (.var [.nil,.nil,.nil,.i 0,.i 0,.i 0,.i 0,.b false,.nil,.i 0,.i 0,.nil,.i 0,.i 0,.i 0,.i 0,.i 0,.i 0,.nil,.b false,.b false,.nil,.i 0,.i 0,.b false,.i 0,.nil,.nil,.nil,.nil]))]):=by
 have hg:BA [h] 0=some h:=by rw[show(0:Int)=((0:Nat):Int) from rfl,lget_nat];rfl
 have e:Aw ([]:List (List UInt8)) [x]=[x]:=by rw[UH];rfl
 rw[JB];conv=>lhs;whnf
 rw[fH zf]
 conv=>lhs;whnf
 rw[hg]
 refine tq ?_
 rw[hn]
 refine tq ?_
 refine tq ?_
 simp only[NO];try with_reducible rfl
theorem ev_kvalH_t(sd:List (List UInt8))(au:List (List UInt8))(en:List UInt8)(ac:Int)(re:Int)(rs:Int)(ck:Int)(od:Bool)(su:Int)(mc:Int)(ix:List (El FU))(l1:Int)(l2:Int)(l3:Int)(l4:Int)(l5:Int)(l6:Int)(ks:List (El IJ))(st:Bool)(sp:Bool)(rb:List (List (List UInt8)))(ru:Int)(vc:Int)(sf:Bool)(dr:Int)(ss:List (El Gi))(ob:List (El objT))(rl:List Int)(wl:List Int)(c:Int)(az:List (El MR))(x:Int)(qi:List Int)(qb:List (List UInt8))(se:Int)(nn v:List UInt8)(h:Int)(kd u l cm dl:Int)(n d:List UInt8)(b:Bool)(w:List UInt8)(hvm:v=dR w (Bh 10 [cmdB c [hierB h] (x::qi) qb,n,nn]))(hvl:v.length<=1000)(hkd:kd≠0)(hh:0<=h/\h<=2)(hl:ix.length<=10)(hx:∀ x∈ix,iU x)(ho:ob.length<=1000)(ha:au.length=4)(hv:BA au h=some w)(hc:c<23\/29<c)(hwl:w.length<=1000)(hn:n.length<=1000)(hnn:nn.length<=1000)(hqi:(x::qi).length<=10)(hb:qb.length<=10)(hbm:∀ x∈qb,x.length<=2000):Y E0 (.call 194 [.agg [.sl (.sl .u8) sd,.sl (.sl .u8) au,.sl .u8 en,.i ac,.i re,.i rs,.i ck,.b od,.sl (.sl (.sl .u8)) [],.i su,.i mc,.sl FU ix,.i l1,.i l2,.i l3,.i l4,.i l5,.i l6,.sl IJ ks,.b st,.b sp,.sl (.sl (.sl .u8)) rb,.i ru,.i vc,.b sf,.i dr,.sl Gi ss,.sl objT ob,.sl .i64 rl,.sl .i64 wl,.i c,.sl .i64 [h],.sl MR az,.sl .i64 (x::qi),.sl (.sl .u8) qb,.i se,.sl .u8 nn,.sl .u8 v,.i h],nP kd n d u l cm dl b] [])=some (.ret (.tup [.agg [.sl (.sl .u8) sd,.sl (.sl .u8) au,.sl .u8 en,.i ac,.i re,.i rs,.i ck,.b od,.sl (.sl (.sl .u8)) [],.i su,.i mc,.sl FU ix,.i l1,.i l2,.i l3,.i l4,.i l5,.i l6,.sl IJ ks,.b st,.b sp,.sl (.sl (.sl .u8)) rb,.i ru,.i vc,.b sf,.i dr,.sl Gi ss,.sl objT ob,.sl .i64 rl,.sl .i64 wl],.i 0]) []):=by
 have h1:=ev_kforb sd au en ac re rs ck od su mc ix l1 l2 l3 l4 l5 l6 ks st sp rb ru vc sf dr ss ob rl wl c [h] az (x::qi) qb se nn v h zf hl hx ho hc
 have h2:=ev_klock sd au en ac re rs ck od su mc ix l1 l2 l3 l4 l5 l6 ks st sp rb ru vc sf dr ss ob rl wl c [h] az (x::qi) qb se nn v h hh w hl hx ho ha hv
 have h3:=ev_eval_h sd au en ac re rs ck od su mc ix l1 l2 l3 l4 l5 l6 ks st sp rb ru vc sf dr ss ob rl wl h w zf hl hx ho ha hv
 have h5:=ev_ename_h sd au en ac re rs ck od su mc ix l1 l2 l3 l4 l5 l6 ks st sp rb ru vc sf dr ss ob rl wl h w zf hl hx ho ha hv
 have hd:=ev_adig c [h] az x qi qb [hierB h] zB (fun y hy=>by rw[List.mem_singleton.1 hy];exact Nat.le_trans (hierB_ln h) zh) hqi hb hbm
 have l0:=ev_kvl_l sd au en ac re rs ck od su mc ix l1 l2 l3 l4 l5 l6 ks st sp rb ru vc sf dr ss ob rl wl c az (x::qi) qb se nn v h kd u l cm dl n d b w (hierB h) h5
 have e2:Ar [h]=1:=by rw[QP];rfl
 have hcl:=cmdB_len c [hierB h] (x::qi) qb
 have hm:=ev_amac w (cmdB c [hierB h] (x::qi) qb) n nn hwl zf hn hnn
 rw[<-hvm] at hm
 have hk:=ev_kcmp_t sd au en ac re rs ck od su mc ix l1 l2 l3 l4 l5 l6 ks st sp rb ru vc sf dr ss ob rl wl c [h] az (x::qi) qb se nn v h v zf
 refine tq ?_
 rw[h1]
 refine tq ?_
 rw[h2]
 refine tq ?_
 rw[h3]
 refine tq ?_
 simp only[e2,Nat.reduceAdd];rw[l0]
 refine tq ?_
 rw[hd]
 refine tq ?_
 rw[hm]
 refine tq ?_
 rw[hk]
 exact tq rfl
theorem ev_kvalH_f(sd:List (List UInt8))(au:List (List UInt8))(en:List UInt8)(ac:Int)(re:Int)(rs:Int)(ck:Int)(od:Bool)(su:Int)(mc:Int)(ix:List (El FU))(l1:Int)(l2:Int)(l3:Int)(l4:Int)(l5:Int)(l6:Int)(ks:List (El IJ))(st:Bool)(sp:Bool)(rb:List (List (List UInt8)))(ru:Int)(vc:Int)(sf:Bool)(dr:Int)(ss:List (El Gi))(ob:List (El objT))(rl:List Int)(wl:List Int)(c:Int)(az:List (El MR))(x:Int)(qi:List Int)(qb:List (List UInt8))(se:Int)(nn v:List UInt8)(h:Int)(kd u l cm dl:Int)(n d:List UInt8)(b:Bool)(w:List UInt8)(hvm:v≠dR w (Bh 10 [cmdB c [hierB h] (x::qi) qb,n,nn]))(hvl:v.length<=1000)(hkd:kd≠0)(hh:0<=h/\h<=2)(hl:ix.length<=10)(hx:∀ x∈ix,iU x)(ho:ob.length<=1000)(ha:au.length=4)(hv:BA au h=some w)(hc:c<23\/29<c)(hwl:w.length<=1000)(hn:n.length<=1000)(hnn:nn.length<=1000)(hqi:(x::qi).length<=10)(hb:qb.length<=10)(hbm:∀ x∈qb,x.length<=2000):Y E0 (.call 194 [.agg [.sl (.sl .u8) sd,.sl (.sl .u8) au,.sl .u8 en,.i ac,.i re,.i rs,.i ck,.b od,.sl (.sl (.sl .u8)) [],.i su,.i mc,.sl FU ix,.i l1,.i l2,.i l3,.i l4,.i l5,.i l6,.sl IJ ks,.b st,.b sp,.sl (.sl (.sl .u8)) rb,.i ru,.i vc,.b sf,.i dr,.sl Gi ss,.sl objT ob,.sl .i64 rl,.sl .i64 wl,.i c,.sl .i64 [h],.sl MR az,.sl .i64 (x::qi),.sl (.sl .u8) qb,.i se,.sl .u8 nn,.sl .u8 v,.i h],nP kd n d u l cm dl b] [])=some (.ret (.tup [.agg [.sl (.sl .u8) sd,.sl (.sl .u8) au,.sl .u8 en,.i ac,.i re,.i rs,.i ck,.b od,.sl (.sl (.sl .u8)) [],.i su,.i mc,.sl FU ix,.i l1,.i l2,.i l3,.i l4,.i l5,.i l6,.sl IJ ks,.b st,.b sp,.sl (.sl (.sl .u8)) rb,.i ru,.i vc,.b sf,.i dr,.sl Gi ss,.sl objT ob,.sl .i64 rl,.sl .i64 wl],.i 9]) []):=by
 have h1:=ev_kforb sd au en ac re rs ck od su mc ix l1 l2 l3 l4 l5 l6 ks st sp rb ru vc sf dr ss ob rl wl c [h] az (x::qi) qb se nn v h zf hl hx ho hc
 have h2:=ev_klock sd au en ac re rs ck od su mc ix l1 l2 l3 l4 l5 l6 ks st sp rb ru vc sf dr ss ob rl wl c [h] az (x::qi) qb se nn v h hh w hl hx ho ha hv
 have h3:=ev_eval_h sd au en ac re rs ck od su mc ix l1 l2 l3 l4 l5 l6 ks st sp rb ru vc sf dr ss ob rl wl h w zf hl hx ho ha hv
 have h5:=ev_ename_h sd au en ac re rs ck od su mc ix l1 l2 l3 l4 l5 l6 ks st sp rb ru vc sf dr ss ob rl wl h w zf hl hx ho ha hv
 have hd:=ev_adig c [h] az x qi qb [hierB h] zB (fun y hy=>by rw[List.mem_singleton.1 hy];exact Nat.le_trans (hierB_ln h) zh) hqi hb hbm
 have l0:=ev_kvl_l sd au en ac re rs ck od su mc ix l1 l2 l3 l4 l5 l6 ks st sp rb ru vc sf dr ss ob rl wl c az (x::qi) qb se nn v h kd u l cm dl n d b w (hierB h) h5
 have e2:Ar [h]=1:=by rw[QP];rfl
 have hcl:=cmdB_len c [hierB h] (x::qi) qb
 have hm:=ev_amac w (cmdB c [hierB h] (x::qi) qb) n nn hwl zf hn hnn
 have hk:=ev_kcmp_f sd au en ac re rs ck od su mc ix l1 l2 l3 l4 l5 l6 ks st sp rb ru vc sf dr ss ob rl wl c [h] az (x::qi) qb se nn v h v _ w zf hvm hh hl hx ho ha hv
 refine tq ?_
 rw[h1]
 refine tq ?_
 rw[h2]
 refine tq ?_
 rw[h3]
 refine tq ?_
 simp only[e2,Nat.reduceAdd];rw[l0]
 refine tq ?_
 rw[hd]
 refine tq ?_
 rw[hm]
 refine tq ?_
 rw[hk]
 exact tq rfl
end
end Go.Proofs.YtanagnimhaemgaaGreatDoor
