/-
  Own texts, laid together for this claim: contracts of functions of the program and its references, used by the statements of this seat.
-/
import Derived.Test.YtanagnimhaemgaaGreatDoorQtac
import Derived.Test.YtanagnimhaemgaaGreatDoorQtae
import Derived.Test.YtanagnimhaemgaaGreatDoorQtaf
import Derived.Test.YtanagnimhaemgaaGreatDoorQtag
import Derived.Test.YtanagnimhaemgaaGreatDoorQtai
import Derived.Test.YtanagnimhaemgaaGreatDoorQtak
import Derived.Test.YtanagnimhaemgaaGreatDoorQtay
import Derived.Test.YtanagnimhaemgaaGreatDoorQtba
import Derived.Test.YtanagnimhaemgaaGreatDoorQtbb
import Derived.Test.YtanagnimhaemgaaGreatDoorQtbc
set_option linter.all false
set_option maxHeartbeats 40000000
set_option maxRecDepth 100000
namespace Go.Proofs.YtanagnimhaemgaaGreatDoor
open Go Go.Ax Go.Eng
variable (ar ar':List (List UInt8))(wr to nx wr':Int)(sd0:List (List UInt8))(nx':Int)(au0:List (List UInt8))(en0:List UInt8)(ac0 re0 rs0 ck0:Int)(od0:Bool)(loc:Int)(sb0:List (List (List UInt8)))(su0 mc0:Int)(ix0:List (El AL))(l10 l20 l30 l40 l50 l60:Int)(ks0:List (El BR))(st0 sp0:Bool)(rb0:List (List (List UInt8)))(ru0:Int)(sd:List (List UInt8))(vc0:Int)(au:List (List UInt8))(sf0:Bool)(dr0:Int)(ss0:List (El sesT))(ob0:List (El objT))(rl0 wl0:List Int)
section
attribute [local irreducible] Bl CQ CS Bo Bg Ar CU Dw EN Dy EC Bf BU Bv Bz and' C9 CB BK Au BA BL BN Aa Ad AP AZ CV Dq CW DI CE BP BM BF BG BB AU BC Ae Ap Ai CX BH Bh Ba BO CG CY CJ fits CZ CO A8 AA Ac
attribute [local irreducible] Aw Di encS
structure rqG (c nb:Int) (hs:List Int) (az:List (El AQ)) (is:List Int) (bs:List (List UInt8)):Prop where
 sh:Y E0 (.call 158 [.i c] [])=some (.ret (.tup [.i (hs.length:Int),.i (az.length:Int),.i (is.length:Int),.i nb,.b true]) [])
 ct:Y E0 (.call 159 [.i (bs.length:Int),.i nb] [])=some (.ret (.b true) [])
 rs:Y E0 (.call 125 [.i c] [])=some (.ret (.tup [.agg [.i (hs.length:Int),.i (az.length:Int),.i (is.length:Int),.i nb],.b true]) [])
 rc:Y E0 (.call 126 [.i nb,.i (bs.length:Int)] [])=some (.ret (.b true) [])
 cb:0<=c/\c<=255
 hl:hs.length<=10
 al:az.length<=10
 il:is.length<=10
 bl:bs.length<=10
 hm:∀ x∈hs,0<=x/\x<=65535
 am:∀ x∈az,((0:Int)<=x.1/\(x.1:Int)<=65535)/\x.2.1.length<=128/\x.2.2.length<=128
 im:∀ x∈is,0<=x/\x<=1099511627776
 bm:∀ x∈bs,x.length<=1024
 ln:(Hm c hs az is bs).length<=2048
structure rpG (e:Int) (is:List Int) (bs ns:List (List UInt8)):Prop where
 er:e=0\/(0<e/\e<=255)/\is=[]/\bs=[]/\ns=[]
 il:is.length<=10
 bl:bs.length<=10
 nl:ns.length<=10
 im:∀ x∈is,0<=x/\x<9223372036854775808
 bm:∀ x∈bs,x.length<=1024
 nm:∀ x∈ns,x.length<=1024
theorem Qq(sd:List (List UInt8))(au:List (List UInt8))(en:List UInt8)(ac:Int)(re:Int)(rs:Int)(ck:Int)(od:Bool)(sb:List (List (List UInt8)))(su:Int)(mc:Int)(ix:List (El AL))(l1:Int)(l2:Int)(l3:Int)(l4:Int)(l5:Int)(l6:Int)(ks:List (El BR))(st:Bool)(sp:Bool)(rb:List (List (List UInt8)))(ru:Int)(vc:Int)(sf:Bool)(dr:Int)(ss:List (El sesT))(ob:List (El objT))(rl:List Int)(wl:List Int)(p0:List UInt8)(e0:Y E0 (.call 78 [.agg (Rt sd0 au0 en0 ac0 re0 rs0 ck0 od0 sb0 su0 mc0 ix0 l10 l20 l30 l40 l50 l60 ks0)] [])=some (.ret (.sl .u8 p0) []))(e1:Y E0 (.call 78 [.agg (Rt sd au en ac re rs ck od sb su mc ix l1 l2 l3 l4 l5 l6 ks)] [])=some (.ret (.sl .u8 p0) [])):Y E0 (.call 82 [GR ar wr 0 to false sd0 au0 en0 ac0 re0 rs0 ck0 od0 sb0 su0 mc0 ix0 l10 l20 l30 l40 l50 l60 ks0 st0 sp0 rb0 ru0 vc0 sf0 dr0 ss0 ob0 rl0 wl0 true nx,.agg [.sl (.sl .u8) sd,.sl (.sl .u8) au,.sl .u8 en,.i ac,.i re,.i rs,.i ck,.b od,.sl (.sl (.sl .u8)) sb,.i su,.i mc,.sl AL ix,.i l1,.i l2,.i l3,.i l4,.i l5,.i l6,.sl BR ks,.b st,.b sp,.sl (.sl (.sl .u8)) rb,.i ru,.i vc,.b sf,.i dr,.sl sesT ss,.sl objT ob,.sl .i64 rl,.sl .i64 wl]] [])=some (.ret (.tup [GR ar wr 0 to false sd au en ac re rs ck od sb su mc ix l1 l2 l3 l4 l5 l6 ks st sp rb ru vc sf dr ss ob rl wl true nx,.i 0]) []):=by
 refine tq ?_
 rw[e1]
 refine tq ?_
 rw[e0]
 exact tq rfl
theorem Yo(sd:List (List UInt8))(au:List (List UInt8))(en:List UInt8)(ac:Int)(re:Int)(rs:Int)(ck:Int)(od:Bool)(sb:List (List (List UInt8)))(su:Int)(mc:Int)(ix:List (El AL))(l1:Int)(l2:Int)(l3:Int)(l4:Int)(l5:Int)(l6:Int)(ks:List (El BR))(st:Bool)(sp:Bool)(rb:List (List (List UInt8)))(ru:Int)(vc:Int)(sf:Bool)(dr:Int)(ss:List (El sesT))(ob:List (El objT))(rl:List Int)(wl:List Int)(p0 p1:List UInt8)(e0:Y E0 (.call 78 [.agg (Rt sd0 au0 en0 ac0 re0 rs0 ck0 od0 sb0 su0 mc0 ix0 l10 l20 l30 l40 l50 l60 ks0)] [])=some (.ret (.sl .u8 p0) []))(e1:Y E0 (.call 78 [.agg (Rt sd au en ac re rs ck od sb su mc ix l1 l2 l3 l4 l5 l6 ks)] [])=some (.ret (.sl .u8 p1) []))(he:p1≠p0)(l0:p0.length<=50000)(l1':p1.length<=50000)(hl:2<=ar.length/\ar.length<=1000)(hw:0<=wr/\wr<=900000)(hn:1<=nx/\nx<=900000):Y E0 (.call 82 [GR ar wr 0 to false sd0 au0 en0 ac0 re0 rs0 ck0 od0 sb0 su0 mc0 ix0 l10 l20 l30 l40 l50 l60 ks0 st0 sp0 rb0 ru0 vc0 sf0 dr0 ss0 ob0 rl0 wl0 true nx,.agg [.sl (.sl .u8) sd,.sl (.sl .u8) au,.sl .u8 en,.i ac,.i re,.i rs,.i ck,.b od,.sl (.sl (.sl .u8)) sb,.i su,.i mc,.sl AL ix,.i l1,.i l2,.i l3,.i l4,.i l5,.i l6,.sl BR ks,.b st,.b sp,.sl (.sl (.sl .u8)) rb,.i ru,.i vc,.b sf,.i dr,.sl sesT ss,.sl objT ob,.sl .i64 rl,.sl .i64 wl]] [])=some (.ret (.tup [GR (BH ar (nx%2) (Rh nx p1)) (wr+1) 0 to false sd au en ac re rs ck od sb su mc ix l1 l2 l3 l4 l5 l6 ks st sp rb ru vc sf dr ss ob rl wl true (nx+1),.i 0]) []):=by
 have ec:=YQ ar wr to nx p1 hl.2 hl.1 zaa zaa zaa
 refine tq ?_
 rw[e1]
 refine tq ?_
 rw[e0]
 refine tq ?_
 rw[ec]
 exact tq rfl
theorem tN(sd:List (List UInt8))(au:List (List UInt8))(en:List UInt8)(ac:Int)(re:Int)(rs:Int)(ck:Int)(od:Bool)(sb:List (List (List UInt8)))(su:Int)(mc:Int)(ix:List (El AL))(l1:Int)(l2:Int)(l3:Int)(l4:Int)(l5:Int)(l6:Int)(ks:List (El BR))(st:Bool)(sp:Bool)(rb:List (List (List UInt8)))(ru:Int)(vc:Int)(sf:Bool)(dr:Int)(ss:List (El sesT))(ob:List (El objT))(rl:List Int)(wl:List Int)(p0 p1:List UInt8)(e0:Y E0 (.call 78 [.agg (Rt sd0 au0 en0 ac0 re0 rs0 ck0 od0 sb0 su0 mc0 ix0 l10 l20 l30 l40 l50 l60 ks0)] [])=some (.ret (.sl .u8 p0) []))(e1:Y E0 (.call 78 [.agg (Rt sd au en ac re rs ck od sb su mc ix l1 l2 l3 l4 l5 l6 ks)] [])=some (.ret (.sl .u8 p1) []))(l0:p0.length<=50000)(l1':p1.length<=50000)(har:OV ar (nx-1) p0)(hw:0<=wr/\wr<=nx)(hn:nx<=800000):∃ ar' wr' nx',OV ar' (nx'-1) p1/\0<=wr'/\wr'<=nx'/\nx'<=nx+1/\(p1=p0->nx'=nx) /\
  Y E0 (.call 82 [GR ar wr 0 to false sd0 au0 en0 ac0 re0 rs0 ck0 od0 sb0 su0 mc0 ix0 l10 l20 l30 l40 l50 l60 ks0 st0 sp0 rb0 ru0 vc0 sf0 dr0 ss0 ob0 rl0 wl0 true nx,.agg [.sl (.sl .u8) sd,.sl (.sl .u8) au,.sl .u8 en,.i ac,.i re,.i rs,.i ck,.b od,.sl (.sl (.sl .u8)) sb,.i su,.i mc,.sl AL ix,.i l1,.i l2,.i l3,.i l4,.i l5,.i l6,.sl BR ks,.b st,.b sp,.sl (.sl (.sl .u8)) rb,.i ru,.i vc,.b sf,.i dr,.sl sesT ss,.sl objT ob,.sl .i64 rl,.sl .i64 wl]] [])=some (.ret (.tup [GR ar' wr' 0 to false sd au en ac re rs ck od sb su mc ix l1 l2 l3 l4 l5 l6 ks st sp rb ru vc sf dr ss ob rl wl true nx',.i 0]) []):=by
 have hq:1<=nx-1:=har.2.1
 by_cases he:p1=p0
 ·subst he
  exact⟨ar,wr,nx,har,hw.1,hw.2,by omega,fun _=>rfl,Qq ar wr to nx sd0 au0 en0 ac0 re0 rs0 ck0 od0 sb0 su0 mc0 ix0 l10 l20 l30 l40 l50 l60 ks0 st0 sp0 rb0 ru0 vc0 sf0 dr0 ss0 ob0 rl0 wl0 sd au en ac re rs ck od sb su mc ix l1 l2 l3 l4 l5 l6 ks st sp rb ru vc sf dr ss ob rl wl p1 e0 e1⟩
 ·refine⟨_,wr+1,nx+1,?_,by omega,by omega,by omega,fun h=>absurd h he,Yo ar wr to nx sd0 au0 en0 ac0 re0 rs0 ck0 od0 sb0 su0 mc0 ix0 l10 l20 l30 l40 l50 l60 ks0 st0 sp0 rb0 ru0 vc0 sf0 dr0 ss0 ob0 rl0 wl0 sd au en ac re rs ck od sb su mc ix l1 l2 l3 l4 l5 l6 ks st sp rb ru vc sf dr ss ob rl wl p0 p1 e0 e1 he l0 l1' ⟨by rw[har.1];decide,by rw[har.1];decide⟩ zaa zaa⟩
  have h:=zl (p':=p1) har zaa (Nat.le_trans l1' zad)
  rw[show nx-1+1=nx from by omega] at h
  rw[show nx+1-1=nx from by omega]
  exact h
theorem xI(sd:List (List UInt8))(au:List (List UInt8))(en:List UInt8)(ac:Int)(re:Int)(rs:Int)(ck:Int)(od:Bool)(sb:List (List (List UInt8)))(su:Int)(mc:Int)(ix:List (El AL))(l1:Int)(l2:Int)(l3:Int)(l4:Int)(l5:Int)(l6:Int)(ks:List (El BR))(st:Bool)(sp:Bool)(rb:List (List (List UInt8)))(ru:Int)(vc:Int)(sf:Bool)(dr:Int)(ss:List (El sesT))(ob:List (El objT))(rl:List Int)(wl:List Int)(loc c:Int)(hs:List Int)(az:List (El AQ))(qi:List Int)(qb:List (List UInt8))(e:Int)(b:List UInt8)(is:List Int)(bs ns:List (List UInt8))(hd:Y E0 (.call 129 [.sl .u8 b] [])=some (.ret (.tup [rq c hs az qi qb,.i 0]) []))(hx:Y E0 (.call 131 [.agg [.sl (.sl .u8) sd0,.sl (.sl .u8) au0,.sl .u8 en0,.i ac0,.i re0,.i rs0,.i ck0,.b od0,.sl (.sl (.sl .u8)) sb0,.i su0,.i mc0,.sl AL ix0,.i l10,.i l20,.i l30,.i l40,.i l50,.i l60,.sl BR ks0,.b st0,.b sp0,.sl (.sl (.sl .u8)) rb0,.i ru0,.i vc0,.b sf0,.i dr0,.sl sesT ss0,.sl objT ob0,.sl .i64 rl0,.sl .i64 wl0],.i loc,rq c hs az qi qb] [])=some (.ret (.tup [.agg [.sl (.sl .u8) sd,.sl (.sl .u8) au,.sl .u8 en,.i ac,.i re,.i rs,.i ck,.b od,.sl (.sl (.sl .u8)) sb,.i su,.i mc,.sl AL ix,.i l1,.i l2,.i l3,.i l4,.i l5,.i l6,.sl BR ks,.b st,.b sp,.sl (.sl (.sl .u8)) rb,.i ru,.i vc,.b sf,.i dr,.sl sesT ss,.sl objT ob,.sl .i64 rl,.sl .i64 wl],JC e is bs ns]) []))(hr:Y E0 (.call 130 [JC e is bs ns] [])=some (.ret (.sl .u8 (JU e is bs ns)) [])):Y E0 (.call 81 [.agg [.sl (.sl .u8) sd0,.sl (.sl .u8) au0,.sl .u8 en0,.i ac0,.i re0,.i rs0,.i ck0,.b od0,.sl (.sl (.sl .u8)) sb0,.i su0,.i mc0,.sl AL ix0,.i l10,.i l20,.i l30,.i l40,.i l50,.i l60,.sl BR ks0,.b st0,.b sp0,.sl (.sl (.sl .u8)) rb0,.i ru0,.i vc0,.b sf0,.i dr0,.sl sesT ss0,.sl objT ob0,.sl .i64 rl0,.sl .i64 wl0],.i loc,.sl .u8 b] [])=some (.ret (.tup [.agg [.sl (.sl .u8) sd,.sl (.sl .u8) au,.sl .u8 en,.i ac,.i re,.i rs,.i ck,.b od,.sl (.sl (.sl .u8)) sb,.i su,.i mc,.sl AL ix,.i l1,.i l2,.i l3,.i l4,.i l5,.i l6,.sl BR ks,.b st,.b sp,.sl (.sl (.sl .u8)) rb,.i ru,.i vc,.b sf,.i dr,.sl sesT ss,.sl objT ob,.sl .i64 rl,.sl .i64 wl],.sl .u8 (JU e is bs ns)]) []):=by
 refine tq ?_
 rw[hd]
 refine tq ?_
 rw[hx]
 refine tq ?_
 rw[hr]
 exact tq rfl
theorem nV(sd0:List (List UInt8))(au0:List (List UInt8))(en0:List UInt8)(ac0:Int)(re0:Int)(rs0:Int)(ck0:Int)(od0:Bool)(sb0:List (List (List UInt8)))(su0:Int)(mc0:Int)(ix0:List (El AL))(l10:Int)(l20:Int)(l30:Int)(l40:Int)(l50:Int)(l60:Int)(ks0:List (El BR))(st0:Bool)(sp0:Bool)(rb0:List (List (List UInt8)))(ru0:Int)(vc0:Int)(sf0:Bool)(dr0:Int)(ss0:List (El sesT))(ob0:List (El objT))(rl0:List Int)(wl0:List Int)(sd:List (List UInt8))(au:List (List UInt8))(en:List UInt8)(ac:Int)(re:Int)(rs:Int)(ck:Int)(od:Bool)(sb:List (List (List UInt8)))(su:Int)(mc:Int)(ix:List (El AL))(l1:Int)(l2:Int)(l3:Int)(l4:Int)(l5:Int)(l6:Int)(ks:List (El BR))(st:Bool)(sp:Bool)(rb:List (List (List UInt8)))(ru:Int)(vc:Int)(sf:Bool)(dr:Int)(ss:List (El sesT))(ob:List (El objT))(rl:List Int)(wl:List Int)(b r:List UInt8)(hrun:Y E0 (.call 81 [.agg [.sl (.sl .u8) sd0,.sl (.sl .u8) au0,.sl .u8 en0,.i ac0,.i re0,.i rs0,.i ck0,.b od0,.sl (.sl (.sl .u8)) sb0,.i su0,.i mc0,.sl AL ix0,.i l10,.i l20,.i l30,.i l40,.i l50,.i l60,.sl BR ks0,.b st0,.b sp0,.sl (.sl (.sl .u8)) rb0,.i ru0,.i vc0,.b sf0,.i dr0,.sl sesT ss0,.sl objT ob0,.sl .i64 rl0,.sl .i64 wl0],.i loc,.sl .u8 b] [])=some (.ret (.tup [.agg [.sl (.sl .u8) sd,.sl (.sl .u8) au,.sl .u8 en,.i ac,.i re,.i rs,.i ck,.b od,.sl (.sl (.sl .u8)) sb,.i su,.i mc,.sl AL ix,.i l1,.i l2,.i l3,.i l4,.i l5,.i l6,.sl BR ks,.b st,.b sp,.sl (.sl (.sl .u8)) rb,.i ru,.i vc,.b sf,.i dr,.sl sesT ss,.sl objT ob,.sl .i64 rl,.sl .i64 wl],.sl .u8 r]) []))(hc:Y E0 (.call 82 [GR ar wr 0 to false sd0 au0 en0 ac0 re0 rs0 ck0 od0 sb0 su0 mc0 ix0 l10 l20 l30 l40 l50 l60 ks0 st0 sp0 rb0 ru0 vc0 sf0 dr0 ss0 ob0 rl0 wl0 true nx,.agg [.sl (.sl .u8) sd,.sl (.sl .u8) au,.sl .u8 en,.i ac,.i re,.i rs,.i ck,.b od,.sl (.sl (.sl .u8)) sb,.i su,.i mc,.sl AL ix,.i l1,.i l2,.i l3,.i l4,.i l5,.i l6,.sl BR ks,.b st,.b sp,.sl (.sl (.sl .u8)) rb,.i ru,.i vc,.b sf,.i dr,.sl sesT ss,.sl objT ob,.sl .i64 rl,.sl .i64 wl]] [])=some (.ret (.tup [GR ar' wr' 0 to false sd au en ac re rs ck od sb su mc ix l1 l2 l3 l4 l5 l6 ks st sp rb ru vc sf dr ss ob rl wl true nx',.i 0]) [])):Y E0 (.call 39 [GR ar wr 0 to false sd0 au0 en0 ac0 re0 rs0 ck0 od0 sb0 su0 mc0 ix0 l10 l20 l30 l40 l50 l60 ks0 st0 sp0 rb0 ru0 vc0 sf0 dr0 ss0 ob0 rl0 wl0 true nx,.i loc,.sl .u8 b] [])=some (.ret (.tup [GR ar' wr' 0 to false sd au en ac re rs ck od sb su mc ix l1 l2 l3 l4 l5 l6 ks st sp rb ru vc sf dr ss ob rl wl true nx',.sl .u8 r,.i 0]) []):=by
 refine tq ?_
 rw[Rj ..]
 refine tq ?_
 rw[hrun]
 refine tq ?_
 rw[hc]
 exact tq rfl
theorem xJ(sd0:List (List UInt8))(au0:List (List UInt8))(en0:List UInt8)(ac0:Int)(re0:Int)(rs0:Int)(ck0:Int)(od0:Bool)(sb0:List (List (List UInt8)))(su0:Int)(mc0:Int)(ix0:List (El AL))(l10:Int)(l20:Int)(l30:Int)(l40:Int)(l50:Int)(l60:Int)(ks0:List (El BR))(st0:Bool)(sp0:Bool)(rb0:List (List (List UInt8)))(ru0:Int)(vc0:Int)(sf0:Bool)(dr0:Int)(ss0:List (El sesT))(ob0:List (El objT))(rl0:List Int)(wl0:List Int)(sd:List (List UInt8))(au:List (List UInt8))(en:List UInt8)(ac:Int)(re:Int)(rs:Int)(ck:Int)(od:Bool)(sb:List (List (List UInt8)))(su:Int)(mc:Int)(ix:List (El AL))(l1:Int)(l2:Int)(l3:Int)(l4:Int)(l5:Int)(l6:Int)(ks:List (El BR))(st:Bool)(sp:Bool)(rb:List (List (List UInt8)))(ru:Int)(vc:Int)(sf:Bool)(dr:Int)(ss:List (El sesT))(ob:List (El objT))(rl:List Int)(wl:List Int)(c:Int)(hs:List Int)(az:List (El AQ))(qi:List Int)(qb:List (List UInt8))(b r:List UInt8)(e:Int)(is:List Int)(bs ns:List (List UInt8))(he:Y E0 (.call 38 [rq c hs az qi qb] [])=some (.ret (.tup [.sl .u8 b,.i 0]) []))(hsn:Y E0 (.call 39 [GR ar wr 0 to false sd0 au0 en0 ac0 re0 rs0 ck0 od0 sb0 su0 mc0 ix0 l10 l20 l30 l40 l50 l60 ks0 st0 sp0 rb0 ru0 vc0 sf0 dr0 ss0 ob0 rl0 wl0 true nx,.i loc,.sl .u8 b] [])=some (.ret (.tup [GR ar' wr' 0 to false sd au en ac re rs ck od sb su mc ix l1 l2 l3 l4 l5 l6 ks st sp rb ru vc sf dr ss ob rl wl true nx',.sl .u8 r,.i 0]) []))(hd:Y E0 (.call 40 [.sl .u8 r] [])=some (.ret (.tup [JC e is bs ns,.i 0]) [])):
  Y E0 (.call 13 [GR ar wr 0 to false sd0 au0 en0 ac0 re0 rs0 ck0 od0 sb0 su0 mc0 ix0 l10 l20 l30 l40 l50 l60 ks0 st0 sp0 rb0 ru0 vc0 sf0 dr0 ss0 ob0 rl0 wl0 true nx,.i loc,rq c hs az qi qb] [])=some (.ret (.tup [GR ar' wr' 0 to false sd au en ac re rs ck od sb su mc ix l1 l2 l3 l4 l5 l6 ks st sp rb ru vc sf dr ss ob rl wl true nx',JC e is bs ns,.b true]) []):=by
 refine tq ?_
 rw[he]
 refine tq ?_
 rw[hsn]
 refine tq ?_
 rw[hd]
 conv=>lhs;whnf
 try dsimp -iota -beta -eta -zeta only
 rw[Ff zaa]
 conv=>lhs;whnf
 try dsimp -iota -beta -eta -zeta only
 rw[drw zaj];conv=>lhs;whnf
 try dsimp -iota -beta -eta -zeta only
 (congr 3;simp only[J3,Jo,Jd,Jp,DF,IB,AC];first|rfl|(rw[decide_eq_decide];omega)|(simp;omega))
theorem xK{e:Int}{is:List Int}{bs ns:List (List UInt8)}(hp:rpG e is bs ns):Y E0 (.call 130 [JC e is bs ns] [])=some (.ret (.sl .u8 (JU e is bs ns)) [])/\Y E0 (.call 40 [.sl .u8 (JU e is bs ns)] [])=some (.ret (.tup [JC e is bs ns,.i 0]) []):=by
 constructor
 ·rcases hp.er with rfl|⟨h,rfl,rfl,rfl⟩
  ·exact A8r is bs ns hp.il hp.bl hp.nl hp.bm hp.nm
  ·exact A46 e [] [] [] zaa
 ·rcases hp.er with rfl|⟨h,rfl,rfl,rfl⟩
  ·exact AAF is bs ns hp.il hp.bl hp.nl hp.im hp.bm hp.nm
  ·exact A8t e [] [] [] h
theorem A49(sd0:List (List UInt8))(au0:List (List UInt8))(en0:List UInt8)(ac0:Int)(re0:Int)(rs0:Int)(ck0:Int)(od0:Bool)(sb0:List (List (List UInt8)))(su0:Int)(mc0:Int)(ix0:List (El AL))(l10:Int)(l20:Int)(l30:Int)(l40:Int)(l50:Int)(l60:Int)(ks0:List (El BR))(st0:Bool)(sp0:Bool)(rb0:List (List (List UInt8)))(ru0:Int)(vc0:Int)(sf0:Bool)(dr0:Int)(ss0:List (El sesT))(ob0:List (El objT))(rl0:List Int)(wl0:List Int)(sd:List (List UInt8))(au:List (List UInt8))(en:List UInt8)(ac:Int)(re:Int)(rs:Int)(ck:Int)(od:Bool)(sb:List (List (List UInt8)))(su:Int)(mc:Int)(ix:List (El AL))(l1:Int)(l2:Int)(l3:Int)(l4:Int)(l5:Int)(l6:Int)(ks:List (El BR))(st:Bool)(sp:Bool)(rb:List (List (List UInt8)))(ru:Int)(vc:Int)(sf:Bool)(dr:Int)(ss:List (El sesT))(ob:List (El objT))(rl:List Int)(wl:List Int)(p0 p1:List UInt8)(e0:Y E0 (.call 78 [.agg (Rt sd0 au0 en0 ac0 re0 rs0 ck0 od0 sb0 su0 mc0 ix0 l10 l20 l30 l40 l50 l60 ks0)] [])=some (.ret (.sl .u8 p0) []))(e1:Y E0 (.call 78 [.agg (Rt sd au en ac re rs ck od sb su mc ix l1 l2 l3 l4 l5 l6 ks)] [])=some (.ret (.sl .u8 p1) []))(l0:p0.length<=50000)(l1':p1.length<=50000)(c nb:Int)(hs:List Int)(az:List (El AQ))(qi:List Int)(qb:List (List UInt8))(e:Int)(is:List Int)(bs ns:List (List UInt8))(hq:rqG c nb hs az qi qb)(hp:rpG e is bs ns)(har:OV ar (nx-1) p0)(hw:0<=wr/\wr<=nx)(hn:nx<=800000)(hx:Y E0 (.call 131 [.agg [.sl (.sl .u8) sd0,.sl (.sl .u8) au0,.sl .u8 en0,.i ac0,.i re0,.i rs0,.i ck0,.b od0,.sl (.sl (.sl .u8)) sb0,.i su0,.i mc0,.sl AL ix0,.i l10,.i l20,.i l30,.i l40,.i l50,.i l60,.sl BR ks0,.b st0,.b sp0,.sl (.sl (.sl .u8)) rb0,.i ru0,.i vc0,.b sf0,.i dr0,.sl sesT ss0,.sl objT ob0,.sl .i64 rl0,.sl .i64 wl0],.i loc,rq c hs az qi qb] [])=some (.ret (.tup [.agg [.sl (.sl .u8) sd,.sl (.sl .u8) au,.sl .u8 en,.i ac,.i re,.i rs,.i ck,.b od,.sl (.sl (.sl .u8)) sb,.i su,.i mc,.sl AL ix,.i l1,.i l2,.i l3,.i l4,.i l5,.i l6,.sl BR ks,.b st,.b sp,.sl (.sl (.sl .u8)) rb,.i ru,.i vc,.b sf,.i dr,.sl sesT ss,.sl objT ob,.sl .i64 rl,.sl .i64 wl],JC e is bs ns]) [])):
  ∃ ar' wr' nx',OV ar' (nx'-1) p1/\0<=wr'/\wr'<=nx'/\nx'<=nx+1/\(p1=p0->nx'=nx)/\Y E0 (.call 13 [GR ar wr 0 to false sd0 au0 en0 ac0 re0 rs0 ck0 od0 sb0 su0 mc0 ix0 l10 l20 l30 l40 l50 l60 ks0 st0 sp0 rb0 ru0 vc0 sf0 dr0 ss0 ob0 rl0 wl0 true nx,.i loc,rq c hs az qi qb] [])=some (.ret (.tup [GR ar' wr' 0 to false sd au en ac re rs ck od sb su mc ix l1 l2 l3 l4 l5 l6 ks st sp rb ru vc sf dr ss ob rl wl true nx',JC e is bs ns,.b true]) []):=by
 obtain⟨ar',wr',nx',k1,k2,k3,k4,k5,hc⟩:=tN ar wr to nx sd0 au0 en0 ac0 re0 rs0 ck0 od0 sb0 su0 mc0 ix0 l10 l20 l30 l40 l50 l60 ks0 st0 sp0 rb0 ru0 vc0 sf0 dr0 ss0 ob0 rl0 wl0 sd au en ac re rs ck od sb su mc ix l1 l2 l3 l4 l5 l6 ks st sp rb ru vc sf dr ss ob rl wl p0 p1 e0 e1 l0 l1' har hw hn
 refine⟨ar',wr',nx',k1,k2,k3,k4,k5,?_⟩
 have hen:=xH c nb hs az qi qb hq.rs hq.rc hq.hl hq.al hq.il hq.bl hq.hm hq.am hq.im hq.bm hq.ln
 have hd:=mr c nb hs az qi qb hq.cb hq.sh hq.ct hq.hl hq.al hq.il hq.bl hq.hm hq.am hq.im hq.bm hq.ln
 have hr:=xK hp
 have hrun:=xI sd0 au0 en0 ac0 re0 rs0 ck0 od0 sb0 su0 mc0 ix0 l10 l20 l30 l40 l50 l60 ks0 st0 sp0 rb0 ru0 vc0 sf0 dr0 ss0 ob0 rl0 wl0 sd au en ac re rs ck od sb su mc ix l1 l2 l3 l4 l5 l6 ks st sp rb ru vc sf dr ss ob rl wl loc c hs az qi qb e (Hm c hs az qi qb) is bs ns hd hx hr.1
 have hsn:=nV ar ar' wr to nx wr' nx' loc sd0 au0 en0 ac0 re0 rs0 ck0 od0 sb0 su0 mc0 ix0 l10 l20 l30 l40 l50 l60 ks0 st0 sp0 rb0 ru0 vc0 sf0 dr0 ss0 ob0 rl0 wl0 sd au en ac re rs ck od sb su mc ix l1 l2 l3 l4 l5 l6 ks st sp rb ru vc sf dr ss ob rl wl (Hm c hs az qi qb) (JU e is bs ns) hrun hc
 exact xJ ar ar' wr to nx wr' nx' loc sd0 au0 en0 ac0 re0 rs0 ck0 od0 sb0 su0 mc0 ix0 l10 l20 l30 l40 l50 l60 ks0 st0 sp0 rb0 ru0 vc0 sf0 dr0 ss0 ob0 rl0 wl0 sd au en ac re rs ck od sb su mc ix l1 l2 l3 l4 l5 l6 ks st sp rb ru vc sf dr ss ob rl wl c hs az qi qb (Hm c hs az qi qb) (JU e is bs ns) e is bs ns hen hsn hr.2
theorem A4A(sd0:List (List UInt8))(au0:List (List UInt8))(en0:List UInt8)(ac0:Int)(re0:Int)(rs0:Int)(ck0:Int)(od0:Bool)(sb0:List (List (List UInt8)))(su0:Int)(mc0:Int)(ix0:List (El AL))(l10:Int)(l20:Int)(l30:Int)(l40:Int)(l50:Int)(l60:Int)(ks0:List (El BR))(st0:Bool)(sp0:Bool)(rb0:List (List (List UInt8)))(ru0:Int)(vc0:Int)(sf0:Bool)(dr0:Int)(ss0:List (El sesT))(ob0:List (El objT))(rl0:List Int)(wl0:List Int)(sd:List (List UInt8))(au:List (List UInt8))(en:List UInt8)(ac:Int)(re:Int)(rs:Int)(ck:Int)(od:Bool)(sb:List (List (List UInt8)))(su:Int)(mc:Int)(ix:List (El AL))(l1:Int)(l2:Int)(l3:Int)(l4:Int)(l5:Int)(l6:Int)(ks:List (El BR))(st:Bool)(sp:Bool)(rb:List (List (List UInt8)))(ru:Int)(vc:Int)(sf:Bool)(dr:Int)(ss:List (El sesT))(ob:List (El objT))(rl:List Int)(wl:List Int)(p0:List UInt8)(e0:Y E0 (.call 78 [.agg (Rt sd0 au0 en0 ac0 re0 rs0 ck0 od0 sb0 su0 mc0 ix0 l10 l20 l30 l40 l50 l60 ks0)] [])=some (.ret (.sl .u8 p0) []))(e1:Y E0 (.call 78 [.agg (Rt sd au en ac re rs ck od sb su mc ix l1 l2 l3 l4 l5 l6 ks)] [])=some (.ret (.sl .u8 p0) []))(c nb:Int)(hs:List Int)(az:List (El AQ))(qi:List Int)(qb:List (List UInt8))(e:Int)(is:List Int)(bs ns:List (List UInt8))(hq:rqG c nb hs az qi qb)(hp:rpG e is bs ns)(hx:Y E0 (.call 131 [.agg [.sl (.sl .u8) sd0,.sl (.sl .u8) au0,.sl .u8 en0,.i ac0,.i re0,.i rs0,.i ck0,.b od0,.sl (.sl (.sl .u8)) sb0,.i su0,.i mc0,.sl AL ix0,.i l10,.i l20,.i l30,.i l40,.i l50,.i l60,.sl BR ks0,.b st0,.b sp0,.sl (.sl (.sl .u8)) rb0,.i ru0,.i vc0,.b sf0,.i dr0,.sl sesT ss0,.sl objT ob0,.sl .i64 rl0,.sl .i64 wl0],.i loc,rq c hs az qi qb] [])=some (.ret (.tup [.agg [.sl (.sl .u8) sd,.sl (.sl .u8) au,.sl .u8 en,.i ac,.i re,.i rs,.i ck,.b od,.sl (.sl (.sl .u8)) sb,.i su,.i mc,.sl AL ix,.i l1,.i l2,.i l3,.i l4,.i l5,.i l6,.sl BR ks,.b st,.b sp,.sl (.sl (.sl .u8)) rb,.i ru,.i vc,.b sf,.i dr,.sl sesT ss,.sl objT ob,.sl .i64 rl,.sl .i64 wl],JC e is bs ns]) [])):
  Y E0 (.call 13 [GR ar wr 0 to false sd0 au0 en0 ac0 re0 rs0 ck0 od0 sb0 su0 mc0 ix0 l10 l20 l30 l40 l50 l60 ks0 st0 sp0 rb0 ru0 vc0 sf0 dr0 ss0 ob0 rl0 wl0 true nx,.i loc,rq c hs az qi qb] [])=some (.ret (.tup [GR ar wr 0 to false sd au en ac re rs ck od sb su mc ix l1 l2 l3 l4 l5 l6 ks st sp rb ru vc sf dr ss ob rl wl true nx,JC e is bs ns,.b true]) []):=by
 have hen:=xH c nb hs az qi qb hq.rs hq.rc hq.hl hq.al hq.il hq.bl hq.hm hq.am hq.im hq.bm hq.ln
 have hd:=mr c nb hs az qi qb hq.cb hq.sh hq.ct hq.hl hq.al hq.il hq.bl hq.hm hq.am hq.im hq.bm hq.ln
 have hr:=xK hp
 exact xJ ar ar wr to nx wr nx loc sd0 au0 en0 ac0 re0 rs0 ck0 od0 sb0 su0 mc0 ix0 l10 l20 l30 l40 l50 l60 ks0 st0 sp0 rb0 ru0 vc0 sf0 dr0 ss0 ob0 rl0 wl0 sd au en ac re rs ck od sb su mc ix l1 l2 l3 l4 l5 l6 ks st sp rb ru vc sf dr ss ob rl wl c hs az qi qb (Hm c hs az qi qb) (JU e is bs ns) e is bs ns hen (nV ar ar wr to nx wr nx loc sd0 au0 en0 ac0 re0 rs0 ck0 od0 sb0 su0 mc0 ix0 l10 l20 l30 l40 l50 l60 ks0 st0 sp0 rb0 ru0 vc0 sf0 dr0 ss0 ob0 rl0 wl0 sd au en ac re rs ck od sb su mc ix l1 l2 l3 l4 l5 l6 ks st sp rb ru vc sf dr ss ob rl wl (Hm c hs az qi qb) (JU e is bs ns) (xI sd0 au0 en0 ac0 re0 rs0 ck0 od0 sb0 su0 mc0 ix0 l10 l20 l30 l40 l50 l60 ks0 st0 sp0 rb0 ru0 vc0 sf0 dr0 ss0 ob0 rl0 wl0 sd au en ac re rs ck od sb su mc ix l1 l2 l3 l4 l5 l6 ks st sp rb ru vc sf dr ss ob rl wl loc c hs az qi qb e (Hm c hs az qi qb) is bs ns hd hx hr.1) (Qq ar wr to nx sd0 au0 en0 ac0 re0 rs0 ck0 od0 sb0 su0 mc0 ix0 l10 l20 l30 l40 l50 l60 ks0 st0 sp0 rb0 ru0 vc0 sf0 dr0 ss0 ob0 rl0 wl0 sd au en ac re rs ck od sb su mc ix l1 l2 l3 l4 l5 l6 ks st sp rb ru vc sf dr ss ob rl wl p0 e0 e1)) hr.2
theorem YZ(sd0:List (List UInt8))(au0:List (List UInt8))(en0:List UInt8)(ac0:Int)(re0:Int)(rs0:Int)(ck0:Int)(od0:Bool)(sb0:List (List (List UInt8)))(su0:Int)(mc0:Int)(ix0:List (El AL))(l10:Int)(l20:Int)(l30:Int)(l40:Int)(l50:Int)(l60:Int)(ks0:List (El BR))(st0:Bool)(sp0:Bool)(rb0:List (List (List UInt8)))(ru0:Int)(vc0:Int)(sf0:Bool)(dr0:Int)(ss0:List (El sesT))(ob0:List (El objT))(rl0:List Int)(wl0:List Int)(sd:List (List UInt8))(au:List (List UInt8))(en:List UInt8)(ac:Int)(re:Int)(rs:Int)(ck:Int)(od:Bool)(sb:List (List (List UInt8)))(su:Int)(mc:Int)(ix:List (El AL))(l1:Int)(l2:Int)(l3:Int)(l4:Int)(l5:Int)(l6:Int)(ks:List (El BR))(st:Bool)(sp:Bool)(rb:List (List (List UInt8)))(ru:Int)(vc:Int)(sf:Bool)(dr:Int)(ss:List (El sesT))(ob:List (El objT))(rl:List Int)(wl:List Int)(c:Int)(hs:List Int)(az:List (El AQ))(qi:List Int)(qb:List (List UInt8))(e n m:Int)(is:List Int)(bs ns:List (List UInt8))(ha:Y E0 (.call 13 [GR ar wr 0 to false sd0 au0 en0 ac0 re0 rs0 ck0 od0 sb0 su0 mc0 ix0 l10 l20 l30 l40 l50 l60 ks0 st0 sp0 rb0 ru0 vc0 sf0 dr0 ss0 ob0 rl0 wl0 true nx,.i loc,rq c hs az qi qb] [])=some (.ret (.tup [GR ar' wr' 0 to false sd au en ac re rs ck od sb su mc ix l1 l2 l3 l4 l5 l6 ks st sp rb ru vc sf dr ss ob rl wl true nx',JC e is bs ns,.b true]) []))(hl:is.length<=10/\bs.length<=10)(he:e=0)(hn:(is.length:Int)=n)(hm:(bs.length:Int)=m):
  Y E0 (.call 9 [GR ar wr 0 to false sd0 au0 en0 ac0 re0 rs0 ck0 od0 sb0 su0 mc0 ix0 l10 l20 l30 l40 l50 l60 ks0 st0 sp0 rb0 ru0 vc0 sf0 dr0 ss0 ob0 rl0 wl0 true nx,.i loc,rq c hs az qi qb,.i n,.i m] [])=some (.ret (.tup [GR ar' wr' 0 to false sd au en ac re rs ck od sb su mc ix l1 l2 l3 l4 l5 l6 ks st sp rb ru vc sf dr ss ob rl wl true nx',JC e is bs ns,.b true]) []):=by
 refine tq ?_
 rw[ha]
 conv=>lhs;whnf
 try dsimp -iota -beta -eta -zeta only
 rw[Ff zaa]
 conv=>lhs;whnf
 rw[Ff zao]
 conv=>lhs;whnf
 try dsimp -iota -beta -eta -zeta only
 rw[drw zaj];conv=>lhs;whnf
 try dsimp -iota -beta -eta -zeta only
 (congr 3;simp only[J3,Jo,Jd,Jp,DF,IB,AC];first|rfl|(rw[decide_eq_decide];omega)|(simp;omega))
theorem Rk(sd0:List (List UInt8))(au0:List (List UInt8))(en0:List UInt8)(ac0:Int)(re0:Int)(rs0:Int)(ck0:Int)(od0:Bool)(su0:Int)(mc0:Int)(ix0:List (El AL))(l10:Int)(l20:Int)(l30:Int)(l40:Int)(l50:Int)(l60:Int)(ks0:List (El BR))(st0:Bool)(sp0:Bool)(rb0:List (List (List UInt8)))(ru0:Int)(vc0:Int)(sf0:Bool)(dr0:Int)(ss0:List (El sesT))(ob0:List (El objT))(rl0:List Int)(wl0:List Int)(sd:List (List UInt8))(au:List (List UInt8))(en:List UInt8)(ac:Int)(re:Int)(rs:Int)(ck:Int)(od:Bool)(su:Int)(mc:Int)(ix:List (El AL))(l1:Int)(l2:Int)(l3:Int)(l4:Int)(l5:Int)(l6:Int)(ks:List (El BR))(st:Bool)(sp:Bool)(rb:List (List (List UInt8)))(ru:Int)(vc:Int)(sf:Bool)(dr:Int)(ss:List (El sesT))(ob:List (El objT))(rl:List Int)(wl:List Int)(c nb:Int)(hs:List Int)(az:List (El AQ))(qi:List Int)(qb:List (List UInt8))(e:Int)(is:List Int)(bs ns:List (List UInt8))(hq:rqG c nb hs az qi qb)(hp:rpG e is bs ns)(h0:stOK sd0 au0 en0 ac0 re0 rs0 ck0 su0 mc0 ix0 l10 l20 l30 l40 l50 l60 ks0)(h1:stOK sd au en ac re rs ck su mc ix l1 l2 l3 l4 l5 l6 ks)(har:OV ar (nx-1) (encS sd0 au0 en0 ac0 re0 rs0 ck0 od0 [] su0 mc0 ix0 l10 l20 l30 l40 l50 l60 ks0))(hw:0<=wr/\wr<=nx)(hn:nx<=800000)(hx:Y E0 (.call 131 [.agg [.sl (.sl .u8) sd0,.sl (.sl .u8) au0,.sl .u8 en0,.i ac0,.i re0,.i rs0,.i ck0,.b od0,.sl (.sl (.sl .u8)) [],.i su0,.i mc0,.sl AL ix0,.i l10,.i l20,.i l30,.i l40,.i l50,.i l60,.sl BR ks0,.b st0,.b sp0,.sl (.sl (.sl .u8)) rb0,.i ru0,.i vc0,.b sf0,.i dr0,.sl sesT ss0,.sl objT ob0,.sl .i64 rl0,.sl .i64 wl0],.i loc,rq c hs az qi qb] [])=some (.ret (.tup [.agg [.sl (.sl .u8) sd,.sl (.sl .u8) au,.sl .u8 en,.i ac,.i re,.i rs,.i ck,.b od,.sl (.sl (.sl .u8)) [],.i su,.i mc,.sl AL ix,.i l1,.i l2,.i l3,.i l4,.i l5,.i l6,.sl BR ks,.b st,.b sp,.sl (.sl (.sl .u8)) rb,.i ru,.i vc,.b sf,.i dr,.sl sesT ss,.sl objT ob,.sl .i64 rl,.sl .i64 wl],JC e is bs ns]) [])):
  ∃ ar' wr' nx',OV ar' (nx'-1) (encS sd au en ac re rs ck od [] su mc ix l1 l2 l3 l4 l5 l6 ks)/\0<=wr'/\wr'<=nx'/\nx'<=nx+1/\(encS sd au en ac re rs ck od [] su mc ix l1 l2 l3 l4 l5 l6 ks=encS sd0 au0 en0 ac0 re0 rs0 ck0 od0 [] su0 mc0 ix0 l10 l20 l30 l40 l50 l60 ks0->nx'=nx)/\Y E0 (.call 13 [GR ar wr 0 to false sd0 au0 en0 ac0 re0 rs0 ck0 od0 [] su0 mc0 ix0 l10 l20 l30 l40 l50 l60 ks0 st0 sp0 rb0 ru0 vc0 sf0 dr0 ss0 ob0 rl0 wl0 true nx,.i loc,rq c hs az qi qb] [])=some (.ret (.tup [GR ar' wr' 0 to false sd au en ac re rs ck od [] su mc ix l1 l2 l3 l4 l5 l6 ks st sp rb ru vc sf dr ss ob rl wl true nx',JC e is bs ns,.b true]) []) :=
 A49 ar wr to nx loc sd0 au0 en0 ac0 re0 rs0 ck0 od0 [] su0 mc0 ix0 l10 l20 l30 l40 l50 l60 ks0 st0 sp0 rb0 ru0 vc0 sf0 dr0 ss0 ob0 rl0 wl0 sd au en ac re rs ck od [] su mc ix l1 l2 l3 l4 l5 l6 ks st sp rb ru vc sf dr ss ob rl wl _ _ (fD sd0 au0 en0 ac0 re0 rs0 ck0 od0 su0 mc0 ix0 l10 l20 l30 l40 l50 l60 ks0 h0.sl h0.al h0.sm h0.am h0.en h0.il h0.im h0.kl h0.km) (fD sd au en ac re rs ck od su mc ix l1 l2 l3 l4 l5 l6 ks h1.sl h1.al h1.sm h1.am h1.en h1.il h1.im h1.kl h1.km) (Nat.le_trans (U8 sd0 au0 en0 ac0 re0 rs0 ck0 od0 su0 mc0 ix0 l10 l20 l30 l40 l50 l60 ks0 h0) zad) (Nat.le_trans (U8 sd au en ac re rs ck od su mc ix l1 l2 l3 l4 l5 l6 ks h1) zad) c nb hs az qi qb e is bs ns hq hp har hw hn hx
end
section
attribute [local irreducible] Bl CQ CS Bo Bg Ar CU Dw EN Dy EC Bf BU Bv Bz and' C9 CB BK Au BA BL BN Aa Ad AP AZ CV Dq CW DI CE BP BM BF BG BB AU BC Ae Ap Ai CX BH Bh Ba BO CG CY CJ fits CZ CO A8 AA Ac
theorem NT{c nb:Int}{hs:List Int}{az:List (El AQ)}{is:List Int}{bs:List (List UInt8)}(h:rqG c nb hs az is bs):Y E0 (.call 160 [rq c hs az is bs] [])=some (.ret (.i 0) []) :=
 A06 c nb hs az is bs h.sh h.ct h.hl h.al h.il h.bl h.hm h.am h.im h.bm h.ln
theorem A4B:rqG 1 0 [] [] [0] []:=by
 refine⟨aN,Hq 0,nI,Jg 0,by decide,by decide,by decide,by decide,by decide,by simp,by simp,by simp,by simp,?_⟩
 simp only[Hm,Gt,List.length_append,D9,List.flatMap_nil,List.flatMap_cons,List.length_nil,List.length_cons,Bq]
 decide
theorem UA(sd:List (List UInt8))(au:List (List UInt8))(en:List UInt8)(ac:Int)(re:Int)(rs:Int)(ck:Int)(od:Bool)(su:Int)(mc:Int)(ix:List (El AL))(l1:Int)(l2:Int)(l3:Int)(l4:Int)(l5:Int)(l6:Int)(ks:List (El BR))(st:Bool)(sp:Bool)(rb:List (List (List UInt8)))(ru:Int)(vc:Int)(sf:Bool)(dr:Int)(ss:List (El sesT))(ob:List (El objT))(rl:List Int)(wl:List Int)(c:Int)(hs:List Int)(az:List (El AQ))(is:List Int)(bs:List (List UInt8))(hl:hs.length<=10)(hn:∀ h∈hs,∃ x,Y E0 (.call 181 [.agg [.sl (.sl .u8) sd,.sl (.sl .u8) au,.sl .u8 en,.i ac,.i re,.i rs,.i ck,.b od,.sl (.sl (.sl .u8)) [],.i su,.i mc,.sl AL ix,.i l1,.i l2,.i l3,.i l4,.i l5,.i l6,.sl BR ks,.b st,.b sp,.sl (.sl (.sl .u8)) rb,.i ru,.i vc,.b sf,.i dr,.sl sesT ss,.sl objT ob,.sl .i64 rl,.sl .i64 wl],.i h] [])=some (.ret (.tup [.sl .u8 x,.i 0]) [])):∀(k j:Nat),j+k=hs.length ->
  Y E0 (.loop 162 0 0 2 [(2,.pa 0 0),(3,.pa 1 0),(15,.sl .i64 hs),(16,.i (hs.length:Int)),(17,.i (j:Int))] [(0,some (.var [.sl (.sl .u8) sd,.sl (.sl .u8) au,.sl .u8 en,.i ac,.i re,.i rs,.i ck,.b od,.sl (.sl (.sl .u8)) [],.i su,.i mc,.sl AL ix,.i l1,.i l2,.i l3,.i l4,.i l5,.i l6,.sl BR ks,.b st,.b sp,.sl (.sl (.sl .u8)) rb,.i ru,.i vc,.b sf,.i dr,.sl sesT ss,.sl objT ob,.sl .i64 rl,.sl .i64 wl])),(1,some (.var [.i c,.sl .i64 hs,.sl AQ az,.sl .i64 is,.sl (.sl .u8) bs]))])
   = some (.fin (.exit 0) 2 [(2,.pa 0 0),(3,.pa 1 0)] [(0,some (.var [.sl (.sl .u8) sd,.sl (.sl .u8) au,.sl .u8 en,.i ac,.i re,.i rs,.i ck,.b od,.sl (.sl (.sl .u8)) [],.i su,.i mc,.sl AL ix,.i l1,.i l2,.i l3,.i l4,.i l5,.i l6,.sl BR ks,.b st,.b sp,.sl (.sl (.sl .u8)) rb,.i ru,.i vc,.b sf,.i dr,.sl sesT ss,.sl objT ob,.sl .i64 rl,.sl .i64 wl])),(1,some (.var [.i c,.sl .i64 hs,.sl AQ az,.sl .i64 is,.sl (.sl .u8) bs]))])
 | 0,j,hj=>by
  obtain rfl:j=hs.length:=zaa
  rw[AO];conv=>lhs;whnf
  refine tq ?_
  with_reducible rfl
 | k+1,j,hj=>by
  obtain⟨x,hm,hg⟩:=Gp (l:=hs) (i:=(j:Int)) zaa
  obtain⟨nm,ho⟩:=hn x hm
  have ih:=UA sd au en ac re rs ck od su mc ix l1 l2 l3 l4 l5 l6 ks st sp rb ru vc sf dr ss ob rl wl c hs az is bs hl hn k (j+1) zaa
  rw[show((j+1:Nat):Int)=(j:Int)+1 from by omega] at ih
  rw[AO];conv=>lhs;whnf
  refine to ?_
  rw[hg]
  refine tq ?_
  rw[ho]
  refine tq ?_
  exact ih
theorem JV(en:List UInt8)(ac:Int)(re:Int)(rs:Int)(ck:Int)(od:Bool)(su:Int)(mc:Int)(ix:List (El AL))(l1:Int)(l2:Int)(l3:Int)(l4:Int)(l5:Int)(l6:Int)(ks:List (El BR))(st:Bool)(sp:Bool)(rb:List (List (List UInt8)))(ru:Int)(vc:Int)(sf:Bool)(dr:Int)(ss:List (El sesT))(ob:List (El objT))(rl:List Int)(wl:List Int)(c:Int)(az:List (El AQ))(is:List Int)(bs:List (List UInt8)):Y E0 (.call 162 [.agg [.sl (.sl .u8) sd,.sl (.sl .u8) au,.sl .u8 en,.i ac,.i re,.i rs,.i ck,.b od,.sl (.sl (.sl .u8)) [],.i su,.i mc,.sl AL ix,.i l1,.i l2,.i l3,.i l4,.i l5,.i l6,.sl BR ks,.b st,.b sp,.sl (.sl (.sl .u8)) rb,.i ru,.i vc,.b sf,.i dr,.sl sesT ss,.sl objT ob,.sl .i64 rl,.sl .i64 wl],rq c [] az is bs] [])=some (.ret (.b true) []):=by
 have l0:=UA sd au en ac re rs ck od su mc ix l1 l2 l3 l4 l5 l6 ks st sp rb ru vc sf dr ss ob rl wl c [] az is bs zak zak 0 0 rfl
 have e2:Ap ([]:List Int)=0:=zaK
 rw[show((List.length ([]:List Int):Nat):Int)=0 from rfl,show((0:Nat):Int)=0 from rfl] at l0
 refine tq ?_
 simp only[e2,Nat.reduceAdd];rw[l0]
 conv=>lhs;whnf
 rw[e2]
 exact tq rfl
theorem xM(sd:List (List UInt8))(au:List (List UInt8))(en:List UInt8)(ac:Int)(re:Int)(rs:Int)(ck:Int)(od:Bool)(su:Int)(mc:Int)(ix:List (El AL))(l1:Int)(l2:Int)(l3:Int)(l4:Int)(l5:Int)(l6:Int)(ks:List (El BR))(st:Bool)(sp:Bool)(rb:List (List (List UInt8)))(ru:Int)(vc:Int)(sf:Bool)(dr:Int)(ss:List (El sesT))(ob:List (El objT))(rl:List Int)(wl:List Int):Y E0 (.call 185 [.agg [.sl (.sl .u8) sd0,.sl (.sl .u8) au0,.sl .u8 en0,.i ac0,.i re0,.i rs0,.i ck0,.b od0,.sl (.sl (.sl .u8)) [],.i su0,.i mc0,.sl AL ix0,.i l10,.i l20,.i l30,.i l40,.i l50,.i l60,.sl BR ks0,.b st0,.b sp0,.sl (.sl (.sl .u8)) rb0,.i ru0,.i vc0,.b sf0,.i dr0,.sl sesT ss0,.sl objT ob0,.sl .i64 rl0,.sl .i64 wl0],.agg [.sl (.sl .u8) sd,.sl (.sl .u8) au,.sl .u8 en,.i ac,.i re,.i rs,.i ck,.b od,.sl (.sl (.sl .u8)) [],.i su,.i mc,.sl AL ix,.i l1,.i l2,.i l3,.i l4,.i l5,.i l6,.sl BR ks,.b st,.b sp,.sl (.sl (.sl .u8)) rb,.i ru,.i vc,.b sf,.i dr,.sl sesT ss,.sl objT ob,.sl .i64 rl,.sl .i64 wl],.i 0] [])=some (.ret (.tup [.agg [.sl (.sl .u8) sd,.sl (.sl .u8) au,.sl .u8 en,.i ac,.i re,.i rs,.i ck,.b od,.sl (.sl (.sl .u8)) [],.i su,.i mc,.sl AL ix,.i l1,.i l2,.i l3,.i l4,.i l5,.i l6,.sl BR ks,.b st,.b sp,.sl (.sl (.sl .u8)) rb,.i ru,.i vc,.b sf,.i dr,.sl sesT ss,.sl objT ob,.sl .i64 rl,.sl .i64 wl],JC 0 [] [] []]) []):=by
 refine tq ?_
 with_reducible rfl
theorem A6W(en:List UInt8)(ac:Int)(re:Int)(rs:Int)(ck:Int)(od:Bool)(su:Int)(mc:Int)(ix:List (El AL))(l1:Int)(l2:Int)(l3:Int)(l4:Int)(l5:Int)(l6:Int)(ks:List (El BR))(st:Bool)(sp:Bool)(rb:List (List (List UInt8)))(ru:Int)(vc:Int)(sf:Bool)(dr:Int)(ss:List (El sesT))(ob:List (El objT))(rl:List Int)(wl:List Int)(h:st=false/\sp=false)(ha:ac=2)(hre:0<=re/\re<=1000000):Y E0 (.call 163 [.agg [.sl (.sl .u8) sd,.sl (.sl .u8) au,.sl .u8 en,.i ac,.i re,.i rs,.i ck,.b od,.sl (.sl (.sl .u8)) [],.i su,.i mc,.sl AL ix,.i l1,.i l2,.i l3,.i l4,.i l5,.i l6,.sl BR ks,.b st,.b sp,.sl (.sl (.sl .u8)) rb,.i ru,.i vc,.b sf,.i dr,.sl sesT ss,.sl objT ob,.sl .i64 rl,.sl .i64 wl],.i 0,rq 1 [] [] [0] []] [])=some (.ret (.tup [.agg [.sl (.sl .u8) sd,.sl (.sl .u8) au,.sl .u8 en,.i ac,.i (re+1),.i 0,.i ck,.b false,.sl (.sl (.sl .u8)) [],.i 0,.i mc,.sl AL ix,.i l1,.i l2,.i l3,.i l4,.i l5,.i l6,.sl BR ks,.b true,.b sp,.sl (.sl (.sl .u8)) (Dk 2),.i 0,.i ck,.b od,.i dr,.sl sesT ss,.sl objT ob,.sl .i64 rl,.sl .i64 wl],JC 0 [] [] []]) []):=by
 have ha:=A03 sd au en ac re rs ck od [] su mc ix l1 l2 l3 l4 l5 l6 ks st sp rb ru vc sf dr ss ob rl wl h ha hre
 refine tq ?_
 rw[ha]
 refine tq ?_
 rw[xM ..]
 exact tq rfl
theorem xN(en:List UInt8)(ac:Int)(re:Int)(rs:Int)(ck:Int)(od:Bool)(su:Int)(mc:Int)(ix:List (El AL))(l1:Int)(l2:Int)(l3:Int)(l4:Int)(l5:Int)(l6:Int)(ks:List (El BR))(st:Bool)(sp:Bool)(rb:List (List (List UInt8)))(ru:Int)(vc:Int)(sf:Bool)(dr:Int)(ss:List (El sesT))(ob:List (El objT))(rl:List Int)(wl:List Int)(h:st=false/\sp=false)(ha:ac=2)(hre:0<=re/\re<=1000000):Y E0 (.call 131 [.agg [.sl (.sl .u8) sd,.sl (.sl .u8) au,.sl .u8 en,.i ac,.i re,.i rs,.i ck,.b od,.sl (.sl (.sl .u8)) [],.i su,.i mc,.sl AL ix,.i l1,.i l2,.i l3,.i l4,.i l5,.i l6,.sl BR ks,.b st,.b sp,.sl (.sl (.sl .u8)) rb,.i ru,.i vc,.b sf,.i dr,.sl sesT ss,.sl objT ob,.sl .i64 rl,.sl .i64 wl],.i 0,rq 1 [] [] [0] []] [])=some (.ret (.tup [.agg [.sl (.sl .u8) sd,.sl (.sl .u8) au,.sl .u8 en,.i ac,.i (re+1),.i 0,.i ck,.b false,.sl (.sl (.sl .u8)) [],.i 0,.i mc,.sl AL ix,.i l1,.i l2,.i l3,.i l4,.i l5,.i l6,.sl BR ks,.b true,.b sp,.sl (.sl (.sl .u8)) (Dk 2),.i 0,.i ck,.b od,.i dr,.sl sesT ss,.sl objT ob,.sl .i64 rl,.sl .i64 wl],JC 0 [] [] []]) []):=by
 have hk:=NT A4B
 have ha:=A6W sd au en ac re rs ck od su mc ix l1 l2 l3 l4 l5 l6 ks st sp rb ru vc sf dr ss ob rl wl h ha hre
 refine tq ?_
 rw[hk]
 refine tq ?_
 rw[JV ..]
 refine tq ?_
 rw[ha]
 exact tq rfl
theorem KO(sd0:List (List UInt8))(au0:List (List UInt8))(en0:List UInt8)(ac0:Int)(re0:Int)(rs0:Int)(ck0:Int)(od0:Bool)(su0:Int)(mc0:Int)(ix0:List (El AL))(l10:Int)(l20:Int)(l30:Int)(l40:Int)(l50:Int)(l60:Int)(ks0:List (El BR))(st0:Bool)(sp0:Bool)(rb0:List (List (List UInt8)))(ru0:Int)(vc0:Int)(sf0:Bool)(dr0:Int)(ss0:List (El sesT))(ob0:List (El objT))(rl0:List Int)(wl0:List Int)(sd:List (List UInt8))(au:List (List UInt8))(en:List UInt8)(ac:Int)(re:Int)(rs:Int)(ck:Int)(od:Bool)(su:Int)(mc:Int)(ix:List (El AL))(l1:Int)(l2:Int)(l3:Int)(l4:Int)(l5:Int)(l6:Int)(ks:List (El BR))(st:Bool)(sp:Bool)(rb:List (List (List UInt8)))(ru:Int)(vc:Int)(sf:Bool)(dr:Int)(ss:List (El sesT))(ob:List (El objT))(rl:List Int)(wl:List Int)(c:Int)(hs:List Int)(az:List (El AQ))(qi:List Int)(qb:List (List UInt8))(e n m:Int)(is:List Int)(bs ns:List (List UInt8))(ha:Y E0 (.call 13 [GR ar wr 0 to false sd0 au0 en0 ac0 re0 rs0 ck0 od0 [] su0 mc0 ix0 l10 l20 l30 l40 l50 l60 ks0 st0 sp0 rb0 ru0 vc0 sf0 dr0 ss0 ob0 rl0 wl0 true nx,.i loc,rq c hs az qi qb] [])=some (.ret (.tup [GR ar' wr' 0 to false sd au en ac re rs ck od [] su mc ix l1 l2 l3 l4 l5 l6 ks st sp rb ru vc sf dr ss ob rl wl true nx',JC e is bs ns,.b true]) []))(hl:is.length<=10/\bs.length<=10)(he:e=0)(hn:(is.length:Int)=n)(hm:(bs.length:Int)=m):
  Y E0 (.call 9 [GR ar wr 0 to false sd0 au0 en0 ac0 re0 rs0 ck0 od0 [] su0 mc0 ix0 l10 l20 l30 l40 l50 l60 ks0 st0 sp0 rb0 ru0 vc0 sf0 dr0 ss0 ob0 rl0 wl0 true nx,.i loc,rq c hs az qi qb,.i n,.i m] [])=some (.ret (.tup [GR ar' wr' 0 to false sd au en ac re rs ck od [] su mc ix l1 l2 l3 l4 l5 l6 ks st sp rb ru vc sf dr ss ob rl wl true nx',JC e is bs ns,.b true]) []) :=
 YZ ar ar' wr to nx wr' nx' loc sd0 au0 en0 ac0 re0 rs0 ck0 od0 [] su0 mc0 ix0 l10 l20 l30 l40 l50 l60 ks0 st0 sp0 rb0 ru0 vc0 sf0 dr0 ss0 ob0 rl0 wl0 sd au en ac re rs ck od [] su mc ix l1 l2 l3 l4 l5 l6 ks st sp rb ru vc sf dr ss ob rl wl c hs az qi qb e n m is bs ns ha hl he hn hm
theorem Ya:Y E0 (.call 27 [.i 0] [])=some (.ret (rq 1 [] [] [0] []) []):=by
 refine tq ?_
 with_reducible rfl
theorem A6X(en:List UInt8)(he:en.length=32)(p:List UInt8)(hp:encS (AX en) [[],[],[],[]] (Aw en BI [] 32) 2 0 0 0 true [] 0 0 [] 0 5 100 0 0 1000 []=p)(hok:stOK (AX en) [[],[],[],[]] (Aw en BI [] 32) 2 0 0 0 0 0 [] 0 5 100 0 0 1000 []):Y E0 (.call 37 [.i 4,.sl .u8 en,.i 2] [])=some (.ret (.tup [zg (BH [[],[],[],[]] 1 (Rh 1 p)) 1 0 0 true false 2,.i 0]) []):=by
 have hn:=A6T en 2 he zad
 have hl:=U8 _ _ _ _ _ _ _ true _ _ _ _ _ _ _ _ _ _ hok
 have e1:=fD (AX en) [[],[],[],[]] (Aw en BI [] 32) 2 0 0 0 true 0 0 [] 0 5 100 0 0 1000 [] hok.sl hok.al hok.sm hok.am hok.en hok.il hok.im hok.kl hok.km
 rw[hp] at e1 hl
 have ec:=YQ [[],[],[],[]] 0 0 1 p zad zad zad zaa zad
 rw[show(1:Int)%2=1 from rfl,show(0+1:Int)=1 from rfl] at ec
 refine tq ?_
 rw[hn]
 refine tq ?_
 rw[A6I]
 refine tq ?_
 rw[e1]
 refine tq ?_
 rw[ec]
 refine tq ?_
 rw[xE ..]
 exact tq rfl
theorem A6Y(p:List UInt8)(hp:p.length<=60000):OV (BH [[],[],[],[]] 1 (Rh 1 p)) 1 p:=by
 rw[Ea]
 exact⟨rfl,by decide,by decide,hp,rfl,.inl rfl⟩
end
section
attribute [local irreducible] Bl CQ CS Bo Bg Ar CU Dw EN Dy EC Bf BU Bv Bz and' C9 CB BK Au BA BL BN Aa Ad AP AZ CV Dq CW DI CE BP BM BF BG BB AU BC Ae Ap Ai CX BH Bh Ba BO CG CY CJ fits CZ CO A8 AA Ac
@[reducible] def Cm:List (El sesT):=List.replicate 3 (0,[],[],0,0,0,0,false)
@[reducible] def noOb:List (El objT):=List.replicate 3 ((0,0,0,[],[]),([],[],[]),0)
theorem tV(cu to to' nx nx' Jh:Int)(of on:Bool)(sd0:List (List UInt8))(au0:List (List UInt8))(en0:List UInt8)(ac0:Int)(re0:Int)(rs0:Int)(ck0:Int)(od0:Bool)(su0:Int)(mc0:Int)(ix0:List (El AL))(l10:Int)(l20:Int)(l30:Int)(l40:Int)(l50:Int)(l60:Int)(ks0:List (El BR))(st0:Bool)(sp0:Bool)(rb0:List (List (List UInt8)))(ru0:Int)(vc0:Int)(sf0:Bool)(dr0:Int)(ss0:List (El sesT))(ob0:List (El objT))(rl0:List Int)(wl0:List Int)(sd:List (List UInt8))(au:List (List UInt8))(en:List UInt8)(ac:Int)(re:Int)(rs:Int)(ck:Int)(od:Bool)(su:Int)(mc:Int)(ix:List (El AL))(l1:Int)(l2:Int)(l3:Int)(l4:Int)(l5:Int)(l6:Int)(ks:List (El BR))(st:Bool)(sp:Bool)(rb:List (List (List UInt8)))(ru:Int)(vc:Int)(sf:Bool)(dr:Int)(ss:List (El sesT))(ob:List (El objT))(rl:List Int)(wl:List Int)(sd2 au2:List (List UInt8))(en2:List UInt8)(ac2 re2 rs2 ck2:Int)(od2:Bool)(su2 mc2 l12 l22 l32 l42 l52 l62:Int)(hon:Y E0 (.call 25 [zg ar wr cu to true false nx] [])=some (.ret (.tup [GR ar 0 0 0 false sd2 au2 en2 ac2 re2 rs2 ck2 od2 [] su2 mc2 [] l12 l22 l32 l42 l52 l62 [] false false [] 0 0 false 0 Cm noOb [] [] true Jh,.i 0]) []))(hm:Y E0 (.call 9 [GR ar 0 0 0 false sd2 au2 en2 ac2 re2 rs2 ck2 od2 [] su2 mc2 [] l12 l22 l32 l42 l52 l62 [] false false [] 0 0 false 0 Cm noOb [] [] true Jh,.i 0,rq 1 [] [] [0] [],.i 0,.i 0] [])=some (.ret (.tup [GR ar' wr' 0 0 false sd au en ac re rs ck od [] su mc ix l1 l2 l3 l4 l5 l6 ks st sp rb ru vc sf dr ss ob rl wl true nx',JC 0 [] [] [],.b true]) [])):
  Y E0 (.call 16 [GR ar wr cu to of sd0 au0 en0 ac0 re0 rs0 ck0 od0 [] su0 mc0 ix0 l10 l20 l30 l40 l50 l60 ks0 st0 sp0 rb0 ru0 vc0 sf0 dr0 ss0 ob0 rl0 wl0 on nx] [])=some (.ret (.tup [GR ar' wr' 0 0 false sd au en ac re rs ck od [] su mc ix l1 l2 l3 l4 l5 l6 ks st sp rb ru vc sf dr ss ob rl wl true nx',.b true]) []):=by
 have hoff:=fE ar wr cu to of on nx sd0 au0 en0 ac0 re0 rs0 ck0 od0 [] su0 mc0 ix0 l10 l20 l30 l40 l50 l60 ks0 st0 sp0 rb0 ru0 vc0 sf0 dr0 ss0 ob0 rl0 wl0
 refine tq ?_
 rw[hoff]
 refine tq ?_
 rw[hon]
 refine tq ?_
 rw[Ya]
 refine tq ?_
 rw[hm]
 exact tq rfl
theorem A4C(cu to nx q:Int)(of on:Bool)(sd0:List (List UInt8))(au0:List (List UInt8))(en0:List UInt8)(ac0:Int)(re0:Int)(rs0:Int)(ck0:Int)(od0:Bool)(su0:Int)(mc0:Int)(ix0:List (El AL))(l10:Int)(l20:Int)(l30:Int)(l40:Int)(l50:Int)(l60:Int)(ks0:List (El BR))(st0:Bool)(sp0:Bool)(rb0:List (List (List UInt8)))(ru0:Int)(vc0:Int)(sf0:Bool)(dr0:Int)(ss0:List (El sesT))(ob0:List (El objT))(rl0:List Int)(wl0:List Int)(sd au:List (List UInt8))(en:List UInt8)(re rs ck:Int)(od:Bool)(su mc l1 l2 l3 l4 l5 l6:Int)(har:OV ar q (encS sd au en 2 re rs ck od [] su mc [] l1 l2 l3 l4 l5 l6 []))(hok:stOK sd au en 2 re rs ck su mc [] l1 l2 l3 l4 l5 l6 [])(hre:re<=900000)(hq:q<=700000):
  ∃ ar' wr' nx',OV ar' (nx'-1) (encS sd au en 2 (re+1) 0 ck false [] 0 mc [] l1 l2 l3 l4 l5 l6 [])/\0<=wr'/\wr'<=nx'/\nx'<=q+2/\Y E0 (.call 16 [GR ar wr cu to of sd0 au0 en0 ac0 re0 rs0 ck0 od0 [] su0 mc0 ix0 l10 l20 l30 l40 l50 l60 ks0 st0 sp0 rb0 ru0 vc0 sf0 dr0 ss0 ob0 rl0 wl0 on nx] [])=some (.ret (.tup [GR ar' wr' 0 0 false sd au en 2 (re+1) 0 ck false [] 0 mc [] l1 l2 l3 l4 l5 l6 [] true false (Dk 2) 0 ck od 0 Cm noOb [] [] true nx',.b true]) []):=by
 have hon:=A8p ar wr cu to nx q sd au en 2 re rs ck od su mc l1 l2 l3 l4 l5 l6 har zad hok.sl hok.al hok.sm hok.am hok.en hok.re hok.rs hok.ck hok.su hok.mc hok.lk
 have hq1:1<=q:=har.2.1
 have h1:stOK sd au en 2 (re+1) 0 ck 0 mc [] l1 l2 l3 l4 l5 l6 []:=⟨hok.sl,hok.al,hok.sm,hok.am,hok.en,hok.ac,⟨by have:=hok.re;omega,by omega⟩,by decide,hok.ck,by decide,hok.mc,hok.il,hok.im,hok.lk,hok.kl,hok.km⟩
 have hp:rpG 0 [] [] []:=⟨.inl rfl,by decide,by decide,by decide,by simp,by simp,by simp⟩
 have hx:=xN sd au en 2 re rs ck od su mc [] l1 l2 l3 l4 l5 l6 [] false false [] 0 0 false 0 Cm noOb [] [] ⟨rfl,rfl⟩ rfl hok.re
 obtain⟨ar',wr',nx',k1,k2,k3,k4,_,ha⟩:=Rk ar 0 0 (q+1) 0 sd au en 2 re rs ck od su mc [] l1 l2 l3 l4 l5 l6 [] false false [] 0 0 false 0 Cm noOb [] [] sd au en 2 (re+1) 0 ck false 0 mc [] l1 l2 l3 l4 l5 l6 [] true false (Dk 2) 0 ck od 0 Cm noOb [] [] 1 0 [] [] [0] [] 0 [] [] [] A4B hp hok h1 (by rw[show q+1-1=q from by omega];exact har) ⟨by decide,by omega⟩ zaa hx
 refine⟨ar',wr',nx',k1,k2,k3,by omega,?_⟩
 have hm:=KO ar ar' 0 0 (q+1) wr' nx' 0 sd au en 2 re rs ck od su mc [] l1 l2 l3 l4 l5 l6 [] false false [] 0 0 false 0 Cm noOb [] [] sd au en 2 (re+1) 0 ck false 0 mc [] l1 l2 l3 l4 l5 l6 [] true false (Dk 2) 0 ck od 0 Cm noOb [] [] 1 [] [] [0] [] 0 0 0 [] [] [] ha zad rfl rfl rfl
 exact tV ar ar' wr wr' cu to 0 nx nx' (q+1) of on sd0 au0 en0 ac0 re0 rs0 ck0 od0 su0 mc0 ix0 l10 l20 l30 l40 l50 l60 ks0 st0 sp0 rb0 ru0 vc0 sf0 dr0 ss0 ob0 rl0 wl0 sd au en 2 (re+1) 0 ck false 0 mc [] l1 l2 l3 l4 l5 l6 [] true false (Dk 2) 0 ck od 0 Cm noOb [] [] sd au en 2 re rs ck od su mc l1 l2 l3 l4 l5 l6 hon hm
end
section
attribute [local irreducible] Bl CQ CS Bo Bg Ar CU Dw EN Dy EC Bf BU Bv Bz and' C9 CB BK Au BA BL BN Aa Ad AP AZ CV Dq CW DI CE BP BM BF BG BB AU BC Ae Ap Ai CX BH Bh Ba BO CG CY CJ fits CZ CO A8 AA Ac
@[irreducible] def zen:List UInt8:=List.replicate 32 0
theorem zen_len:zen.length=32:=by rw[zen];simp
theorem VD(re:Int)(hre:0<=re/\re<=10):stOK (AX zen) [[],[],[],[]] (Aw zen BI [] 32) 2 re 0 0 0 0 [] 0 5 100 0 0 1000 []:=by
 refine⟨rE _,rfl,zG _,?_,?_,by decide,by omega,by decide,by decide,by decide,by decide,by decide,by simp,by unfold kP;omega,by decide,by simp⟩
 ·intro x hx
  simp at hx
  rw[hx];decide
 ·rw[G5 zad];decide
theorem tX(ar':List (List UInt8))(wr' nx':Int)(sd:List (List UInt8))(au:List (List UInt8))(en:List UInt8)(ac:Int)(re:Int)(rs:Int)(ck:Int)(od:Bool)(su:Int)(mc:Int)(ix:List (El AL))(l1:Int)(l2:Int)(l3:Int)(l4:Int)(l5:Int)(l6:Int)(ks:List (El BR))(st:Bool)(sp:Bool)(rb:List (List (List UInt8)))(ru:Int)(vc:Int)(sf:Bool)(dr:Int)(ss:List (El sesT))(ob:List (El objT))(rl:List Int)(wl:List Int)(hm:Y E0 (.call 37 [.i 4,.sl .u8 zen,.i 2] [])=some (.ret (.tup [zg ar wr 0 0 true false 2,.i 0]) []))(hc:Y E0 (.call 16 [zg ar wr 0 0 true false 2] [])=some (.ret (.tup [GR ar' wr' 0 0 false sd au en ac re rs ck od [] su mc ix l1 l2 l3 l4 l5 l6 ks st sp rb ru vc sf dr ss ob rl wl true nx',.b true]) [])):Y E0 (.call 8 [.i 2] [])=some (.ret (.tup [GR ar' wr' 0 0 false sd au en ac re rs ck od [] su mc ix l1 l2 l3 l4 l5 l6 ks st sp rb ru vc sf dr ss ob rl wl true nx',.b true]) []):=by
 have e:Ar .and 2 3=2:=by rw[Af];decide
 have hz:Ba 32 (0:UInt8)=zen:=by rw[FY,zen];rfl
 refine tq ?_
 rw[hz,e,hm]
 refine tq ?_
 rw[hc]
 exact tq rfl
theorem nX:∃ ar wr nx,OV ar (nx-1) (encS (AX zen) [[],[],[],[]] (Aw zen BI [] 32) 2 1 0 0 false [] 0 0 [] 0 5 100 0 0 1000 [])/\0<=wr/\wr<=nx/\nx<=3/\Y E0 (.call 8 [.i 2] [])=some (.ret (.tup [GR ar wr 0 0 false (AX zen) [[],[],[],[]] (Aw zen BI [] 32) 2 1 0 0 false [] 0 0 [] 0 5 100 0 0 1000 [] true false (Dk 2) 0 0 true 0 Cm noOb [] [] true nx,.b true]) []):=by
 have h0:=VD 0 zad
 have hm:=A6X zen zen_len _ rfl h0
 obtain⟨ar',wr',nx',k1,k2,k3,k4,hc⟩:=A4C _ 1 0 0 2 1 true false [] [] [] 0 0 0 0 false 0 0 [] 0 0 0 0 0 0 [] false false [] 0 0 false 0 [] [] [] [] (AX zen) [[],[],[],[]] (Aw zen BI [] 32) 0 0 0 true 0 0 0 5 100 0 0 1000 (A6Y _ (Nat.le_trans (U8 _ _ _ _ _ _ _ true _ _ _ _ _ _ _ _ _ _ h0) zad)) h0 zad zad
 exact⟨ar',wr',nx',k1,k2,k3,k4,tX _ 1 ar' wr' nx' (AX zen) [[],[],[],[]] (Aw zen BI [] 32) 2 1 0 0 false 0 0 [] 0 5 100 0 0 1000 [] true false (Dk 2) 0 0 true 0 Cm noOb [] [] hm hc⟩
end
end Go.Proofs.YtanagnimhaemgaaGreatDoor
