/- Own texts of this claim: contracts of functions. -/
import Derived.Test.YtlpkjhhfhannpaaGreatDoorBtag
import Derived.Test.YtlpkjhhfhannpaaGreatDoorBtak
set_option linter.all false
set_option maxHeartbeats 40000000
set_option maxRecDepth 100000
namespace Go.Proofs.YtlpkjhhfhannpaaGreatDoor
open Go Go.Ax Go.Eng
attribute [local irreducible] CS Cj CP CW CQ BC Cm ED ES Dx EG CJ Bi Ce CX and' Cf CU BL Au BI BP BR Ag Ai AY Ae D5 EJ D6 DX Cb BZ BQ BM BO BJ AZ BK Aj Ak Ap D7 BB CV BU BF CO D8 Cc fits D9 Ci AC AQ Ah
section
attribute [local irreducible] BG DY encS
variable (ar ar':List (List UInt8))(wr to nx wr' nx' loc:Int)(sd0 au0:List (List UInt8))(en0:List UInt8)(ac0 re0 rs0 ck0:Int)(od0:Bool)(sb0:List (List (List UInt8)))(su0 mc0:Int)(ix0:List (El Bf))(l10 l20 l30 l40 l50 l60:Int)(ks0:List (El E8))(st0 sp0:Bool)(rb0:List (List (List UInt8)))(ru0 vc0:Int)(sf0:Bool)(dr0:Int)(ss0:List (El sesT))(ob0:List (El objT))(rl0 wl0:List Int)(sd au:List (List UInt8))(en:List UInt8)(ac re rs ck:Int)(od:Bool)(sb:List (List (List UInt8)))(su mc:Int)(ix:List (El Bf))(l1 l2 l3 l4 l5 l6:Int)(ks:List (El E8))(st sp:Bool)(rb:List (List (List UInt8)))(ru vc:Int)(sf:Bool)(dr:Int)(ss:List (El sesT))(ob:List (El objT))(rl wl:List Int)(p0 p1:List UInt8)(c:Int)(hs:List Int)(az:List (El AB))(qi:List Int)(qb:List (List UInt8))(b:List UInt8)
structure rqG (c nb:Int) (hs:List Int) (az:List (El AB)) (is:List Int) (bs:List (List UInt8)):Prop where
 sh:Y E0 (.call 128 [.i c] [])=some (.ret (.tup [.i (hs.length:Int),.i (az.length:Int),.i (is.length:Int),.i nb,.b true]) [])
 ct:Y E0 (.call 133 [.i (bs.length:Int),.i nb] [])=some (.ret (.b true) [])
 rs:Y E0 (.call 49 [.i c] [])=some (.ret (.tup [.agg [.i (hs.length:Int),.i (az.length:Int),.i (is.length:Int),.i nb],.b true]) [])
 rc:Y E0 (.call 50 [.i nb,.i (bs.length:Int)] [])=some (.ret (.b true) [])
 cb:0<=c/\c<=255
 hl:hs.length<=10
 al:az.length<=10
 il:is.length<=10
 bl:bs.length<=10
 hm:∀ x∈hs,0<=x/\x<=65535
 am:∀ x∈az,((0:Int)<=x.1/\(x.1:Int)<=65535)/\x.2.1.length<=128/\x.2.2.length<=128
 im:∀ x∈is,0<=x/\x<=1099511627776
 bm:∀ x∈bs,x.length<=1024
 ln:(IY c hs az is bs).length<=2048
structure rpG (e:Int) (is:List Int) (bs ns:List (List UInt8)):Prop where
 er:e=0\/(0<e/\e<=255)/\is=[]/\bs=[]/\ns=[]
 il:is.length<=10
 bl:bs.length<=10
 nl:ns.length<=10
 im:∀ x∈is,0<=x/\x<9223372036854775808
 bm:∀ x∈bs,x.length<=1024
 nm:∀ x∈ns,x.length<=1024
theorem Nb(e0:Y E0 (.call 62 [.agg (VW sd0 au0 en0 ac0 re0 rs0 ck0 od0 sb0 su0 mc0 ix0 l10 l20 l30 l40 l50 l60 ks0)] [])=some (.ret (.sl .u8 p0) []))(e1:Y E0 (.call 62 [.agg (VW sd au en ac re rs ck od sb su mc ix l1 l2 l3 l4 l5 l6 ks)] [])=some (.ret (.sl .u8 p0) [])):Y E0 (.call 43 [Jv ar wr 0 to false sd0 au0 en0 ac0 re0 rs0 ck0 od0 sb0 su0 mc0 ix0 l10 l20 l30 l40 l50 l60 ks0 st0 sp0 rb0 ru0 vc0 sf0 dr0 ss0 ob0 rl0 wl0 true nx,(sX sd au en ac re rs ck od sb su mc ix l1 l2 l3 l4 l5 l6 ks st sp rb ru vc sf dr ss ob rl wl)] [])=some (.ret (.tup [Jv ar wr 0 to false sd au en ac re rs ck od sb su mc ix l1 l2 l3 l4 l5 l6 ks st sp rb ru vc sf dr ss ob rl wl true nx,.i 0]) []):=by
 refine tq ?_
 rw[e1]
 refine tq ?_
 rw[e0]
 exact tq rfl
theorem Zh(e0:Y E0 (.call 62 [.agg (VW sd0 au0 en0 ac0 re0 rs0 ck0 od0 sb0 su0 mc0 ix0 l10 l20 l30 l40 l50 l60 ks0)] [])=some (.ret (.sl .u8 p0) []))(e1:Y E0 (.call 62 [.agg (VW sd au en ac re rs ck od sb su mc ix l1 l2 l3 l4 l5 l6 ks)] [])=some (.ret (.sl .u8 p1) []))(he:p1≠p0)(l0:p0.length<=50000)(l1':p1.length<=50000)(hl:2<=ar.length/\ar.length<=1000)(hw:0<=wr/\wr<=900000)(hn:1<=nx/\nx<=900000):Y E0 (.call 43 [Jv ar wr 0 to false sd0 au0 en0 ac0 re0 rs0 ck0 od0 sb0 su0 mc0 ix0 l10 l20 l30 l40 l50 l60 ks0 st0 sp0 rb0 ru0 vc0 sf0 dr0 ss0 ob0 rl0 wl0 true nx,(sX sd au en ac re rs ck od sb su mc ix l1 l2 l3 l4 l5 l6 ks st sp rb ru vc sf dr ss ob rl wl)] [])=some (.ret (.tup [Jv (BB ar (nx%2) (Sz nx p1)) (wr+1) 0 to false sd au en ac re rs ck od sb su mc ix l1 l2 l3 l4 l5 l6 ks st sp rb ru vc sf dr ss ob rl wl true (nx+1),.i 0]) []):=by
 have ec:=Yn ar wr to nx p1 hl.2 hl.1 zaa zaa zaa
 refine tq ?_
 rw[e1]
 refine tq ?_
 rw[e0]
 refine tq ?_
 rw[ec]
 exact tq rfl
theorem ZG(e0:Y E0 (.call 62 [.agg (VW sd0 au0 en0 ac0 re0 rs0 ck0 od0 sb0 su0 mc0 ix0 l10 l20 l30 l40 l50 l60 ks0)] [])=some (.ret (.sl .u8 p0) []))(e1:Y E0 (.call 62 [.agg (VW sd au en ac re rs ck od sb su mc ix l1 l2 l3 l4 l5 l6 ks)] [])=some (.ret (.sl .u8 p1) []))(l0:p0.length<=50000)(l1':p1.length<=50000)(har:PK ar (nx-1) p0)(hw:0<=wr/\wr<=nx)(hn:nx<=800000):∃ ar' wr' nx',PK ar' (nx'-1) p1/\0<=wr'/\wr'<=nx'/\nx'<=nx+1/\(p1=p0->nx'=nx) /\
  Y E0 (.call 43 [Jv ar wr 0 to false sd0 au0 en0 ac0 re0 rs0 ck0 od0 sb0 su0 mc0 ix0 l10 l20 l30 l40 l50 l60 ks0 st0 sp0 rb0 ru0 vc0 sf0 dr0 ss0 ob0 rl0 wl0 true nx,(sX sd au en ac re rs ck od sb su mc ix l1 l2 l3 l4 l5 l6 ks st sp rb ru vc sf dr ss ob rl wl)] [])=some (.ret (.tup [Jv ar' wr' 0 to false sd au en ac re rs ck od sb su mc ix l1 l2 l3 l4 l5 l6 ks st sp rb ru vc sf dr ss ob rl wl true nx',.i 0]) []):=by
 have hq:1<=nx-1:=har.2.1
 by_cases he:p1=p0
 ·subst he
  exact⟨ar,wr,nx,har,hw.1,hw.2,by omega,fun _=>rfl,Nb ar wr to nx sd0 au0 en0 ac0 re0 rs0 ck0 od0 sb0 su0 mc0 ix0 l10 l20 l30 l40 l50 l60 ks0 st0 sp0 rb0 ru0 vc0 sf0 dr0 ss0 ob0 rl0 wl0 sd au en ac re rs ck od sb su mc ix l1 l2 l3 l4 l5 l6 ks st sp rb ru vc sf dr ss ob rl wl p1 e0 e1⟩
 ·refine⟨_,wr+1,nx+1,?_,by omega,by omega,by omega,fun h=>absurd h he,Zh ar wr to nx sd0 au0 en0 ac0 re0 rs0 ck0 od0 sb0 su0 mc0 ix0 l10 l20 l30 l40 l50 l60 ks0 st0 sp0 rb0 ru0 vc0 sf0 dr0 ss0 ob0 rl0 wl0 sd au en ac re rs ck od sb su mc ix l1 l2 l3 l4 l5 l6 ks st sp rb ru vc sf dr ss ob rl wl p0 p1 e0 e1 he l0 l1' ⟨by rw[har.1];decide,by rw[har.1];decide⟩ zaa zaa⟩
  have h:=A0h (p':=p1) har zaa (Nat.le_trans l1' zaj)
  rw[show nx-1+1=nx from by omega] at h
  rw[show nx+1-1=nx from by omega]
  exact h
theorem jF(loc c:Int)(hs:List Int)(az:List (El AB))(qi:List Int)(qb:List (List UInt8))(e:Int)(b:List UInt8)(is:List Int)(bs ns:List (List UInt8))(hd:Y E0 (.call 85 [.sl .u8 b] [])=some (.ret (.tup [rq c hs az qi qb,.i 0]) []))(hx:Y E0 (.call 87 [(sX sd0 au0 en0 ac0 re0 rs0 ck0 od0 sb0 su0 mc0 ix0 l10 l20 l30 l40 l50 l60 ks0 st0 sp0 rb0 ru0 vc0 sf0 dr0 ss0 ob0 rl0 wl0),.i loc,rq c hs az qi qb] [])=some (.ret (.tup [(sX sd au en ac re rs ck od sb su mc ix l1 l2 l3 l4 l5 l6 ks st sp rb ru vc sf dr ss ob rl wl),Hr e is bs ns]) []))(hr:Y E0 (.call 86 [Hr e is bs ns] [])=some (.ret (.sl .u8 (Ip e is bs ns)) [])):Y E0 (.call 42 [(sX sd0 au0 en0 ac0 re0 rs0 ck0 od0 sb0 su0 mc0 ix0 l10 l20 l30 l40 l50 l60 ks0 st0 sp0 rb0 ru0 vc0 sf0 dr0 ss0 ob0 rl0 wl0),.i loc,.sl .u8 b] [])=some (.ret (.tup [(sX sd au en ac re rs ck od sb su mc ix l1 l2 l3 l4 l5 l6 ks st sp rb ru vc sf dr ss ob rl wl),.sl .u8 (Ip e is bs ns)]) []):=by
 refine tq ?_
 rw[hd]
 refine tq ?_
 rw[hx]
 refine tq ?_
 rw[hr]
 exact tq rfl
theorem Uf(r:List UInt8)(hrun:Y E0 (.call 42 [(sX sd0 au0 en0 ac0 re0 rs0 ck0 od0 sb0 su0 mc0 ix0 l10 l20 l30 l40 l50 l60 ks0 st0 sp0 rb0 ru0 vc0 sf0 dr0 ss0 ob0 rl0 wl0),.i loc,.sl .u8 b] [])=some (.ret (.tup [(sX sd au en ac re rs ck od sb su mc ix l1 l2 l3 l4 l5 l6 ks st sp rb ru vc sf dr ss ob rl wl),.sl .u8 r]) []))(hc:Y E0 (.call 43 [Jv ar wr 0 to false sd0 au0 en0 ac0 re0 rs0 ck0 od0 sb0 su0 mc0 ix0 l10 l20 l30 l40 l50 l60 ks0 st0 sp0 rb0 ru0 vc0 sf0 dr0 ss0 ob0 rl0 wl0 true nx,(sX sd au en ac re rs ck od sb su mc ix l1 l2 l3 l4 l5 l6 ks st sp rb ru vc sf dr ss ob rl wl)] [])=some (.ret (.tup [Jv ar' wr' 0 to false sd au en ac re rs ck od sb su mc ix l1 l2 l3 l4 l5 l6 ks st sp rb ru vc sf dr ss ob rl wl true nx',.i 0]) [])):Y E0 (.call 9 [Jv ar wr 0 to false sd0 au0 en0 ac0 re0 rs0 ck0 od0 sb0 su0 mc0 ix0 l10 l20 l30 l40 l50 l60 ks0 st0 sp0 rb0 ru0 vc0 sf0 dr0 ss0 ob0 rl0 wl0 true nx,.i loc,.sl .u8 b] [])=some (.ret (.tup [Jv ar' wr' 0 to false sd au en ac re rs ck od sb su mc ix l1 l2 l3 l4 l5 l6 ks st sp rb ru vc sf dr ss ob rl wl true nx',.sl .u8 r,.i 0]) []):=by
 refine tq ?_
 rw[ZA ..]
 refine tq ?_
 rw[hrun]
 refine tq ?_
 rw[hc]
 exact tq rfl
theorem yh(r:List UInt8)(e:Int)(is:List Int)(bs ns:List (List UInt8))(he:Y E0 (.call 7 [rq c hs az qi qb] [])=some (.ret (.tup [.nm 0,.i 0]) [some (.row 5 .u8 b)]))(hsn:Y E0 (.call 9 [Jv ar wr 0 to false sd0 au0 en0 ac0 re0 rs0 ck0 od0 sb0 su0 mc0 ix0 l10 l20 l30 l40 l50 l60 ks0 st0 sp0 rb0 ru0 vc0 sf0 dr0 ss0 ob0 rl0 wl0 true nx,.i loc,.sl .u8 b] [])=some (.ret (.tup [Jv ar' wr' 0 to false sd au en ac re rs ck od sb su mc ix l1 l2 l3 l4 l5 l6 ks st sp rb ru vc sf dr ss ob rl wl true nx',.sl .u8 r,.i 0]) []))(hd:Y E0 (.call 10 [.sl .u8 r] [])=some (.ret (.tup [Hr e is bs ns,.i 0]) [])):
  Y E0 (.call 57 [Jv ar wr 0 to false sd0 au0 en0 ac0 re0 rs0 ck0 od0 sb0 su0 mc0 ix0 l10 l20 l30 l40 l50 l60 ks0 st0 sp0 rb0 ru0 vc0 sf0 dr0 ss0 ob0 rl0 wl0 true nx,.i loc,rq c hs az qi qb] [])=some (.ret (.tup [Jv ar' wr' 0 to false sd au en ac re rs ck od sb su mc ix l1 l2 l3 l4 l5 l6 ks st sp rb ru vc sf dr ss ob rl wl true nx',Hr e is bs ns,.b true]) []):=by
 refine tq ?_
 rw[he]
 refine tq ?_
 rw[hsn]
 refine tq ?_
 rw[hd]
 conv=>lhs;whnf
 try dsimp -iota -beta -eta -zeta only
 rw[Dz zaa]
 conv=>lhs;whnf
 try dsimp -iota -beta -eta -zeta only
 rw[drw zaw];conv=>lhs;whnf
 try dsimp -iota -beta -eta -zeta only
 exact zas
theorem XK{e:Int}{is:List Int}{bs ns:List (List UInt8)}(hp:rpG e is bs ns):Y E0 (.call 86 [Hr e is bs ns] [])=some (.ret (.sl .u8 (Ip e is bs ns)) [])/\Y E0 (.call 10 [.sl .u8 (Ip e is bs ns)] [])=some (.ret (.tup [Hr e is bs ns,.i 0]) []):=by
 constructor
 ·rcases hp.er with rfl|⟨h,rfl,rfl,rfl⟩
  ·exact AAP is bs ns hp.il hp.bl hp.nl hp.bm hp.nm
  ·exact A52 e [] [] [] zaa
 ·rcases hp.er with rfl|⟨h,rfl,rfl,rfl⟩
  ·exact AC1 is bs ns hp.il hp.bl hp.nl hp.im hp.bm hp.nm
  ·exact AAR e [] [] [] h
theorem AC4(e0:Y E0 (.call 62 [.agg (VW sd0 au0 en0 ac0 re0 rs0 ck0 od0 sb0 su0 mc0 ix0 l10 l20 l30 l40 l50 l60 ks0)] [])=some (.ret (.sl .u8 p0) []))(e1:Y E0 (.call 62 [.agg (VW sd au en ac re rs ck od sb su mc ix l1 l2 l3 l4 l5 l6 ks)] [])=some (.ret (.sl .u8 p1) []))(l0:p0.length<=50000)(l1':p1.length<=50000)(c nb:Int)(hs:List Int)(az:List (El AB))(qi:List Int)(qb:List (List UInt8))(e:Int)(is:List Int)(bs ns:List (List UInt8))(hq:rqG c nb hs az qi qb)(hp:rpG e is bs ns)(har:PK ar (nx-1) p0)(hw:0<=wr/\wr<=nx)(hn:nx<=800000)(hx:Y E0 (.call 87 [(sX sd0 au0 en0 ac0 re0 rs0 ck0 od0 sb0 su0 mc0 ix0 l10 l20 l30 l40 l50 l60 ks0 st0 sp0 rb0 ru0 vc0 sf0 dr0 ss0 ob0 rl0 wl0),.i loc,rq c hs az qi qb] [])=some (.ret (.tup [(sX sd au en ac re rs ck od sb su mc ix l1 l2 l3 l4 l5 l6 ks st sp rb ru vc sf dr ss ob rl wl),Hr e is bs ns]) [])):
  ∃ ar' wr' nx',PK ar' (nx'-1) p1/\0<=wr'/\wr'<=nx'/\nx'<=nx+1/\(p1=p0->nx'=nx)/\Y E0 (.call 57 [Jv ar wr 0 to false sd0 au0 en0 ac0 re0 rs0 ck0 od0 sb0 su0 mc0 ix0 l10 l20 l30 l40 l50 l60 ks0 st0 sp0 rb0 ru0 vc0 sf0 dr0 ss0 ob0 rl0 wl0 true nx,.i loc,rq c hs az qi qb] [])=some (.ret (.tup [Jv ar' wr' 0 to false sd au en ac re rs ck od sb su mc ix l1 l2 l3 l4 l5 l6 ks st sp rb ru vc sf dr ss ob rl wl true nx',Hr e is bs ns,.b true]) []):=by
 obtain⟨ar',wr',nx',k1,k2,k3,k4,k5,hc⟩:=ZG ar wr to nx sd0 au0 en0 ac0 re0 rs0 ck0 od0 sb0 su0 mc0 ix0 l10 l20 l30 l40 l50 l60 ks0 st0 sp0 rb0 ru0 vc0 sf0 dr0 ss0 ob0 rl0 wl0 sd au en ac re rs ck od sb su mc ix l1 l2 l3 l4 l5 l6 ks st sp rb ru vc sf dr ss ob rl wl p0 p1 e0 e1 l0 l1' har hw hn
 refine⟨ar',wr',nx',k1,k2,k3,k4,k5,?_⟩
 have hen:=yg c nb hs az qi qb hq.rs hq.rc hq.hl hq.al hq.il hq.bl hq.hm hq.am hq.im hq.bm hq.ln
 have hd:=oq c nb hs az qi qb hq.cb hq.sh hq.ct hq.hl hq.al hq.il hq.bl hq.hm hq.am hq.im hq.bm hq.ln
 have hr:=XK hp
 have hrun:=jF sd0 au0 en0 ac0 re0 rs0 ck0 od0 sb0 su0 mc0 ix0 l10 l20 l30 l40 l50 l60 ks0 st0 sp0 rb0 ru0 vc0 sf0 dr0 ss0 ob0 rl0 wl0 sd au en ac re rs ck od sb su mc ix l1 l2 l3 l4 l5 l6 ks st sp rb ru vc sf dr ss ob rl wl loc c hs az qi qb e (IY c hs az qi qb) is bs ns hd hx hr.1
 have hsn:=Uf ar ar' wr to nx wr' nx' loc sd0 au0 en0 ac0 re0 rs0 ck0 od0 sb0 su0 mc0 ix0 l10 l20 l30 l40 l50 l60 ks0 st0 sp0 rb0 ru0 vc0 sf0 dr0 ss0 ob0 rl0 wl0 sd au en ac re rs ck od sb su mc ix l1 l2 l3 l4 l5 l6 ks st sp rb ru vc sf dr ss ob rl wl (IY c hs az qi qb) (Ip e is bs ns) hrun hc
 exact yh ar ar' wr to nx wr' nx' loc sd0 au0 en0 ac0 re0 rs0 ck0 od0 sb0 su0 mc0 ix0 l10 l20 l30 l40 l50 l60 ks0 st0 sp0 rb0 ru0 vc0 sf0 dr0 ss0 ob0 rl0 wl0 sd au en ac re rs ck od sb su mc ix l1 l2 l3 l4 l5 l6 ks st sp rb ru vc sf dr ss ob rl wl c hs az qi qb (IY c hs az qi qb) (Ip e is bs ns) e is bs ns hen hsn hr.2
theorem AC5(e0:Y E0 (.call 62 [.agg (VW sd0 au0 en0 ac0 re0 rs0 ck0 od0 sb0 su0 mc0 ix0 l10 l20 l30 l40 l50 l60 ks0)] [])=some (.ret (.sl .u8 p0) []))(e1:Y E0 (.call 62 [.agg (VW sd au en ac re rs ck od sb su mc ix l1 l2 l3 l4 l5 l6 ks)] [])=some (.ret (.sl .u8 p0) []))(c nb:Int)(hs:List Int)(az:List (El AB))(qi:List Int)(qb:List (List UInt8))(e:Int)(is:List Int)(bs ns:List (List UInt8))(hq:rqG c nb hs az qi qb)(hp:rpG e is bs ns)(hx:Y E0 (.call 87 [(sX sd0 au0 en0 ac0 re0 rs0 ck0 od0 sb0 su0 mc0 ix0 l10 l20 l30 l40 l50 l60 ks0 st0 sp0 rb0 ru0 vc0 sf0 dr0 ss0 ob0 rl0 wl0),.i loc,rq c hs az qi qb] [])=some (.ret (.tup [(sX sd au en ac re rs ck od sb su mc ix l1 l2 l3 l4 l5 l6 ks st sp rb ru vc sf dr ss ob rl wl),Hr e is bs ns]) [])):
  Y E0 (.call 57 [Jv ar wr 0 to false sd0 au0 en0 ac0 re0 rs0 ck0 od0 sb0 su0 mc0 ix0 l10 l20 l30 l40 l50 l60 ks0 st0 sp0 rb0 ru0 vc0 sf0 dr0 ss0 ob0 rl0 wl0 true nx,.i loc,rq c hs az qi qb] [])=some (.ret (.tup [Jv ar wr 0 to false sd au en ac re rs ck od sb su mc ix l1 l2 l3 l4 l5 l6 ks st sp rb ru vc sf dr ss ob rl wl true nx,Hr e is bs ns,.b true]) []):=by
 have hen:=yg c nb hs az qi qb hq.rs hq.rc hq.hl hq.al hq.il hq.bl hq.hm hq.am hq.im hq.bm hq.ln
 have hd:=oq c nb hs az qi qb hq.cb hq.sh hq.ct hq.hl hq.al hq.il hq.bl hq.hm hq.am hq.im hq.bm hq.ln
 have hr:=XK hp
 exact yh ar ar wr to nx wr nx loc sd0 au0 en0 ac0 re0 rs0 ck0 od0 sb0 su0 mc0 ix0 l10 l20 l30 l40 l50 l60 ks0 st0 sp0 rb0 ru0 vc0 sf0 dr0 ss0 ob0 rl0 wl0 sd au en ac re rs ck od sb su mc ix l1 l2 l3 l4 l5 l6 ks st sp rb ru vc sf dr ss ob rl wl c hs az qi qb (IY c hs az qi qb) (Ip e is bs ns) e is bs ns hen (Uf ar ar wr to nx wr nx loc sd0 au0 en0 ac0 re0 rs0 ck0 od0 sb0 su0 mc0 ix0 l10 l20 l30 l40 l50 l60 ks0 st0 sp0 rb0 ru0 vc0 sf0 dr0 ss0 ob0 rl0 wl0 sd au en ac re rs ck od sb su mc ix l1 l2 l3 l4 l5 l6 ks st sp rb ru vc sf dr ss ob rl wl (IY c hs az qi qb) (Ip e is bs ns) (jF sd0 au0 en0 ac0 re0 rs0 ck0 od0 sb0 su0 mc0 ix0 l10 l20 l30 l40 l50 l60 ks0 st0 sp0 rb0 ru0 vc0 sf0 dr0 ss0 ob0 rl0 wl0 sd au en ac re rs ck od sb su mc ix l1 l2 l3 l4 l5 l6 ks st sp rb ru vc sf dr ss ob rl wl loc c hs az qi qb e (IY c hs az qi qb) is bs ns hd hx hr.1) (Nb ar wr to nx sd0 au0 en0 ac0 re0 rs0 ck0 od0 sb0 su0 mc0 ix0 l10 l20 l30 l40 l50 l60 ks0 st0 sp0 rb0 ru0 vc0 sf0 dr0 ss0 ob0 rl0 wl0 sd au en ac re rs ck od sb su mc ix l1 l2 l3 l4 l5 l6 ks st sp rb ru vc sf dr ss ob rl wl p0 e0 e1)) hr.2
theorem A57(e n m:Int)(is:List Int)(bs ns:List (List UInt8))(ha:Y E0 (.call 57 [Jv ar wr 0 to false sd0 au0 en0 ac0 re0 rs0 ck0 od0 sb0 su0 mc0 ix0 l10 l20 l30 l40 l50 l60 ks0 st0 sp0 rb0 ru0 vc0 sf0 dr0 ss0 ob0 rl0 wl0 true nx,.i loc,rq c hs az qi qb] [])=some (.ret (.tup [Jv ar' wr' 0 to false sd au en ac re rs ck od sb su mc ix l1 l2 l3 l4 l5 l6 ks st sp rb ru vc sf dr ss ob rl wl true nx',Hr e is bs ns,.b true]) []))(hl:is.length<=10/\bs.length<=10)(he:e=0)(hn:(is.length:Int)=n)(hm:(bs.length:Int)=m):
  Y E0 (.call 15 [Jv ar wr 0 to false sd0 au0 en0 ac0 re0 rs0 ck0 od0 sb0 su0 mc0 ix0 l10 l20 l30 l40 l50 l60 ks0 st0 sp0 rb0 ru0 vc0 sf0 dr0 ss0 ob0 rl0 wl0 true nx,.i loc,rq c hs az qi qb,.i n,.i m] [])=some (.ret (.tup [Jv ar' wr' 0 to false sd au en ac re rs ck od sb su mc ix l1 l2 l3 l4 l5 l6 ks st sp rb ru vc sf dr ss ob rl wl true nx',Hr e is bs ns,.b true]) []):=by
 refine tq ?_
 rw[ha]
 conv=>lhs;whnf
 try dsimp -iota -beta -eta -zeta only
 rw[Dz zaa]
 conv=>lhs;whnf
 rw[Dz zaI]
 conv=>lhs;whnf
 try dsimp -iota -beta -eta -zeta only
 rw[drw zaw];conv=>lhs;whnf
 try dsimp -iota -beta -eta -zeta only
 exact zas
theorem ZH(nb:Int)(hs:List Int)(az:List (El AB))(qi:List Int)(qb:List (List UInt8))(e:Int)(is:List Int)(bs ns:List (List UInt8))(hq:rqG c nb hs az qi qb)(hp:rpG e is bs ns)(h0:stOK sd0 au0 en0 ac0 re0 rs0 ck0 su0 mc0 ix0 l10 l20 l30 l40 l50 l60 ks0)(h1:stOK sd au en ac re rs ck su mc ix l1 l2 l3 l4 l5 l6 ks)(har:PK ar (nx-1) (encS sd0 au0 en0 ac0 re0 rs0 ck0 od0 [] su0 mc0 ix0 l10 l20 l30 l40 l50 l60 ks0))(hw:0<=wr/\wr<=nx)(hn:nx<=800000)(hx:Y E0 (.call 87 [(sX sd0 au0 en0 ac0 re0 rs0 ck0 od0 [] su0 mc0 ix0 l10 l20 l30 l40 l50 l60 ks0 st0 sp0 rb0 ru0 vc0 sf0 dr0 ss0 ob0 rl0 wl0),.i loc,rq c hs az qi qb] [])=some (.ret (.tup [(sX sd au en ac re rs ck od [] su mc ix l1 l2 l3 l4 l5 l6 ks st sp rb ru vc sf dr ss ob rl wl),Hr e is bs ns]) [])):
  ∃ ar' wr' nx',PK ar' (nx'-1) (encS sd au en ac re rs ck od [] su mc ix l1 l2 l3 l4 l5 l6 ks)/\0<=wr'/\wr'<=nx'/\nx'<=nx+1/\(encS sd au en ac re rs ck od [] su mc ix l1 l2 l3 l4 l5 l6 ks=encS sd0 au0 en0 ac0 re0 rs0 ck0 od0 [] su0 mc0 ix0 l10 l20 l30 l40 l50 l60 ks0->nx'=nx)/\Y E0 (.call 57 [Jv ar wr 0 to false sd0 au0 en0 ac0 re0 rs0 ck0 od0 [] su0 mc0 ix0 l10 l20 l30 l40 l50 l60 ks0 st0 sp0 rb0 ru0 vc0 sf0 dr0 ss0 ob0 rl0 wl0 true nx,.i loc,rq c hs az qi qb] [])=some (.ret (.tup [Jv ar' wr' 0 to false sd au en ac re rs ck od [] su mc ix l1 l2 l3 l4 l5 l6 ks st sp rb ru vc sf dr ss ob rl wl true nx',Hr e is bs ns,.b true]) []) :=
 AC4 ar wr to nx loc sd0 au0 en0 ac0 re0 rs0 ck0 od0 [] su0 mc0 ix0 l10 l20 l30 l40 l50 l60 ks0 st0 sp0 rb0 ru0 vc0 sf0 dr0 ss0 ob0 rl0 wl0 sd au en ac re rs ck od [] su mc ix l1 l2 l3 l4 l5 l6 ks st sp rb ru vc sf dr ss ob rl wl _ _ (UR sd0 au0 en0 ac0 re0 rs0 ck0 od0 su0 mc0 ix0 l10 l20 l30 l40 l50 l60 ks0 h0.sl h0.al h0.sm h0.am h0.en h0.il h0.im h0.kl h0.km) (UR sd au en ac re rs ck od su mc ix l1 l2 l3 l4 l5 l6 ks h1.sl h1.al h1.sm h1.am h1.en h1.il h1.im h1.kl h1.km) (Nat.le_trans (O9 sd0 au0 en0 ac0 re0 rs0 ck0 od0 su0 mc0 ix0 l10 l20 l30 l40 l50 l60 ks0 h0) zaj) (Nat.le_trans (O9 sd au en ac re rs ck od su mc ix l1 l2 l3 l4 l5 l6 ks h1) zaj) c nb hs az qi qb e is bs ns hq hp har hw hn hx
end
section
variable (sd au:List (List UInt8))(en:List UInt8)(ac re rs ck:Int)(od:Bool)(su mc:Int)(ix:List (El Bf))(l1 l2 l3 l4 l5 l6:Int)(ks:List (El E8))(st sp:Bool)(rb:List (List (List UInt8)))(ru vc:Int)(sf:Bool)(dr:Int)(ss:List (El sesT))(ob:List (El objT))(rl wl:List Int)
theorem Nc{c nb:Int}{hs:List Int}{az:List (El AB)}{is:List Int}{bs:List (List UInt8)}(h:rqG c nb hs az is bs):Y E0 (.call 135 [rq c hs az is bs] [])=some (.ret (.i 0) []) :=
 A13 c nb hs az is bs h.sh h.ct h.hl h.al h.il h.bl h.hm h.am h.im h.bm h.ln
theorem A95:rqG 1 0 [] [] [0] []:=by
 refine⟨A10,MZ 0,A54,OD 0,by decide,by decide,by decide,by decide,by decide,by simp,by simp,by simp,by simp,?_⟩
 simp only[IY,I4,List.length_append,Bh,List.flatMap_nil,List.flatMap_cons,List.length_nil,List.length_cons,BX]
 decide
theorem Qo(sd:List (List UInt8))(au:List (List UInt8))(en:List UInt8)(ac:Int)(re:Int)(rs:Int)(ck:Int)(od:Bool)(su:Int)(mc:Int)(ix:List (El Bf))(l1:Int)(l2:Int)(l3:Int)(l4:Int)(l5:Int)(l6:Int)(ks:List (El E8))(st:Bool)(sp:Bool)(rb:List (List (List UInt8)))(ru:Int)(vc:Int)(sf:Bool)(dr:Int)(ss:List (El sesT))(ob:List (El objT))(rl:List Int)(wl:List Int)(c:Int)(hs:List Int)(az:List (El AB))(is:List Int)(bs:List (List UInt8))(hl:hs.length<=10)(hn:∀ h∈hs,∃ x,Y E0 (.call 181 [(sX sd au en ac re rs ck od [] su mc ix l1 l2 l3 l4 l5 l6 ks st sp rb ru vc sf dr ss ob rl wl),.i h] [])=some (.ret (.tup [.sl .u8 x,.i 0]) [])):∀(k j:Nat),j+k=hs.length ->
  Y E0 (.loop 137 0 0 2 [(2,.pa 0 0),(3,.pa 1 0),(15,.sl .i64 hs),(16,.i (hs.length:Int)),(17,.i (j:Int))] [(0,some (.var (sC sd au en ac re rs ck od [] su mc ix l1 l2 l3 l4 l5 l6 ks st sp rb ru vc sf dr ss ob rl wl))),(1,some (.var [.i c,.sl .i64 hs,.sl AB az,.sl .i64 is,.sl (.sl .u8) bs]))])
   = some (.fin (.exit 0) 2 [(2,.pa 0 0),(3,.pa 1 0)] [(0,some (.var (sC sd au en ac re rs ck od [] su mc ix l1 l2 l3 l4 l5 l6 ks st sp rb ru vc sf dr ss ob rl wl))),(1,some (.var [.i c,.sl .i64 hs,.sl AB az,.sl .i64 is,.sl (.sl .u8) bs]))])
 | 0,j,hj=>by
  obtain rfl:j=hs.length:=zaa
  rw[AL];conv=>lhs;whnf
  refine tq ?_
  with_reducible rfl
 | k+1,j,hj=>by
  obtain⟨x,hm,hg⟩:=EO (l:=hs) (i:=(j:Int)) zaa
  obtain⟨nm,ho⟩:=hn x hm
  have ih:=Qo sd au en ac re rs ck od su mc ix l1 l2 l3 l4 l5 l6 ks st sp rb ru vc sf dr ss ob rl wl c hs az is bs hl hn k (j+1) zaa
  rw[show((j+1:Nat):Int)=(j:Int)+1 from by omega] at ih
  rw[AL];conv=>lhs;whnf
  refine to ?_
  rw[hg]
  refine tq ?_
  rw[ho]
  refine tq ?_
  exact ih
theorem LG(c:Int)(az:List (El AB))(is:List Int)(bs:List (List UInt8)):Y E0 (.call 137 [(sX sd au en ac re rs ck od [] su mc ix l1 l2 l3 l4 l5 l6 ks st sp rb ru vc sf dr ss ob rl wl),rq c [] az is bs] [])=some (.ret (.b true) []):=by
 have l0:=Qo sd au en ac re rs ck od su mc ix l1 l2 l3 l4 l5 l6 ks st sp rb ru vc sf dr ss ob rl wl c [] az is bs zat zat 0 0 rfl
 have e2:Ak ([]:List Int)=0:=zaV
 rw[show((List.length ([]:List Int):Nat):Int)=0 from rfl,show((0:Nat):Int)=0 from rfl] at l0
 refine tq ?_
 simp only[e2,Nat.reduceAdd];rw[l0]
 conv=>lhs;whnf
 rw[e2]
 exact tq rfl
theorem Eu(e:Int):Y E0 (.call 136 [(sX sd au en ac re rs ck od [] su mc ix l1 l2 l3 l4 l5 l6 ks st sp rb ru vc sf dr ss ob rl wl),.i e] [])=some (.ret (.tup [(sX sd au en ac re rs ck od [] su mc ix l1 l2 l3 l4 l5 l6 ks st sp rb ru vc sf dr ss ob rl wl),Hr e [] [] []]) []):=by
 refine tq ?_
 with_reducible rfl
theorem yj(sd0:List (List UInt8))(au0:List (List UInt8))(en0:List UInt8)(ac0:Int)(re0:Int)(rs0:Int)(ck0:Int)(od0:Bool)(su0:Int)(mc0:Int)(ix0:List (El Bf))(l10:Int)(l20:Int)(l30:Int)(l40:Int)(l50:Int)(l60:Int)(ks0:List (El E8))(st0:Bool)(sp0:Bool)(rb0:List (List (List UInt8)))(ru0:Int)(vc0:Int)(sf0:Bool)(dr0:Int)(ss0:List (El sesT))(ob0:List (El objT))(rl0:List Int)(wl0:List Int)(sd:List (List UInt8))(au:List (List UInt8))(en:List UInt8)(ac:Int)(re:Int)(rs:Int)(ck:Int)(od:Bool)(su:Int)(mc:Int)(ix:List (El Bf))(l1:Int)(l2:Int)(l3:Int)(l4:Int)(l5:Int)(l6:Int)(ks:List (El E8))(st:Bool)(sp:Bool)(rb:List (List (List UInt8)))(ru:Int)(vc:Int)(sf:Bool)(dr:Int)(ss:List (El sesT))(ob:List (El objT))(rl:List Int)(wl:List Int):Y E0 (.call 185 [(sX sd0 au0 en0 ac0 re0 rs0 ck0 od0 [] su0 mc0 ix0 l10 l20 l30 l40 l50 l60 ks0 st0 sp0 rb0 ru0 vc0 sf0 dr0 ss0 ob0 rl0 wl0),(sX sd au en ac re rs ck od [] su mc ix l1 l2 l3 l4 l5 l6 ks st sp rb ru vc sf dr ss ob rl wl),.i 0] [])=some (.ret (.tup [(sX sd au en ac re rs ck od [] su mc ix l1 l2 l3 l4 l5 l6 ks st sp rb ru vc sf dr ss ob rl wl),Hr 0 [] [] []]) []):=by
 refine tq ?_
 with_reducible rfl
theorem A7n(h:st=false/\sp=false)(ha:ac=2)(hre:0<=re/\re<=1000000):Y E0 (.call 138 [(sX sd au en ac re rs ck od [] su mc ix l1 l2 l3 l4 l5 l6 ks st sp rb ru vc sf dr ss ob rl wl),.i 0,rq 1 [] [] [0] []] [])=some (.ret (.tup [(sX sd au en ac (re+1) 0 ck false [] 0 mc ix l1 l2 l3 l4 l5 l6 ks true sp (EI 2) 0 ck od dr ss ob rl wl),Hr 0 [] [] []]) []):=by
 have ha:=A0z sd au en ac re rs ck od [] su mc ix l1 l2 l3 l4 l5 l6 ks st sp rb ru vc sf dr ss ob rl wl h ha hre
 refine tq ?_
 rw[ha]
 refine tq ?_
 rw[yj ..]
 exact tq rfl
theorem A7o(h:st=false/\sp=false)(ha:ac=2)(hre:0<=re/\re<=1000000):Y E0 (.call 87 [(sX sd au en ac re rs ck od [] su mc ix l1 l2 l3 l4 l5 l6 ks st sp rb ru vc sf dr ss ob rl wl),.i 0,rq 1 [] [] [0] []] [])=some (.ret (.tup [(sX sd au en ac (re+1) 0 ck false [] 0 mc ix l1 l2 l3 l4 l5 l6 ks true sp (EI 2) 0 ck od dr ss ob rl wl),Hr 0 [] [] []]) []):=by
 have hk:=Nc A95
 have ha:=A7n sd au en ac re rs ck od su mc ix l1 l2 l3 l4 l5 l6 ks st sp rb ru vc sf dr ss ob rl wl h ha hre
 refine tq ?_
 rw[hk]
 refine tq ?_
 rw[LG ..]
 refine tq ?_
 rw[ha]
 exact tq rfl
theorem Qp(ar ar':List (List UInt8))(wr to nx wr' nx' loc:Int)(sd0:List (List UInt8))(au0:List (List UInt8))(en0:List UInt8)(ac0:Int)(re0:Int)(rs0:Int)(ck0:Int)(od0:Bool)(su0:Int)(mc0:Int)(ix0:List (El Bf))(l10:Int)(l20:Int)(l30:Int)(l40:Int)(l50:Int)(l60:Int)(ks0:List (El E8))(st0:Bool)(sp0:Bool)(rb0:List (List (List UInt8)))(ru0:Int)(vc0:Int)(sf0:Bool)(dr0:Int)(ss0:List (El sesT))(ob0:List (El objT))(rl0:List Int)(wl0:List Int)(sd:List (List UInt8))(au:List (List UInt8))(en:List UInt8)(ac:Int)(re:Int)(rs:Int)(ck:Int)(od:Bool)(su:Int)(mc:Int)(ix:List (El Bf))(l1:Int)(l2:Int)(l3:Int)(l4:Int)(l5:Int)(l6:Int)(ks:List (El E8))(st:Bool)(sp:Bool)(rb:List (List (List UInt8)))(ru:Int)(vc:Int)(sf:Bool)(dr:Int)(ss:List (El sesT))(ob:List (El objT))(rl:List Int)(wl:List Int)(c:Int)(hs:List Int)(az:List (El AB))(qi:List Int)(qb:List (List UInt8))(e n m:Int)(is:List Int)(bs ns:List (List UInt8))(ha:Y E0 (.call 57 [Jv ar wr 0 to false sd0 au0 en0 ac0 re0 rs0 ck0 od0 [] su0 mc0 ix0 l10 l20 l30 l40 l50 l60 ks0 st0 sp0 rb0 ru0 vc0 sf0 dr0 ss0 ob0 rl0 wl0 true nx,.i loc,rq c hs az qi qb] [])=some (.ret (.tup [Jv ar' wr' 0 to false sd au en ac re rs ck od [] su mc ix l1 l2 l3 l4 l5 l6 ks st sp rb ru vc sf dr ss ob rl wl true nx',Hr e is bs ns,.b true]) []))(hl:is.length<=10/\bs.length<=10)(he:e=0)(hn:(is.length:Int)=n)(hm:(bs.length:Int)=m):
  Y E0 (.call 15 [Jv ar wr 0 to false sd0 au0 en0 ac0 re0 rs0 ck0 od0 [] su0 mc0 ix0 l10 l20 l30 l40 l50 l60 ks0 st0 sp0 rb0 ru0 vc0 sf0 dr0 ss0 ob0 rl0 wl0 true nx,.i loc,rq c hs az qi qb,.i n,.i m] [])=some (.ret (.tup [Jv ar' wr' 0 to false sd au en ac re rs ck od [] su mc ix l1 l2 l3 l4 l5 l6 ks st sp rb ru vc sf dr ss ob rl wl true nx',Hr e is bs ns,.b true]) []) :=
 A57 ar ar' wr to nx wr' nx' loc sd0 au0 en0 ac0 re0 rs0 ck0 od0 [] su0 mc0 ix0 l10 l20 l30 l40 l50 l60 ks0 st0 sp0 rb0 ru0 vc0 sf0 dr0 ss0 ob0 rl0 wl0 sd au en ac re rs ck od [] su mc ix l1 l2 l3 l4 l5 l6 ks st sp rb ru vc sf dr ss ob rl wl c hs az qi qb e n m is bs ns ha hl he hn hm
theorem ve:Y E0 (.call 65 [.i 0] [])=some (.ret (rq 1 [] [] [0] []) []):=by
 refine tq ?_
 with_reducible rfl
theorem A7p(he:en.length=32)(p:List UInt8)(hp:encS (Ad en) [[],[],[],[]] (BG en BN [] 32) 2 0 0 0 true [] 0 0 [] 0 5 100 0 0 1000 []=p)(hok:stOK (Ad en) [[],[],[],[]] (BG en BN [] 32) 2 0 0 0 0 0 [] 0 5 100 0 0 1000 []):Y E0 (.call 21 [.i 4,.sl .u8 en,.i 2] [])=some (.ret (.tup [dv0 (BB [[],[],[],[]] 1 (Sz 1 p)) 1 0 0 true false 2,.i 0]) []):=by
 have hn:=A7e en 2 he zaj
 have hl:=O9 _ _ _ _ _ _ _ true _ _ _ _ _ _ _ _ _ _ hok
 have e1:=UR (Ad en) [[],[],[],[]] (BG en BN [] 32) 2 0 0 0 true 0 0 [] 0 5 100 0 0 1000 [] hok.sl hok.al hok.sm hok.am hok.en hok.il hok.im hok.kl hok.km
 rw[hp] at e1 hl
 have ec:=Yn [[],[],[],[]] 0 0 1 p zaj zaj zaj zaa zaj
 rw[show(1:Int)%2=1 from rfl,show(0+1:Int)=1 from rfl] at ec
 refine tq ?_
 rw[hn]
 refine tq ?_
 rw[A7S]
 refine tq ?_
 rw[e1]
 refine tq ?_
 rw[ec]
 refine tq ?_
 rw[yV ..]
 exact tq rfl
theorem A7q(p:List UInt8)(hp:p.length<=60000):PK (BB [[],[],[],[]] 1 (Sz 1 p)) 1 p:=by
 rw[EL]
 exact⟨rfl,by decide,by decide,hp,rfl,.inl rfl⟩
end
@[reducible] def noSs:List (El sesT):=List.replicate 3 (0,[],[],0,0,0,0,false)
@[reducible] def noOb:List (El objT):=List.replicate 3 ((0,0,0,[],[]),([],[],[]),0)
theorem vg(ar ar':List (List UInt8))(wr wr' cu to to' nx nx' ZX:Int)(of on:Bool)(sd0:List (List UInt8))(au0:List (List UInt8))(en0:List UInt8)(ac0:Int)(re0:Int)(rs0:Int)(ck0:Int)(od0:Bool)(su0:Int)(mc0:Int)(ix0:List (El Bf))(l10:Int)(l20:Int)(l30:Int)(l40:Int)(l50:Int)(l60:Int)(ks0:List (El E8))(st0:Bool)(sp0:Bool)(rb0:List (List (List UInt8)))(ru0:Int)(vc0:Int)(sf0:Bool)(dr0:Int)(ss0:List (El sesT))(ob0:List (El objT))(rl0:List Int)(wl0:List Int)(sd:List (List UInt8))(au:List (List UInt8))(en:List UInt8)(ac:Int)(re:Int)(rs:Int)(ck:Int)(od:Bool)(su:Int)(mc:Int)(ix:List (El Bf))(l1:Int)(l2:Int)(l3:Int)(l4:Int)(l5:Int)(l6:Int)(ks:List (El E8))(st:Bool)(sp:Bool)(rb:List (List (List UInt8)))(ru:Int)(vc:Int)(sf:Bool)(dr:Int)(ss:List (El sesT))(ob:List (El objT))(rl:List Int)(wl:List Int)(sd2 au2:List (List UInt8))(en2:List UInt8)(ac2 re2 rs2 ck2:Int)(od2:Bool)(su2 mc2 l12 l22 l32 l42 l52 l62:Int)
  (hon:Y E0 (.call 63 [dv0 ar wr cu to true false nx] [])=some (.ret (.tup [Jv ar 0 0 0 false sd2 au2 en2 ac2 re2 rs2 ck2 od2 [] su2 mc2 [] l12 l22 l32 l42 l52 l62 [] false false [] 0 0 false 0 noSs noOb [] [] true ZX,.i 0]) []))
  (hm:Y E0 (.call 15 [Jv ar 0 0 0 false sd2 au2 en2 ac2 re2 rs2 ck2 od2 [] su2 mc2 [] l12 l22 l32 l42 l52 l62 [] false false [] 0 0 false 0 noSs noOb [] [] true ZX,.i 0,rq 1 [] [] [0] [],.i 0,.i 0] [])=some (.ret (.tup [Jv ar' wr' 0 0 false sd au en ac re rs ck od [] su mc ix l1 l2 l3 l4 l5 l6 ks st sp rb ru vc sf dr ss ob rl wl true nx',Hr 0 [] [] [],.b true]) [])) :
  Y E0 (.call 22 [Jv ar wr cu to of sd0 au0 en0 ac0 re0 rs0 ck0 od0 [] su0 mc0 ix0 l10 l20 l30 l40 l50 l60 ks0 st0 sp0 rb0 ru0 vc0 sf0 dr0 ss0 ob0 rl0 wl0 on nx] [])=some (.ret (.tup [Jv ar' wr' 0 0 false sd au en ac re rs ck od [] su mc ix l1 l2 l3 l4 l5 l6 ks st sp rb ru vc sf dr ss ob rl wl true nx',.b true]) []):=by
 have hoff:=A7f ar wr cu to of on nx sd0 au0 en0 ac0 re0 rs0 ck0 od0 [] su0 mc0 ix0 l10 l20 l30 l40 l50 l60 ks0 st0 sp0 rb0 ru0 vc0 sf0 dr0 ss0 ob0 rl0 wl0
 refine tq ?_
 rw[hoff]
 refine tq ?_
 rw[hon]
 refine tq ?_
 rw[ve]
 refine tq ?_
 rw[hm]
 exact tq rfl
theorem A58(ar:List (List UInt8))(wr cu to nx q:Int)(of on:Bool)(sd0:List (List UInt8))(au0:List (List UInt8))(en0:List UInt8)(ac0:Int)(re0:Int)(rs0:Int)(ck0:Int)(od0:Bool)(su0:Int)(mc0:Int)(ix0:List (El Bf))(l10:Int)(l20:Int)(l30:Int)(l40:Int)(l50:Int)(l60:Int)(ks0:List (El E8))(st0:Bool)(sp0:Bool)(rb0:List (List (List UInt8)))(ru0:Int)(vc0:Int)(sf0:Bool)(dr0:Int)(ss0:List (El sesT))(ob0:List (El objT))(rl0:List Int)(wl0:List Int)(sd au:List (List UInt8))(en:List UInt8)(re rs ck:Int)(od:Bool)(su mc l1 l2 l3 l4 l5 l6:Int)(har:PK ar q (encS sd au en 2 re rs ck od [] su mc [] l1 l2 l3 l4 l5 l6 []))(hok:stOK sd au en 2 re rs ck su mc [] l1 l2 l3 l4 l5 l6 [])(hre:re<=900000)(hq:q<=700000):
  ∃ ar' wr' nx',PK ar' (nx'-1) (encS sd au en 2 (re+1) 0 ck false [] 0 mc [] l1 l2 l3 l4 l5 l6 [])/\0<=wr'/\wr'<=nx'/\nx'<=q+2/\Y E0 (.call 22 [Jv ar wr cu to of sd0 au0 en0 ac0 re0 rs0 ck0 od0 [] su0 mc0 ix0 l10 l20 l30 l40 l50 l60 ks0 st0 sp0 rb0 ru0 vc0 sf0 dr0 ss0 ob0 rl0 wl0 on nx] [])=some (.ret (.tup [Jv ar' wr' 0 0 false sd au en 2 (re+1) 0 ck false [] 0 mc [] l1 l2 l3 l4 l5 l6 [] true false (EI 2) 0 ck od 0 noSs noOb [] [] true nx',.b true]) []):=by
 have hon:=AAM ar wr cu to nx q sd au en 2 re rs ck od su mc l1 l2 l3 l4 l5 l6 har zaj hok.sl hok.al hok.sm hok.am hok.en hok.re hok.rs hok.ck hok.su hok.mc hok.lk
 have hq1:1<=q:=har.2.1
 have h1:stOK sd au en 2 (re+1) 0 ck 0 mc [] l1 l2 l3 l4 l5 l6 []:=⟨hok.sl,hok.al,hok.sm,hok.am,hok.en,hok.ac,⟨by have:=hok.re;omega,by omega⟩,by decide,hok.ck,by decide,hok.mc,hok.il,hok.im,hok.lk,hok.kl,hok.km⟩
 have hp:rpG 0 [] [] []:=⟨.inl rfl,by decide,by decide,by decide,by simp,by simp,by simp⟩
 have hx:=A7o sd au en 2 re rs ck od su mc [] l1 l2 l3 l4 l5 l6 [] false false [] 0 0 false 0 noSs noOb [] [] ⟨rfl,rfl⟩ rfl hok.re
 obtain⟨ar',wr',nx',k1,k2,k3,k4,_,ha⟩:=ZH ar 0 0 (q+1) 0 sd au en 2 re rs ck od su mc [] l1 l2 l3 l4 l5 l6 [] false false [] 0 0 false 0 noSs noOb [] [] sd au en 2 (re+1) 0 ck false 0 mc [] l1 l2 l3 l4 l5 l6 [] true false (EI 2) 0 ck od 0 noSs noOb [] [] 1 0 [] [] [0] [] 0 [] [] [] A95 hp hok h1 (by rw[show q+1-1=q from by omega];exact har) ⟨by decide,by omega⟩ zaa hx
 refine⟨ar',wr',nx',k1,k2,k3,by omega,?_⟩
 have hm:=Qp ar ar' 0 0 (q+1) wr' nx' 0 sd au en 2 re rs ck od su mc [] l1 l2 l3 l4 l5 l6 [] false false [] 0 0 false 0 noSs noOb [] [] sd au en 2 (re+1) 0 ck false 0 mc [] l1 l2 l3 l4 l5 l6 [] true false (EI 2) 0 ck od 0 noSs noOb [] [] 1 [] [] [0] [] 0 0 0 [] [] [] ha zaj rfl rfl rfl
 exact vg ar ar' wr wr' cu to 0 nx nx' (q+1) of on sd0 au0 en0 ac0 re0 rs0 ck0 od0 su0 mc0 ix0 l10 l20 l30 l40 l50 l60 ks0 st0 sp0 rb0 ru0 vc0 sf0 dr0 ss0 ob0 rl0 wl0 sd au en 2 (re+1) 0 ck false 0 mc [] l1 l2 l3 l4 l5 l6 [] true false (EI 2) 0 ck od 0 noSs noOb [] [] sd au en 2 re rs ck od su mc l1 l2 l3 l4 l5 l6 hon hm
@[irreducible] def zen:List UInt8:=List.replicate 32 0
theorem zen_len:zen.length=32:=by rw[zen];simp
theorem JF(re:Int)(hre:0<=re/\re<=10):stOK (Ad zen) [[],[],[],[]] (BG zen BN [] 32) 2 re 0 0 0 0 [] 0 5 100 0 0 1000 []:=by
 refine⟨Ol _,rfl,ay _,?_,?_,by decide,by omega,by decide,by decide,by decide,by decide,by decide,by simp,by unfold VV;omega,by decide,by simp⟩
 ·intro x hx
  simp at hx
  rw[hx];decide
 ·rw[Et zaj];decide
theorem vk(ar:List (List UInt8))(wr:Int)(ar':List (List UInt8))(wr' nx':Int)(sd:List (List UInt8))(au:List (List UInt8))(en:List UInt8)(ac:Int)(re:Int)(rs:Int)(ck:Int)(od:Bool)(su:Int)(mc:Int)(ix:List (El Bf))(l1:Int)(l2:Int)(l3:Int)(l4:Int)(l5:Int)(l6:Int)(ks:List (El E8))(st:Bool)(sp:Bool)(rb:List (List (List UInt8)))(ru:Int)(vc:Int)(sf:Bool)(dr:Int)(ss:List (El sesT))(ob:List (El objT))(rl:List Int)(wl:List Int)(hm:Y E0 (.call 21 [.i 4,.sl .u8 zen,.i 2] [])=some (.ret (.tup [dv0 ar wr 0 0 true false 2,.i 0]) []))(hc:Y E0 (.call 22 [dv0 ar wr 0 0 true false 2] [])=some (.ret (.tup [Jv ar' wr' 0 0 false sd au en ac re rs ck od [] su mc ix l1 l2 l3 l4 l5 l6 ks st sp rb ru vc sf dr ss ob rl wl true nx',.b true]) [])):Y E0 (.call 5 [.i 2] [])=some (.ret (.tup [Jv ar' wr' 0 0 false sd au en ac re rs ck od [] su mc ix l1 l2 l3 l4 l5 l6 ks st sp rb ru vc sf dr ss ob rl wl true nx',.b true]) []):=by
 have e:BC .and 2 3=2:=by rw[Aq];decide
 have hz:BU 32 (0:UInt8)=zen:=by rw[Ea,zen];rfl
 refine tq ?_
 rw[hz,e,hm]
 refine tq ?_
 rw[hc]
 exact tq rfl
theorem qW:∃ ar wr nx,PK ar (nx-1) (encS (Ad zen) [[],[],[],[]] (BG zen BN [] 32) 2 1 0 0 false [] 0 0 [] 0 5 100 0 0 1000 [])/\0<=wr/\wr<=nx/\nx<=3/\Y E0 (.call 5 [.i 2] [])=some (.ret (.tup [Jv ar wr 0 0 false (Ad zen) [[],[],[],[]] (BG zen BN [] 32) 2 1 0 0 false [] 0 0 [] 0 5 100 0 0 1000 [] true false (EI 2) 0 0 true 0 noSs noOb [] [] true nx,.b true]) []):=by
 have h0:=JF 0 zaj
 have hm:=A7p zen zen_len _ rfl h0
 obtain⟨ar',wr',nx',k1,k2,k3,k4,hc⟩:=A58 _ 1 0 0 2 1 true false [] [] [] 0 0 0 0 false 0 0 [] 0 0 0 0 0 0 [] false false [] 0 0 false 0 [] [] [] [] (Ad zen) [[],[],[],[]] (BG zen BN [] 32) 0 0 0 true 0 0 0 5 100 0 0 1000 (A7q _ (Nat.le_trans (O9 _ _ _ _ _ _ _ true _ _ _ _ _ _ _ _ _ _ h0) zaj)) h0 zaj zaj
 exact⟨ar',wr',nx',k1,k2,k3,k4,vk _ 1 ar' wr' nx' (Ad zen) [[],[],[],[]] (BG zen BN [] 32) 2 1 0 0 false 0 0 [] 0 5 100 0 0 1000 [] true false (EI 2) 0 0 true 0 noSs noOb [] [] hm hc⟩
end Go.Proofs.YtlpkjhhfhannpaaGreatDoor
