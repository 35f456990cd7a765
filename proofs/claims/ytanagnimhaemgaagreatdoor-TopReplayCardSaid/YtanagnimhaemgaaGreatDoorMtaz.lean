/-
  Own texts, laid together for this claim: contracts of functions of the program and its references, used by the statements of this seat.
-/
import Derived.Test.YtanagnimhaemgaaGreatDoorMtab
import Derived.Test.YtanagnimhaemgaaGreatDoorMtac
import Derived.Test.YtanagnimhaemgaaGreatDoorMtad
import Derived.Test.YtanagnimhaemgaaGreatDoorMtaf
import Derived.Test.YtanagnimhaemgaaGreatDoorMtag
import Derived.Test.YtanagnimhaemgaaGreatDoorMtah
import Derived.Test.YtanagnimhaemgaaGreatDoorMtaj
import Derived.Test.YtanagnimhaemgaaGreatDoorMtas
import Derived.Test.YtanagnimhaemgaaGreatDoorMtaw
set_option linter.all false
set_option maxHeartbeats 40000000
set_option maxRecDepth 100000
namespace Go.Proofs.YtanagnimhaemgaaGreatDoor
open Go Go.Ax Go.Eng
variable (u:Int)
section
attribute [local irreducible] BL BM BN BO BP BJ BQ CX Cm CY CW Ba Bc BF BC and' BG Bd Aa Ac Ad Ae Af AL AO AP AQ BR D8 BU D5 Be Bf Ag Ah Ai Aj AB AZ AU Ar BA BV BH BB Au Aw BI Bg BX fits BZ BK A7 A8 AC
theorem ev_run(sd0:List (List UInt8))(au0:List (List UInt8))(en0:List UInt8)(ac0:Int)(re0:Int)(rs0:Int)(ck0:Int)(od0:Bool)(su0:Int)(mc0:Int)(ix0:List (El FU))(l10:Int)(l20:Int)(l30:Int)(l40:Int)(l50:Int)(l60:Int)(ks0:List (El IJ))(st0:Bool)(sp0:Bool)(rb0:List (List (List UInt8)))(ru0:Int)(vc0:Int)(sf0:Bool)(dr0:Int)(ss0:List (El Gi))(ob0:List (El objT))(rl0:List Int)(wl0:List Int)(sd:List (List UInt8))(au:List (List UInt8))(en:List UInt8)(ac:Int)(re:Int)(rs:Int)(ck:Int)(od:Bool)(su:Int)(mc:Int)(ix:List (El FU))(l1:Int)(l2:Int)(l3:Int)(l4:Int)(l5:Int)(l6:Int)(ks:List (El IJ))(st:Bool)(sp:Bool)(rb:List (List (List UInt8)))(ru:Int)(vc:Int)(sf:Bool)(dr:Int)(ss:List (El Gi))(ob:List (El objT))(rl:List Int)(wl:List Int)(loc c:Int)(hs:List Int)(az:List (El MR))(qi:List Int)(qb:List (List UInt8))(e:Int)(b:List UInt8)(is:List Int)(bs ns:List (List UInt8))(hd:Y E0 (.call 129 [.sl .u8 b] [])=some (.ret (.tup [rq c hs az qi qb,.i 0]) []))(hx:Y E0 (.call 131 [.agg [.sl (.sl .u8) sd0,.sl (.sl .u8) au0,.sl .u8 en0,.i ac0,.i re0,.i rs0,.i ck0,.b od0,.sl (.sl (.sl .u8)) [],.i su0,.i mc0,.sl FU ix0,.i l10,.i l20,.i l30,.i l40,.i l50,.i l60,.sl IJ ks0,.b st0,.b sp0,.sl (.sl (.sl .u8)) rb0,.i ru0,.i vc0,.b sf0,.i dr0,.sl Gi ss0,.sl objT ob0,.sl .i64 rl0,.sl .i64 wl0],.i loc,rq c hs az qi qb] [])=some (.ret (.tup [.agg [.sl (.sl .u8) sd,.sl (.sl .u8) au,.sl .u8 en,.i ac,.i re,.i rs,.i ck,.b od,.sl (.sl (.sl .u8)) [],.i su,.i mc,.sl FU ix,.i l1,.i l2,.i l3,.i l4,.i l5,.i l6,.sl IJ ks,.b st,.b sp,.sl (.sl (.sl .u8)) rb,.i ru,.i vc,.b sf,.i dr,.sl Gi ss,.sl objT ob,.sl .i64 rl,.sl .i64 wl],nV e is bs ns]) []))
  (hr:Y E0 (.call 130 [nV e is bs ns] [])=some (.ret (.sl .u8 (respB e is bs ns)) [])):Y E0 (.call 81 [.agg [.sl (.sl .u8) sd0,.sl (.sl .u8) au0,.sl .u8 en0,.i ac0,.i re0,.i rs0,.i ck0,.b od0,.sl (.sl (.sl .u8)) [],.i su0,.i mc0,.sl FU ix0,.i l10,.i l20,.i l30,.i l40,.i l50,.i l60,.sl IJ ks0,.b st0,.b sp0,.sl (.sl (.sl .u8)) rb0,.i ru0,.i vc0,.b sf0,.i dr0,.sl Gi ss0,.sl objT ob0,.sl .i64 rl0,.sl .i64 wl0],.i loc,.sl .u8 b] [])=some (.ret (.tup [.agg [.sl (.sl .u8) sd,.sl (.sl .u8) au,.sl .u8 en,.i ac,.i re,.i rs,.i ck,.b od,.sl (.sl (.sl .u8)) [],.i su,.i mc,.sl FU ix,.i l1,.i l2,.i l3,.i l4,.i l5,.i l6,.sl IJ ks,.b st,.b sp,.sl (.sl (.sl .u8)) rb,.i ru,.i vc,.b sf,.i dr,.sl Gi ss,.sl objT ob,.sl .i64 rl,.sl .i64 wl],.sl .u8 (respB e is bs ns)]) []):=by
 refine tq ?_
 rw[hd]
 refine tq ?_
 rw[hx]
 refine tq ?_
 rw[hr]
 exact tq rfl
theorem ev_send(ar ar':List (List UInt8))(wr to nx wr' nx' loc:Int)(sd0:List (List UInt8))(au0:List (List UInt8))(en0:List UInt8)(ac0:Int)(re0:Int)(rs0:Int)(ck0:Int)(od0:Bool)(su0:Int)(mc0:Int)(ix0:List (El FU))(l10:Int)(l20:Int)(l30:Int)(l40:Int)(l50:Int)(l60:Int)(ks0:List (El IJ))(st0:Bool)(sp0:Bool)(rb0:List (List (List UInt8)))(ru0:Int)(vc0:Int)(sf0:Bool)(dr0:Int)(ss0:List (El Gi))(ob0:List (El objT))(rl0:List Int)(wl0:List Int)(sd:List (List UInt8))(au:List (List UInt8))(en:List UInt8)(ac:Int)(re:Int)(rs:Int)(ck:Int)(od:Bool)(su:Int)(mc:Int)(ix:List (El FU))(l1:Int)(l2:Int)(l3:Int)(l4:Int)(l5:Int)(l6:Int)(ks:List (El IJ))(st:Bool)(sp:Bool)(rb:List (List (List UInt8)))(ru:Int)(vc:Int)(sf:Bool)(dr:Int)(ss:List (El Gi))(ob:List (El objT))(rl:List Int)(wl:List Int)(b r:List UInt8)(hrun:Y E0 (.call 81 [.agg [.sl (.sl .u8) sd0,.sl (.sl .u8) au0,.sl .u8 en0,.i ac0,.i re0,.i rs0,.i ck0,.b od0,.sl (.sl (.sl .u8)) [],.i su0,.i mc0,.sl FU ix0,.i l10,.i l20,.i l30,.i l40,.i l50,.i l60,.sl IJ ks0,.b st0,.b sp0,.sl (.sl (.sl .u8)) rb0,.i ru0,.i vc0,.b sf0,.i dr0,.sl Gi ss0,.sl objT ob0,.sl .i64 rl0,.sl .i64 wl0],.i loc,.sl .u8 b] [])=some (.ret (.tup [.agg [.sl (.sl .u8) sd,.sl (.sl .u8) au,.sl .u8 en,.i ac,.i re,.i rs,.i ck,.b od,.sl (.sl (.sl .u8)) [],.i su,.i mc,.sl FU ix,.i l1,.i l2,.i l3,.i l4,.i l5,.i l6,.sl IJ ks,.b st,.b sp,.sl (.sl (.sl .u8)) rb,.i ru,.i vc,.b sf,.i dr,.sl Gi ss,.sl objT ob,.sl .i64 rl,.sl .i64 wl],.sl .u8 r]) []))
  (hc:Y E0 (.call 82 [nG ar wr 0 to false sd0 au0 en0 ac0 re0 rs0 ck0 od0 [] su0 mc0 ix0 l10 l20 l30 l40 l50 l60 ks0 st0 sp0 rb0 ru0 vc0 sf0 dr0 ss0 ob0 rl0 wl0 true nx,.agg [.sl (.sl .u8) sd,.sl (.sl .u8) au,.sl .u8 en,.i ac,.i re,.i rs,.i ck,.b od,.sl (.sl (.sl .u8)) [],.i su,.i mc,.sl FU ix,.i l1,.i l2,.i l3,.i l4,.i l5,.i l6,.sl IJ ks,.b st,.b sp,.sl (.sl (.sl .u8)) rb,.i ru,.i vc,.b sf,.i dr,.sl Gi ss,.sl objT ob,.sl .i64 rl,.sl .i64 wl]] [])=some (.ret (.tup [nG ar' wr' 0 to false sd au en ac re rs ck od [] su mc ix l1 l2 l3 l4 l5 l6 ks st sp rb ru vc sf dr ss ob rl wl true nx',.i 0]) [])):Y E0 (.call 39 [nG ar wr 0 to false sd0 au0 en0 ac0 re0 rs0 ck0 od0 [] su0 mc0 ix0 l10 l20 l30 l40 l50 l60 ks0 st0 sp0 rb0 ru0 vc0 sf0 dr0 ss0 ob0 rl0 wl0 true nx,.i loc,.sl .u8 b] [])=some (.ret (.tup [nG ar' wr' 0 to false sd au en ac re rs ck od [] su mc ix l1 l2 l3 l4 l5 l6 ks st sp rb ru vc sf dr ss ob rl wl true nx',.sl .u8 r,.i 0]) []):=by
 refine tq ?_
 rw[ev_powered ..]
 refine tq ?_
 rw[hrun]
 refine tq ?_
 rw[hc]
 exact tq rfl
theorem ev_ask(ar ar':List (List UInt8))(wr to nx wr' nx' loc:Int)(sd0:List (List UInt8))(au0:List (List UInt8))(en0:List UInt8)(ac0:Int)(re0:Int)(rs0:Int)(ck0:Int)(od0:Bool)(su0:Int)(mc0:Int)(ix0:List (El FU))(l10:Int)(l20:Int)(l30:Int)(l40:Int)(l50:Int)(l60:Int)(ks0:List (El IJ))(st0:Bool)(sp0:Bool)(rb0:List (List (List UInt8)))(ru0:Int)(vc0:Int)(sf0:Bool)(dr0:Int)(ss0:List (El Gi))(ob0:List (El objT))(rl0:List Int)(wl0:List Int)(sd:List (List UInt8))(au:List (List UInt8))(en:List UInt8)(ac:Int)(re:Int)(rs:Int)(ck:Int)(od:Bool)(su:Int)(mc:Int)(ix:List (El FU))(l1:Int)(l2:Int)(l3:Int)(l4:Int)(l5:Int)(l6:Int)(ks:List (El IJ))(st:Bool)(sp:Bool)(rb:List (List (List UInt8)))(ru:Int)(vc:Int)(sf:Bool)(dr:Int)(ss:List (El Gi))(ob:List (El objT))(rl:List Int)(wl:List Int)(c:Int)(hs:List Int)(az:List (El MR))(qi:List Int)(qb:List (List UInt8))(b r:List UInt8)(e:Int)(is:List Int)(bs ns:List (List UInt8))(he:Y E0 (.call 38 [rq c hs az qi qb] [])=some (.ret (.tup [.sl .u8 b,.i 0]) []))(hsn:Y E0 (.call 39 [nG ar wr 0 to false sd0 au0 en0 ac0 re0 rs0 ck0 od0 [] su0 mc0 ix0 l10 l20 l30 l40 l50 l60 ks0 st0 sp0 rb0 ru0 vc0 sf0 dr0 ss0 ob0 rl0 wl0 true nx,.i loc,.sl .u8 b] [])=some (.ret (.tup [nG ar' wr' 0 to false sd au en ac re rs ck od [] su mc ix l1 l2 l3 l4 l5 l6 ks st sp rb ru vc sf dr ss ob rl wl true nx',.sl .u8 r,.i 0]) []))(hd:Y E0 (.call 40 [.sl .u8 r] [])=some (.ret (.tup [nV e is bs ns,.i 0]) [])):
  Y E0 (.call 13 [nG ar wr 0 to false sd0 au0 en0 ac0 re0 rs0 ck0 od0 [] su0 mc0 ix0 l10 l20 l30 l40 l50 l60 ks0 st0 sp0 rb0 ru0 vc0 sf0 dr0 ss0 ob0 rl0 wl0 true nx,.i loc,rq c hs az qi qb] [])=some (.ret (.tup [nG ar' wr' 0 to false sd au en ac re rs ck od [] su mc ix l1 l2 l3 l4 l5 l6 ks st sp rb ru vc sf dr ss ob rl wl true nx',nV e is bs ns,.b true]) []):=by
 refine tq ?_
 rw[he]
 refine tq ?_
 rw[hsn]
 refine tq ?_
 rw[hd]
 conv=>lhs;whnf
 try dsimp -iota -beta -eta -zeta only
 rw[fD zf]
 conv=>lhs;whnf
 try dsimp -iota -beta -eta -zeta only
 rw[drw zi];conv=>lhs;whnf
 try dsimp -iota -beta -eta -zeta only
 (congr 3;simp only[bu,bz,ilt_eq,ile_eq,UK,bi,QP];first|rfl|(rw[decide_eq_decide];omega)|(simp;omega))
end
section
attribute [local irreducible] BL BM BN BO BP BJ BQ CX Cm CY CW Ba Bc BF BC and' BG Bd Aa Ac Ad Ae Af AL AO AP AQ BR D8 BU D5 Be Bf Ag Ah Ai Aj AB AZ AU Ar BA BV BH BB Au Aw BI Bg BX fits BZ BK A7 A8 AC
attribute [local irreducible] D7 CG CQ nameB Dh Dv Bh Dp Dt Dn Di Ef Bz Fe Eo FY GH
theorem two_bits:BJ .or 0 (Ba 1 (Bf (0+1)).toNat)=2/\BJ .and (Bc 2 (Bf 1).toNat) 1=1:=by
 have e:(Bf 1).toNat=1:=by rw[iu64_eq];rfl
 rw[show(0:Int)+1=1 from rfl,e,aZ,ae,ah]
 decide
theorem ev_gact:Y E0 (.call 155 [.agg [.sl (.sl (.sl .u8)) [[],bankB 32],.i u]] [])=some (.ret (.i 2) []):=by
 have hl:(bankB 32).length=16:=Ve 32 16
 have hg1:BA [[],bankB 32] (0+1)=some (bankB 32):=mi _ _ _
 have hq:Y E0 (.loop 155 0 0 1 [(1,.pa 0 0),(3,.i 0),(7,.i (Ar [[],bankB 32])),(8,.i 0)] [(0,some (.var [.sl (.sl (.sl .u8)) [[],bankB 32],.i u]))])=some (.fin (.exit 0) 0 [(3,.i 2)] []):=by
  refine tq ?_;refine tq ?_;rw[hg1]
  conv=>lhs;whnf
  rw[fD (by rw[QP,hl];rfl)]
  refine tq ?_;refine tq ?_
  (rw[two_bits.1])
 refine tq ?_;rw[hq];exact tq rfl
theorem ev_gon:Y E0 (.call 283 [.agg [.sl (.sl (.sl .u8)) [[],bankB 32],.i u],.i 1] [])=some (.ret (.b true) []):=by
 refine tq ?_;rw[ev_gact _];refine tq ?_;rw[two_bits.2]
 (rw[fD (by rfl)])
theorem ev_gdig0 : Y E0 (.loop 256 0 0 3 [(2, .pa 0 0), (3, .pa 1 0), (6, .nil), (7, .nm 2), (13, AV.agg [AV.i 0, AV.i 1]), (14, AV.i 0)] [(0, some (Rs.var [AV.sl Ty.u8.sl.sl [[], bankB 32], AV.i u])), (1, some (Rs.var [AV.i 0, AV.i 1])), (2, some (Rs.row 5 Ty.u8 []))]) = some (.fin (.exit 0) 3 [(2, AV.pa 0 0), (3, AV.pa 1 0), (6, AV.sl Ty.u8 (Bz (Bz [] 2 0) 2 1)), (7, AV.nm 2)]
        [(0, some (Rs.var [AV.sl Ty.u8.sl.sl [[], bankB 32], AV.i u])), (1, some (Rs.var [AV.i 0, AV.i 1])), (2, some (Rs.row 5 Ty.u8 []))]) := by
  refine tq ?_; rw [ev_uint _ _ _ NE]; refine tq ?_; refine tq ?_; rw [ev_uint _ _ _ NE]; refine tq ?_; exact tq rfl
theorem bits16:(∀ i<16,BJ .and (Bc 0 (Bf ((i:Nat):Int)).toNat) 1=0)/\(∀ i<16,1<=i->BJ .and (Bc 1 (Bf ((i:Nat):Int)).toNat) 1=0)/\BJ .and (Bc 1 (Bf 0).toNat) 1=1:=by
 rw[aZ,ah,ak]
 refine⟨?_,?_,?_⟩<;>decide +kernel
theorem ev_gin(u a s:Int)(hd vs:List UInt8)(j0:Nat)(hz:∀ i<16,j0<=i->BJ .and (Bc s (Bf ((i:Nat):Int)).toNat) 1=0):∀(k j:Nat),j0<=j->j+k=16->Y E0 (.loop 256 2 0 2 [(2,.pa 0 0),(6,.sl .u8 hd),(7,.nm 1),(10,.i a),(11,.i s),(27,.agg [.i 0,.i 1]),(28,.i a),(40,.i (j:Int))] [(0,some (.var [.sl (.sl (.sl .u8)) [[],bankB 32],.i u])),(1,some (.row 5 .u8 vs))])=some (.fin (.exit 4) 2 [(2,.pa 0 0),(6,.sl .u8 hd),(7,.nm 1),(27,.agg [.i 0,.i 1]),(28,.i a)] [(0,some (.var [.sl (.sl (.sl .u8)) [[],bankB 32],.i u])),(1,some (.row 5 .u8 vs))])
 | 0,j,hj,hk=>by
  exact tq rfl
 | k+1,j,hj,hk=>by
  have ih:=ev_gin u a s hd vs j0 hz k (j+1) zf zf
  rw[show((j+1:Nat):Int)=(j:Int)+1 from by omega] at ih
  have hb:=hz j zf hj
  rw[JB];conv=>lhs;whnf
  rw[fH zf]
  conv=>lhs;whnf
  rw[hb];refine tq ?_;exact ih
theorem ev_gin1(hd:List UInt8):Y E0 (.loop 256 2 0 2 [(2,.pa 0 0),(6,.sl .u8 hd),(7,.nm 1),(10,.i 1),(11,.i 1),(27,.agg [.i 0,.i 1]),(28,.i 1),(40,.i 0)] [(0,some (.var [.sl (.sl (.sl .u8)) [[],bankB 32],.i u])),(1,some (.row 5 .u8 []))])=some (.fin (.exit 4) 2 [(2,.pa 0 0),(6,.sl .u8 hd),(7,.nm 1),(27,.agg [.i 0,.i 1]),(28,.i 1)] [(0,some (.var [.sl (.sl (.sl .u8)) [[],bankB 32],.i u])),(1,some (.row 5 .u8 (List.replicate 32 0)))]):=by
 have hb:=bits16.2.2
 have hl:(bankB 32).length=16:=Ve 32 16
 have hg:BA (bankB 32) 0=some (List.replicate 32 0):=by rw[Nl];rfl
 have ha:Aw [] (List.replicate 32 (0:UInt8))=List.replicate 32 0:=by rw[UH];rfl
 have hi:=ev_gin u 1 1 hd (List.replicate 32 0) 1 (fun i h1 h2=>bits16.2.1 i h1 h2) 15 1 zf zf
 rw[show((1:Nat):Int)=0+1 from rfl] at hi
 rw[JB];conv=>lhs;whnf
 rw[fH zf]
 conv=>lhs;whnf
 rw[hb];refine tq ?_;rw[hg];refine tq ?_;rw[ha];exact hi
theorem ev_gdig1(hd:List UInt8):Y E0 (.loop 256 1 0 2 [(2,.pa 0 0),(6,.sl .u8 hd),(7,.nm 1),(27,AV.agg [AV.i 0,AV.i 1]),(28,AV.i 0)] [(0,some (Rs.var [AV.sl Ty.u8.sl.sl [[],bankB 32],AV.i u])),(1,some (Rs.row 5 Ty.u8 []))])=some (.fin (.exit 2) 0 [(6,.sl .u8 hd),(7,.sl .u8 (List.replicate 32 0))] []):=by
 have h0:=ev_gin u 0 0 hd [] 0 (fun i h1 _=>bits16.1 i h1) 16 0 zf zf
 rw[show((0:Nat):Int)=0 from rfl] at h0
 have h1:=ev_gin1 u hd
 refine tq ?_;rw[h0];refine tq ?_;refine tq ?_;rw[show(0:Int)+1=1 from rfl,ev_gon];refine tq ?_;rw[h1];refine tq ?_;exact tq rfl
def dig01:List UInt8:=sha256 (Bh 5 [Bz (Bz [] 2 0) 2 1,List.replicate 32 0])
theorem ev_gdig:Y E0 (.call 256 [.agg [.sl (.sl (.sl .u8)) [[],bankB 32],.i u],.agg [.i 0,.i 1]] [])=some (.ret (.tup [.sl .u8 dig01,.i 0]) []):=by
 have hf:(Bh 5 [Bz (Bz [] 2 0) 2 1,List.replicate 32 0]).length<=4294967295:=by rw[Zg,OO,OO];simp
 refine tq ?_;rw[ev_gdig0];refine tq ?_;rw[ev_gdig1];refine tq ?_;rw[ev_dig_hash _ _ hf zB];refine tq ?_
 rfl
end
end Go.Proofs.YtanagnimhaemgaaGreatDoor
