/-
  Own texts, laid together for this claim: contracts of functions of the program and its references, used by the statements of this seat.
-/
import Derived.Test.YtanagnimhaemgaaGreatDoorKtac
import Derived.Test.YtanagnimhaemgaaGreatDoorKtad
import Derived.Test.YtanagnimhaemgaaGreatDoorKtaf
import Derived.Test.YtanagnimhaemgaaGreatDoorKtag
import Derived.Test.YtanagnimhaemgaaGreatDoorKtaj
import Derived.Test.YtanagnimhaemgaaGreatDoorKtak
import Derived.Test.YtanagnimhaemgaaGreatDoorKtal
set_option linter.all false
set_option maxHeartbeats 40000000
set_option maxRecDepth 100000
namespace Go.Ax
open Go Go.Eng Go.RowKit
noncomputable def JR(ks:List (El BP))(p1 p2 p3:Int)(p5 s2 m:List UInt8):List (El BP)×Ans :=
 if p1≠2 then(ks,⟨19,[],[]⟩) else if Ak .and p2 4≠0 then(ks,⟨20,[],[]⟩) else if 128<m.length then(ks,⟨4,[],[]⟩)
 else if(Iy ks p5 p3).2.2≠0 then(ks,⟨(Iy ks p5 p3).2.2,[],[]⟩) else((Iy ks p5 p3).1,⟨0,[],[I9 s2 p3 (Iy ks p5 p3).2.1 m]⟩)
noncomputable def Gl(ks:List (El BP))(p1 p2 p3:Int)(p5 s2 m:List UInt8)(e:Int)(a:Att):List (El BP)×Ans :=
 if p1≠2 then(ks,⟨19,[],[]⟩) else if Ak .and p2 4=0 then(ks,⟨20,[],[]⟩) else if 128<m.length then(ks,⟨4,[],[]⟩)
 else if e≠0 then(ks,⟨e,[],[]⟩)
 else if(Iy ks p5 p3).2.2≠0 then(ks,⟨(Iy ks p5 p3).2.2,[],[]⟩) else((Iy ks p5 p3).1,⟨0,[],[Jd a,I9 s2 p3 (Iy ks p5 p3).2.1 (Jd a)]⟩)
end Go.Ax
namespace Go.Proofs.YtanagnimhaemgaaGreatDoor
open Go Go.Ax Go.Eng
variable (ar:List (List UInt8))(wr to nx:Int)(sd0 au0:List (List UInt8))(en0:List UInt8)(ac0 re0 rs0 ck0:Int)(od0:Bool)(su0 mc0:Int)(ix0:List (El AB))(l10 l20 l30 l40 l50:Int)(sd:List (List UInt8))(l60:Int)(au:List (List UInt8))(ks0:List (El BP))(en:List UInt8)(st0:Bool)(ac:Int)(sp0:Bool)(re:Int)(rb0:List (List (List UInt8)))(rs ru0 ck vc0:Int)(od sf0:Bool)(su dr0 mc:Int)(ss0:List (El sesT))(ix:List (El AB))(ob0:List (El objT))(l1:Int)(rl0:List Int)(l2:Int)(wl0:List Int)(l3 l4 l5 l6:Int)(ks:List (El BP))
section
attribute [local irreducible] Bl CS CU CJ Bh Ak CV Du EN E5 EH Be BN CE Bz and' CG CO BC Ag Ar BF BG AY Aa AP AX CW Dv CX DT C9 BJ BD BA BB Au AQ Az Ac Aw Ah CY BL Bi BR BI CB CZ CP fits Cb CQ A8 AA AZ
attribute [local irreducible] BK Dl encS
theorem Lp(h:stOK sd au en ac re rs ck su mc ix l1 l2 l3 l4 l5 l6 ks):(encS sd au en ac re rs ck od [] su mc ix l1 l2 l3 l4 l5 l6 ks).length<=20000:=by
 have h0:=EJ h.sm 0
 have h1:=EJ h.sm 1
 have h2:=EJ h.sm 2
 have h3:=EJ h.am 0
 have h4:=EJ h.am 1
 have h5:=EJ h.am 2
 have h6:=EJ h.am 3
 have hF:(List.flatMap XK ix).length<=1800:=Nat.le_trans (Ht (m:=300) fun x hx=>Zm x (h.im x hx)) (by have:=h.il;omega)
 have hK:(List.flatMap XL ks).length<=2400:=Nat.le_trans (Ht (m:=300) fun x hx=>Zn x (h.km x hx)) (by have:=h.kl;omega)
 have he:=h.en
 delta encS
 rw[pz]
 simp only[List.length_append,List.length_cons,List.length_nil,Cc,Bo]
 omega
theorem Zq(sd:List (List UInt8))(au:List (List UInt8))(en:List UInt8)(ac:Int)(re:Int)(rs:Int)(ck:Int)(od:Bool)(su:Int)(mc:Int)(ix:List (El AB))(l1:Int)(l2:Int)(l3:Int)(l4:Int)(l5:Int)(l6:Int)(ks:List (El BP))(st:Bool)(sp:Bool)(rb:List (List (List UInt8)))(ru:Int)(vc:Int)(sf:Bool)(dr:Int)(ss:List (El sesT))(ob:List (El objT))(rl:List Int)(wl:List Int)(h0:stOK sd0 au0 en0 ac0 re0 rs0 ck0 su0 mc0 ix0 l10 l20 l30 l40 l50 l60 ks0)(h1:stOK sd au en ac re rs ck su mc ix l1 l2 l3 l4 l5 l6 ks)(he:encS sd au en ac re rs ck od [] su mc ix l1 l2 l3 l4 l5 l6 ks=encS sd0 au0 en0 ac0 re0 rs0 ck0 od0 [] su0 mc0 ix0 l10 l20 l30 l40 l50 l60 ks0):Y E0 (.call 82 [Gm ar wr 0 to false sd0 au0 en0 ac0 re0 rs0 ck0 od0 [] su0 mc0 ix0 l10 l20 l30 l40 l50 l60 ks0 st0 sp0 rb0 ru0 vc0 sf0 dr0 ss0 ob0 rl0 wl0 true nx,.agg [.sl (.sl .u8) sd,.sl (.sl .u8) au,.sl .u8 en,.i ac,.i re,.i rs,.i ck,.b od,.sl (.sl (.sl .u8)) [],.i su,.i mc,.sl AB ix,.i l1,.i l2,.i l3,.i l4,.i l5,.i l6,.sl BP ks,.b st,.b sp,.sl (.sl (.sl .u8)) rb,.i ru,.i vc,.b sf,.i dr,.sl sesT ss,.sl objT ob,.sl .i64 rl,.sl .i64 wl]] [])=some (.ret (.tup [Gm ar wr 0 to false sd au en ac re rs ck od [] su mc ix l1 l2 l3 l4 l5 l6 ks st sp rb ru vc sf dr ss ob rl wl true nx,.i 0]) []):=by
 have e0:=Kw sd0 au0 en0 ac0 re0 rs0 ck0 od0 su0 mc0 ix0 l10 l20 l30 l40 l50 l60 ks0 h0.sl h0.al h0.sm h0.am h0.en h0.il h0.im h0.kl h0.km
 have e1:=Kw sd au en ac re rs ck od su mc ix l1 l2 l3 l4 l5 l6 ks h1.sl h1.al h1.sm h1.am h1.en h1.il h1.im h1.kl h1.km
 rw[he] at e1
 refine tq ?_
 rw[e1]
 refine tq ?_
 rw[e0]
 exact tq rfl
theorem SY(sd:List (List UInt8))(au:List (List UInt8))(en:List UInt8)(ac:Int)(re:Int)(rs:Int)(ck:Int)(od:Bool)(su:Int)(mc:Int)(ix:List (El AB))(l1:Int)(l2:Int)(l3:Int)(l4:Int)(l5:Int)(l6:Int)(ks:List (El BP))(st:Bool)(sp:Bool)(rb:List (List (List UInt8)))(ru:Int)(vc:Int)(sf:Bool)(dr:Int)(ss:List (El sesT))(ob:List (El objT))(rl:List Int)(wl:List Int)(h0:stOK sd0 au0 en0 ac0 re0 rs0 ck0 su0 mc0 ix0 l10 l20 l30 l40 l50 l60 ks0)(h1:stOK sd au en ac re rs ck su mc ix l1 l2 l3 l4 l5 l6 ks)(he:encS sd au en ac re rs ck od [] su mc ix l1 l2 l3 l4 l5 l6 ks≠encS sd0 au0 en0 ac0 re0 rs0 ck0 od0 [] su0 mc0 ix0 l10 l20 l30 l40 l50 l60 ks0)(hl:2<=ar.length/\ar.length<=1000)(hw:0<=wr/\wr<=900000)(hn:1<=nx/\nx<=900000):Y E0 (.call 82 [Gm ar wr 0 to false sd0 au0 en0 ac0 re0 rs0 ck0 od0 [] su0 mc0 ix0 l10 l20 l30 l40 l50 l60 ks0 st0 sp0 rb0 ru0 vc0 sf0 dr0 ss0 ob0 rl0 wl0 true nx,.agg [.sl (.sl .u8) sd,.sl (.sl .u8) au,.sl .u8 en,.i ac,.i re,.i rs,.i ck,.b od,.sl (.sl (.sl .u8)) [],.i su,.i mc,.sl AB ix,.i l1,.i l2,.i l3,.i l4,.i l5,.i l6,.sl BP ks,.b st,.b sp,.sl (.sl (.sl .u8)) rb,.i ru,.i vc,.b sf,.i dr,.sl sesT ss,.sl objT ob,.sl .i64 rl,.sl .i64 wl]] [])=some (.ret (.tup [Gm (BL ar (nx%2) (Gv nx (encS sd au en ac re rs ck od [] su mc ix l1 l2 l3 l4 l5 l6 ks))) (wr+1) 0 to false sd au en ac re rs ck od [] su mc ix l1 l2 l3 l4 l5 l6 ks st sp rb ru vc sf dr ss ob rl wl true (nx+1),.i 0]) []):=by
 have e0:=Kw sd0 au0 en0 ac0 re0 rs0 ck0 od0 su0 mc0 ix0 l10 l20 l30 l40 l50 l60 ks0 h0.sl h0.al h0.sm h0.am h0.en h0.il h0.im h0.kl h0.km
 have e1:=Kw sd au en ac re rs ck od su mc ix l1 l2 l3 l4 l5 l6 ks h1.sl h1.al h1.sm h1.am h1.en h1.il h1.im h1.kl h1.km
 have hl1:=Lp sd au en ac re rs ck od su mc ix l1 l2 l3 l4 l5 l6 ks h1
 have hl0:=Lp sd0 au0 en0 ac0 re0 rs0 ck0 od0 su0 mc0 ix0 l10 l20 l30 l40 l50 l60 ks0 h0
 generalize encS sd au en ac re rs ck od [] su mc ix l1 l2 l3 l4 l5 l6 ks=p1 at *
 generalize encS sd0 au0 en0 ac0 re0 rs0 ck0 od0 [] su0 mc0 ix0 l10 l20 l30 l40 l50 l60 ks0=p0 at *
 have ec:=Wh ar wr to nx p1 hl.2 hl.1 zaa zaa zaa
 refine tq ?_
 rw[e1]
 refine tq ?_
 rw[e0]
 refine tq ?_
 rw[ec]
 exact tq rfl
theorem um(sd:List (List UInt8))(au:List (List UInt8))(en:List UInt8)(ac:Int)(re:Int)(rs:Int)(ck:Int)(od:Bool)(su:Int)(mc:Int)(ix:List (El AB))(l1:Int)(l2:Int)(l3:Int)(l4:Int)(l5:Int)(l6:Int)(ks:List (El BP))(st:Bool)(sp:Bool)(rb:List (List (List UInt8)))(ru:Int)(vc:Int)(sf:Bool)(dr:Int)(ss:List (El sesT))(ob:List (El objT))(rl:List Int)(wl:List Int)(h0:stOK sd0 au0 en0 ac0 re0 rs0 ck0 su0 mc0 ix0 l10 l20 l30 l40 l50 l60 ks0)(h1:stOK sd au en ac re rs ck su mc ix l1 l2 l3 l4 l5 l6 ks)(har:Q5 ar (nx-1) (encS sd0 au0 en0 ac0 re0 rs0 ck0 od0 [] su0 mc0 ix0 l10 l20 l30 l40 l50 l60 ks0))(hw:0<=wr/\wr<=nx)(hn:nx<=800000):∃ ar' wr' nx',Q5 ar' (nx'-1) (encS sd au en ac re rs ck od [] su mc ix l1 l2 l3 l4 l5 l6 ks)/\0<=wr'/\wr'<=nx'/\nx'<=nx+1/\(encS sd au en ac re rs ck od [] su mc ix l1 l2 l3 l4 l5 l6 ks=encS sd0 au0 en0 ac0 re0 rs0 ck0 od0 [] su0 mc0 ix0 l10 l20 l30 l40 l50 l60 ks0->nx'=nx) /\
  Y E0 (.call 82 [Gm ar wr 0 to false sd0 au0 en0 ac0 re0 rs0 ck0 od0 [] su0 mc0 ix0 l10 l20 l30 l40 l50 l60 ks0 st0 sp0 rb0 ru0 vc0 sf0 dr0 ss0 ob0 rl0 wl0 true nx,.agg [.sl (.sl .u8) sd,.sl (.sl .u8) au,.sl .u8 en,.i ac,.i re,.i rs,.i ck,.b od,.sl (.sl (.sl .u8)) [],.i su,.i mc,.sl AB ix,.i l1,.i l2,.i l3,.i l4,.i l5,.i l6,.sl BP ks,.b st,.b sp,.sl (.sl (.sl .u8)) rb,.i ru,.i vc,.b sf,.i dr,.sl sesT ss,.sl objT ob,.sl .i64 rl,.sl .i64 wl]] [])=some (.ret (.tup [Gm ar' wr' 0 to false sd au en ac re rs ck od [] su mc ix l1 l2 l3 l4 l5 l6 ks st sp rb ru vc sf dr ss ob rl wl true nx',.i 0]) []):=by
 have hq:1<=nx-1:=har.2.1
 by_cases he:encS sd au en ac re rs ck od [] su mc ix l1 l2 l3 l4 l5 l6 ks=encS sd0 au0 en0 ac0 re0 rs0 ck0 od0 [] su0 mc0 ix0 l10 l20 l30 l40 l50 l60 ks0
 ·exact⟨ar,wr,nx,by rw[he];exact har,hw.1,hw.2,by omega,fun _=>rfl,Zq ar wr to nx sd0 au0 en0 ac0 re0 rs0 ck0 od0 su0 mc0 ix0 l10 l20 l30 l40 l50 l60 ks0 st0 sp0 rb0 ru0 vc0 sf0 dr0 ss0 ob0 rl0 wl0 sd au en ac re rs ck od su mc ix l1 l2 l3 l4 l5 l6 ks st sp rb ru vc sf dr ss ob rl wl h0 h1 he⟩
 ·refine⟨_,wr+1,nx+1,?_,by omega,by omega,by omega,fun h=>absurd h he,SY ar wr to nx sd0 au0 en0 ac0 re0 rs0 ck0 od0 su0 mc0 ix0 l10 l20 l30 l40 l50 l60 ks0 st0 sp0 rb0 ru0 vc0 sf0 dr0 ss0 ob0 rl0 wl0 sd au en ac re rs ck od su mc ix l1 l2 l3 l4 l5 l6 ks st sp rb ru vc sf dr ss ob rl wl h0 h1 he ⟨by rw[har.1];decide,by rw[har.1];decide⟩ zaa zaa⟩
  have h:=YR (p':=encS sd au en ac re rs ck od [] su mc ix l1 l2 l3 l4 l5 l6 ks) har zaa (Nat.le_trans (Lp sd au en ac re rs ck od su mc ix l1 l2 l3 l4 l5 l6 ks h1) zac)
  rw[show nx-1+1=nx from by omega] at h
  rw[show nx+1-1=nx from by omega]
  exact h
end
section
attribute [local irreducible] Bl CS CU CJ Bh Ak CV Du EN E5 EH Be BN CE Bz and' CG CO BC Ag Ar BF BG AY Aa AP AX CW Dv CX DT C9 BJ BD BA BB Au AQ Az Ac Aw Ah CY BL Bi BR BI CB CZ CP fits Cb CQ A8 AA AZ
theorem qg(st:Bool)(sp:Bool)(rb:List (List (List UInt8)))(ru:Int)(vc:Int)(sf:Bool)(dr:Int)(ss:List (El sesT))(ob:List (El objT))(rl:List Int)(wl:List Int)(c:Int)(hs:List Int)(nn v:List UInt8)(az:List (El AL))(qi:List Int)(qb:List (List UInt8)):Y E0 (.call 166 [.agg [.sl (.sl .u8) sd,.sl (.sl .u8) au,.sl .u8 en,.i ac,.i re,.i rs,.i ck,.b od,.sl (.sl (.sl .u8)) [],.i su,.i mc,.sl AB ix,.i l1,.i l2,.i l3,.i l4,.i l5,.i l6,.sl BP ks,.b st,.b sp,.sl (.sl (.sl .u8)) rb,.i ru,.i vc,.b sf,.i dr,.sl sesT ss,.sl objT ob,.sl .i64 rl,.sl .i64 wl],rq c hs ((0,nn,v)::az) qi qb] [])=some (.ret (.tup [.agg [.sl (.sl .u8) sd,.sl (.sl .u8) au,.sl .u8 en,.i ac,.i re,.i rs,.i ck,.b od,.sl (.sl (.sl .u8)) [],.i su,.i mc,.sl AB ix,.i l1,.i l2,.i l3,.i l4,.i l5,.i l6,.sl BP ks,.b st,.b sp,.sl (.sl (.sl .u8)) rb,.i ru,.i vc,.b sf,.i dr,.sl sesT ss,.sl objT ob,.sl .i64 rl,.sl .i64 wl],.sl (.sl .u8) []]) []):=by
 refine tq ?_
 with_reducible rfl
end
end Go.Proofs.YtanagnimhaemgaaGreatDoor
