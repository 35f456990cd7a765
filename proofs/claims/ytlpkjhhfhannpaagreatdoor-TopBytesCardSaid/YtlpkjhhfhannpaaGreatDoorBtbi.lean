/- Own texts of this claim: contracts of functions. -/
import Derived.Test.YtlpkjhhfhannpaaGreatDoorBtal
import Derived.Test.YtlpkjhhfhannpaaGreatDoorBtaz
set_option linter.all false
set_option maxHeartbeats 40000000
set_option maxRecDepth 100000
namespace Go.Proofs.YtlpkjhhfhannpaaGreatDoor
open Go Go.Ax Go.Eng
attribute [local irreducible] CS Cj CP CW CQ BC Cm ED ES Dx EG CJ Bi Ce CX and' Cf CU BL Au BI BP BR Ag Ai AY Ae D5 EJ D6 DX Cb BZ BQ BM BO BJ AZ BK Aj Ak Ap D7 BB CV BU BF CO D8 Cc fits D9 Ci AC AQ Ah
variable (sd au:List (List UInt8))(en:List UInt8)(ac re rs ck:Int)(od:Bool)(su mc:Int)(ix:List (El Bf))(l1 l2 l3 l4 l5 l6:Int)(ks:List (El E8))(st sp:Bool)(rb:List (List (List UInt8)))(ru vc:Int)(sf:Bool)(dr:Int)(ss:List (El sesT))(ob:List (El objT))(rl wl:List Int)(b:List (List UInt8))(i lo:Int)
section
attribute [local irreducible] Jk GI JE nameB
theorem dY(rb:List (List (List UInt8)))(ru:Int)(vc:Int)(sf:Bool)(dr:Int)(ss:List (El sesT))(ob:List (El objT))(rl:List Int)(wl:List Int)(b:List (List UInt8))(i lo:Int)(d:List UInt8)(hb:Eg 32 b)(hd:d.length<=1024):Y E0 (.loop 187 0 0 6 [(1,.i lo),(3,.pa 0 0),(5,.pa 1 0),(6,.pa 2 0),(7,.pa 3 0),(8,.pa 4 0),(10,.pa 5 0),(77,.i 0)] [(0,some (.var (sC sd au en ac re rs ck od [] su mc ix l1 l2 l3 l4 l5 l6 ks st sp [[],b] ru vc sf dr ss ob rl wl))),(1,some (.var [.i 7,.sl .i64 [],.sl AB [],.sl .i64 [i],.sl (.sl .u8) [d]])),(2,some (.var [.nil,.nil,.nil,.i 0,.i 0,.i 0,.i 0,.b false,.nil,.i 0,.i 0,.nil,.i 0,.i 0,.i 0,.i 0,.i 0,.i 0,.nil,.b false,.b false,.nil,.i 0,.i 0,.b false,.i 0,.nil,.nil,.nil,.nil])),(3,some (.var [.i 0,.nil,.nil,.nil])),(4,some (.var [.sl (.sl (.sl .u8)) [[],b],.i ru])),(5,some (.var [.i 0,.nil,.nil,.nil]))])=some (.fin (.exit 1) 7 [(1,.i lo),(3,.pa 0 0),(5,.pa 1 0),(6,.pa 2 0),(7,.pa 3 0),(8,.pa 4 0),(10,.pa 5 0)] [(0,some (.var (sC sd au en ac re rs ck od [] su mc ix l1 l2 l3 l4 l5 l6 ks st sp [[],b] ru vc sf dr ss ob rl wl))),(1,some (.var [.i 7,.sl .i64 [],.sl AB [],.sl .i64 [i],.sl (.sl .u8) [d]])),(2,some (.var [.nil,.nil,.nil,.i 0,.i 0,.i 0,.i 0,.b false,.nil,.i 0,.i 0,.nil,.i 0,.i 0,.i 0,.i 0,.i 0,.i 0,.nil,.b false,.b false,.nil,.i 0,.i 0,.b false,.i 0,.nil,.nil,.nil,.nil])),(3,some (.var [.i 0,.nil,.nil,.nil])),(4,some (.var [.sl (.sl (.sl .u8)) [[],b],.i ru])),(5,some (.var [.i 0,.nil,.nm 6,.nil])),(6,some (.row 22 (.sl .u8) (BF [[]] [sha256 d])))]):=by
 have v0:=A5X b ru hb
 obtain⟨y,v1⟩:=A5Y b ru hb
 refine tq ?_
 rw[v0]
 refine tq ?_
 refine tq ?_
 rw[show(0:Int)+1=1 from rfl,v1]
 refine tq ?_
 rw[Gt _ AA]
 refine tq ?_
 exact tq rfl
theorem zQ(hlo:QH i<=lo/\lo<=4)(d x:List UInt8)(hrb:rb=[[],b])(hb:Eg 32 b)(hu:0<=ru/\ru<=1000000)(hi:0<=i/\i<16)(hd:d.length<=128)(hg:Ap b i=some x):Y E0 (.call 187 [(sX sd au en ac re rs ck od [] su mc ix l1 l2 l3 l4 l5 l6 ks st sp rb ru vc sf dr ss ob rl wl),.i lo,rq 7 [] [] [i] [d]] [])=some (.ret (.tup [(sX sd au en ac re rs ck od [] su mc ix l1 l2 l3 l4 l5 l6 ks st sp [[],BB b i (sha256 (BF x (sha256 d)))] (ru+1) vc sf dr ss ob rl wl),Hr 0 [] [[],sha256 d] []]) []):=by
 have k3:=A1W b ru hb hu i lo hlo hi d x hd hg
 have hl:=dY sd au en ac re rs ck od su mc ix l1 l2 l3 l4 l5 l6 ks st sp rb ru vc sf dr ss ob rl wl b i lo d hb zaa
 subst hrb
 have e:BF [[]] [sha256 d]=[[],sha256 d]:=by rw[Ac];rfl
 rw[e] at hl
 refine tq ?_
 rw[hl]
 refine tq ?_
 rw[k3]
 exact tq rfl
theorem AAo(hlo:QH i<=lo/\lo<=4)(d x:List UInt8)(hrb:rb=[[],b])(hb:Eg 32 b)(hu:0<=ru/\ru<=1000000)(hi:0<=i/\i<16)(hd:d.length<=128)(hg:Ap b i=some x):Y E0 (.call 138 [(sX sd au en ac re rs ck od [] su mc ix l1 l2 l3 l4 l5 l6 ks st sp rb ru vc sf dr ss ob rl wl),.i lo,rq 7 [] [] [i] [d]] [])=some (.ret (.tup [(sX sd au en ac re rs ck od [] su mc ix l1 l2 l3 l4 l5 l6 ks st sp [[],BB b i (sha256 (BF x (sha256 d)))] (ru+1) vc sf dr ss ob rl wl),Hr 0 [] [[],sha256 d] []]) []):=by
 have k:=zQ sd au en ac re rs ck od su mc ix l1 l2 l3 l4 l5 l6 ks st sp rb ru vc sf dr ss ob rl wl b i lo hlo d x hrb hb hu hi hd hg
 refine tq ?_
 rw[k]
 exact tq rfl
theorem A8J(d x:List UInt8)(hst:st=true)(hrb:rb=[[],b])(hb:Eg 32 b)(hu:0<=ru/\ru<=1000000)(hi:0<=i/\i<16)(hd:d.length<=100)(hg:Ap b i=some x)(hq:rqG 7 1 [] [] [i] [d]):Y E0 (.call 87 [(sX sd au en ac re rs ck od [] su mc ix l1 l2 l3 l4 l5 l6 ks st sp rb ru vc sf dr ss ob rl wl),.i 4,rq 7 [] [] [i] [d]] [])=some (.ret (.tup [(sX sd au en ac re rs ck od [] su mc ix l1 l2 l3 l4 l5 l6 ks st sp [[],BB b i (sha256 (BF x (sha256 d)))] (ru+1) vc sf dr ss ob rl wl),Hr 0 [] [[],sha256 d] []]) []):=by
 have k1:=Nc hq
 have k2:=LG sd au en ac re rs ck od su mc ix l1 l2 l3 l4 l5 l6 ks st sp rb ru vc sf dr ss ob rl wl 7 [] [i] [d]
 have k3:=AAo sd au en ac re rs ck od su mc ix l1 l2 l3 l4 l5 l6 ks st sp rb ru vc sf dr ss ob rl wl b i 4 ⟨(zK i).2,by decide⟩ d x hrb hb hu hi zaa hg
 subst hst
 refine tq ?_
 rw[k1]
 refine tq ?_
 rw[k2]
 refine tq ?_
 rw[k3]
 exact tq rfl
theorem A1Y(hst:st=true):Y E0 (.call 186 [(sX sd au en ac re rs ck od [] su mc ix l1 l2 l3 l4 l5 l6 ks st sp rb ru vc sf dr ss ob rl wl),.i 1] [])=some (.ret (.tup [(sX sd au en ac re rs vc sf rb ru mc ix l1 l2 l3 l4 l5 l6 ks false true [] 0 0 false 0 noSs noOb [] []),.i 0]) []):=by
 have k:=iQ sd au en ac re rs vc sf rb ru mc ix l1 l2 l3 l4 l5 l6 ks
 subst hst
 refine tq ?_
 rw[k]
 exact tq rfl
theorem A1Z(sd0:List (List UInt8))(au0:List (List UInt8))(en0:List UInt8)(ac0:Int)(re0:Int)(rs0:Int)(ck0:Int)(od0:Bool)(su0:Int)(mc0:Int)(ix0:List (El Bf))(l10:Int)(l20:Int)(l30:Int)(l40:Int)(l50:Int)(l60:Int)(ks0:List (El E8))(st0:Bool)(sp0:Bool)(rb0:List (List (List UInt8)))(ru0:Int)(vc0:Int)(sf0:Bool)(dr0:Int)(ss0:List (El sesT))(ob0:List (El objT))(rl0:List Int)(wl0:List Int)(sd:List (List UInt8))(au:List (List UInt8))(en:List UInt8)(ac:Int)(re:Int)(rs:Int)(ck:Int)(od:Bool)(su:Int)(mc:Int)(ix:List (El Bf))(l1:Int)(l2:Int)(l3:Int)(l4:Int)(l5:Int)(l6:Int)(ks:List (El E8))(st:Bool)(sp:Bool)(rb:List (List (List UInt8)))(ru:Int)(vc:Int)(sf:Bool)(dr:Int)(ss:List (El sesT))(ob:List (El objT))(rl:List Int)(wl:List Int):Y E0 (.call 185 [(sX sd0 au0 en0 ac0 re0 rs0 ck0 od0 [] su0 mc0 ix0 l10 l20 l30 l40 l50 l60 ks0 st0 sp0 rb0 ru0 vc0 sf0 dr0 ss0 ob0 rl0 wl0),(sX sd au en ac re rs vc sf rb ru mc ix l1 l2 l3 l4 l5 l6 ks false true [] 0 0 false 0 noSs noOb [] []),.i 0] [])=some (.ret (.tup [(sX sd au en ac re rs vc sf rb ru mc ix l1 l2 l3 l4 l5 l6 ks false true [] 0 0 false 0 noSs noOb [] []),Hr 0 [] [] []]) []):=by
 refine tq ?_
 with_reducible rfl
theorem AAp(hst:st=true):Y E0 (.call 138 [(sX sd au en ac re rs ck od [] su mc ix l1 l2 l3 l4 l5 l6 ks st sp rb ru vc sf dr ss ob rl wl),.i 0,rq 2 [] [] [1] []] [])=some (.ret (.tup [(sX sd au en ac re rs vc sf rb ru mc ix l1 l2 l3 l4 l5 l6 ks false true [] 0 0 false 0 noSs noOb [] []),Hr 0 [] [] []]) []):=by
 have k3:=A1Y sd au en ac re rs ck od su mc ix l1 l2 l3 l4 l5 l6 ks st sp rb ru vc sf dr ss ob rl wl hst
 have k4:=A1Z sd au en ac re rs ck od su mc ix l1 l2 l3 l4 l5 l6 ks st sp rb ru vc sf dr ss ob rl wl sd au en ac re rs ck od su mc ix l1 l2 l3 l4 l5 l6 ks st sp rb ru vc sf dr ss ob rl wl
 subst hst
 refine tq ?_
 rw[k3]
 refine tq ?_
 rw[k4]
 exact tq rfl
end
end Go.Proofs.YtlpkjhhfhannpaaGreatDoor
