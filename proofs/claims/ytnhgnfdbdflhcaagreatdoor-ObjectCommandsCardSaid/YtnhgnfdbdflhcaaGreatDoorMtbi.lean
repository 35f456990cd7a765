/-
  Own texts, laid together for this claim: contracts of functions of the program and its references, used by the statements of this seat.
-/
import Derived.Test.YtnhgnfdbdflhcaaGreatDoorMtab
import Derived.Test.YtnhgnfdbdflhcaaGreatDoorMtae
import Derived.Test.YtnhgnfdbdflhcaaGreatDoorMtaf
import Derived.Test.YtnhgnfdbdflhcaaGreatDoorMtai
import Derived.Test.YtnhgnfdbdflhcaaGreatDoorMtaj
import Derived.Test.YtnhgnfdbdflhcaaGreatDoorMtau
import Derived.Test.YtnhgnfdbdflhcaaGreatDoorMtbf
import Derived.Test.YtnhgnfdbdflhcaaGreatDoorMtbh
set_option linter.all false
set_option maxHeartbeats 40000000
set_option maxRecDepth 100000
namespace Go.Proofs.YtnhgnfdbdflhcaaGreatDoor
open Go Go.Ax Go.Eng
section
attribute [local irreducible] Cc Dn D7 DU DD BA Dp F7 FY FD Ez Ci CS DK DV and' DW DL C9 BR Bh CB CG BG BI Aw BC Dq Fh Dt ER DX Bl CE Bv Bz Bi Az Bg BK Bj BO Du Bc DF BZ BM Cj Di fits Dv Dk Ac Am BH
attribute [local irreducible] Dw CJ Be nameB EL Eh Ar ET E8 Ea ES F8 BV GX Eg Fv FU
variable (sd au:List (List UInt8))(en:List UInt8)(ac re rs ck:Int)(od:Bool)(sb:List (List (List UInt8)))(su mc:Int)(ix:List (El Gp))(l1 l2 l3 l4 l5 l6:Int)(ks:List (El J8))(st sp:Bool)(rb:List (List (List UInt8)))(ru vc:Int)(sf:Bool)(dr:Int)(ss:List (El sesT))(ob:List (El objT))(rl wl:List Int)
theorem jV(c h:Int)(hs:List Int)(az:List (El AY))(is:List Int)(m:List UInt8)(bs:List (List UInt8))(p1 p2 p3:Int)(p4 p5 s1 s2 s3:List UInt8)(hr:Int)(hl:ob.length<=1000)(hhs:hs.length<=100)(hx:Dl ob h=some ((p1,p2,p3,p4,p5),(s1,s2,s3),hr))(h1:p1≠1):
  Y E0 (.call 61 [(sX sd au en ac re rs ck od sb su mc ix l1 l2 l3 l4 l5 l6 ks st sp rb ru vc sf dr ss ob rl wl),.agg [.i c,.sl .i64 (h::hs),.sl AY az,.sl .i64 is,.sl (.sl .u8) (m::bs)]] [])=some (.ret (.tup [(sX sd au en ac re rs ck od sb su mc ix l1 l2 l3 l4 l5 l6 ks st sp rb ru vc sf dr ss ob rl wl),.agg [.i 19,.sl .i64 [],.sl (.sl .u8) [],.sl (.sl .u8) []]]) []):=by
 refine tq ?_;rw[Xk _ _ _ _ _ _ _ _ _ _ _ _ _ _ _ _ _ _ _ _ _ _ _ _ _ _ _ _ _ _ _ _ _ _ _ _ _ _ _ _ _ _ _ _ _ hl hhs hx h1];refine tq ?_;rw[F9 ..];exact tq rfl
theorem uf(c h:Int)(hs:List Int)(az:List (El AY))(is:List Int)(m:List UInt8)(bs:List (List UInt8))(p1 p2 p3:Int)(p4 p5 s1 s2 s3:List UInt8)(hr:Int)(hl:ob.length<=1000)(hhs:hs.length<=100)(hx:Dl ob h=some ((p1,p2,p3,p4,p5),(s1,s2,s3),hr))(h1:p1≠1):
  Y E0 (.call 63 [(sX sd au en ac re rs ck od sb su mc ix l1 l2 l3 l4 l5 l6 ks st sp rb ru vc sf dr ss ob rl wl),.agg [.i c,.sl .i64 (h::hs),.sl AY az,.sl .i64 is,.sl (.sl .u8) (m::bs)]] [])=some (.ret (.tup [(sX sd au en ac re rs ck od sb su mc ix l1 l2 l3 l4 l5 l6 ks st sp rb ru vc sf dr ss ob rl wl),.agg [.i 19,.sl .i64 [],.sl (.sl .u8) [],.sl (.sl .u8) []]]) []):=by
 refine tq ?_;rw[Xk _ _ _ _ _ _ _ _ _ _ _ _ _ _ _ _ _ _ _ _ _ _ _ _ _ _ _ _ _ _ _ _ _ _ _ _ _ _ _ _ _ _ _ _ _ hl hhs hx h1];refine tq ?_;rw[F9 ..];exact tq rfl
theorem oW(c h:Int)(hs:List Int)(az:List (El AY))(is:List Int)(m:List UInt8)(bs:List (List UInt8))(p1 p2 p3:Int)(p4 p5 s1 s2 s3:List UInt8)(hr:Int)(hl:ob.length<=1000)(hhs:hs.length<=100)(hx:Dl ob h=some ((p1,p2,p3,p4,p5),(s1,s2,s3),hr))(h1:p1≠2):
  Y E0 (.call 13 [(sX sd au en ac re rs ck od sb su mc ix l1 l2 l3 l4 l5 l6 ks st sp rb ru vc sf dr ss ob rl wl),.agg [.i c,.sl .i64 (h::hs),.sl AY az,.sl .i64 is,.sl (.sl .u8) (m::bs)]] [])=some (.ret (.tup [(sX sd au en ac re rs ck od sb su mc ix l1 l2 l3 l4 l5 l6 ks st sp rb ru vc sf dr ss ob rl wl),.agg [.i 19,.sl .i64 [],.sl (.sl .u8) [],.sl (.sl .u8) []]]) []):=by
 have e1:=Va sd au en ac re rs ck od sb su mc ix l1 l2 l3 l4 l5 l6 ks st sp rb ru vc sf dr ss ob rl wl c h hs az is m bs p1 p2 p3 p4 p5 s1 s2 s3 hr true hl hhs hx h1
 refine tq ?_;rw[e1];refine tq ?_;rw[F9 ..];exact tq rfl
theorem oZ(c h:Int)(hs:List Int)(az:List (El AY))(is:List Int)(m:List UInt8)(bs:List (List UInt8))(p1 p2 p3:Int)(p4 p5 s1 s2 s3:List UInt8)(hr:Int)(hl:ob.length<=1000)(hhs:hs.length<=100)(hx:Dl ob h=some ((p1,p2,p3,p4,p5),(s1,s2,s3),hr))(h1:p1=2)(ha:BA .and p2 4=0):
  Y E0 (.call 13 [(sX sd au en ac re rs ck od sb su mc ix l1 l2 l3 l4 l5 l6 ks st sp rb ru vc sf dr ss ob rl wl),.agg [.i c,.sl .i64 (h::hs),.sl AY az,.sl .i64 is,.sl (.sl .u8) (m::bs)]] [])=some (.ret (.tup [(sX sd au en ac re rs ck od sb su mc ix l1 l2 l3 l4 l5 l6 ks st sp rb ru vc sf dr ss ob rl wl),.agg [.i 20,.sl .i64 [],.sl (.sl .u8) [],.sl (.sl .u8) []]]) []):=by
 have e1:=Vb sd au en ac re rs ck od sb su mc ix l1 l2 l3 l4 l5 l6 ks st sp rb ru vc sf dr ss ob rl wl c h hs az is m bs p1 p2 p3 p4 p5 s1 s2 s3 hr true hl hhs hx h1 (by rw[ha];rfl)
 refine tq ?_;rw[e1];refine tq ?_;rw[F9 ..];exact tq rfl
end
end Go.Proofs.YtnhgnfdbdflhcaaGreatDoor
