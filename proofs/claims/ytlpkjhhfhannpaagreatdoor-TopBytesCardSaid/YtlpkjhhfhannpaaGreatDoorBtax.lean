/- Own texts of this claim: contracts of functions. -/
import Derived.Test.YtlpkjhhfhannpaaGreatDoorBtau
set_option linter.all false
set_option maxHeartbeats 40000000
set_option maxRecDepth 100000
namespace Go.Proofs.YtlpkjhhfhannpaaGreatDoor
open Go Go.Ax Go.Eng
attribute [local irreducible] CS Cj CP CW CQ BC Cm ED ES Dx EG CJ Bi Ce CX and' Cf CU BL Au BI BP BR Ag Ai AY Ae D5 EJ D6 DX Cb BZ BQ BM BO BJ AZ BK Aj Ak Ap D7 BB CV BU BF CO D8 Cc fits D9 Ci AC AQ Ah
section
variable (sd au:List (List UInt8))(en:List UInt8)(ac re rs ck:Int)(od:Bool)(su mc:Int)(ix:List (El Bf))(l1 l2 l3 l4 l5 l6:Int)(ks:List (El E8))(st sp:Bool)(rb:List (List (List UInt8)))(ru vc:Int)(sf:Bool)(dr:Int)(ss:List (El sesT))(ob:List (El objT))(rl wl:List Int)(h x5 x6 x7:Int)(x2 x3:List UInt8)(x8:Bool)
theorem dW:OG.length=32:=A7 _
theorem A1P(kd x4 x5 x6 x7:Int)(x2 x3:List UInt8)(x8:Bool)(hl:ss.length<=1000)(hh:0<=h-768/\h-768<ss.length)(hg:Ap ss (h-768)=some (kd,x2,x3,x4,x5,x6,x7,x8))(hz:kd=2):Y E0 (.call 234 [(sX sd au en ac re rs ck od [] su mc ix l1 l2 l3 l4 l5 l6 ks st sp rb ru vc sf dr ss ob rl wl),.i h] [])=some (.ret (.tup [.i (h-768),iP kd x2 x3 x4 x5 x6 x7 x8,.b true]) []):=by
 subst hz
 refine tq ?_
 rw[TC (hl:=AA) (hh:=AA) (hg:=AA) (hz:=AA) ..]
 exact tq rfl
theorem A1Q(hrb:rb=EI 2):Y E0 (.call 331 [(sX sd au en ac re rs ck od [] su mc ix l1 l2 l3 l4 l5 l6 ks st sp rb ru vc sf dr ss ob rl wl),iP 2 x2 x3 (-1) x5 x6 x7 x8,vU 1 0 1 [] 0 0 [] [] [] []] [])=some (.ret (.tup [iP 2 x2 x3 ru x5 x6 x7 x8,vU 1 0 1 OG 0 0 [] [] [] [],.i 0]) []):=by
 have hRB:EI 2=[[],GR 32]:=rfl
 subst hrb
 have hd:=yl ru
 rw[<-hRB] at hd
 refine tq ?_
 rw[hd]
 exact tq rfl
theorem A1R(hrb:rb=EI 2):Y E0 (.call 295 [(sX sd au en ac re rs ck od [] su mc ix l1 l2 l3 l4 l5 l6 ks st sp rb ru vc sf dr ss ob rl wl),iP 2 x2 x3 (-1) x5 x6 x7 x8,vU 1 0 1 [] 0 0 [] [] [] []] [])=some (.ret (.tup [iP 2 x2 x3 ru x5 x6 x7 x8,vU 1 0 1 OG 0 0 [] [] [] [],.i 0]) []):=by
 rw[AL]
 conv=>lhs;whnf
 rw[Dz zaa]
 conv=>lhs;whnf
 try dsimp -iota -beta -eta -zeta only
 rw[AX]
 rw[A1Q (hrb:=AA) ..]
 exact tq rfl
theorem A84(k x4 x5 x6 x7:Int)(x2 x3 d:List UInt8)(x8:Bool)(hl:ss.length<=1000)(hk:0<=k/\k<ss.length)(h3:x3.length<=1000)(hd:d.length=32):Y E0 (.call 237 [(sX sd au en ac re rs ck od [] su mc ix l1 l2 l3 l4 l5 l6 ks st sp rb ru vc sf dr ss ob rl wl),.i k,iP 2 x2 x3 x4 x5 x6 x7 x8,vU 1 0 1 d 0 0 [] [] [] []] [])=some (.ret ((sX sd au en ac re rs ck od [] su mc ix l1 l2 l3 l4 l5 l6 ks st sp rb ru vc sf dr (BB ss k (2,x2,Wv x3 d,x4,x5,x6,x7,x8)) ob rl wl)) []):=by
 have k1:=A1O x3 d h3 hd
 refine tq ?_
 rw[k1]
 refine tq ?_
 rw[jI (hl:=AA) (hk:=AA) ..]
 exact tq rfl
theorem A1S(hrb:rb=EI 2)(hl:ss.length<=1000)(hh:0<=h-768/\h-768<ss.length)(hg:Ap ss (h-768)=some (2,x2,x3,(-1:Int),x5,x6,x7,x8))(h3:x3.length<=1000):Y E0 (.call 232 [(sX sd au en ac re rs ck od [] su mc ix l1 l2 l3 l4 l5 l6 ks st sp rb ru vc sf dr ss ob rl wl),.i h,vU 1 0 1 [] 0 0 [] [] [] []] [])=some (.ret (.tup [(sX sd au en ac re rs ck od [] su mc ix l1 l2 l3 l4 l5 l6 ks st sp rb ru vc sf dr (BB ss (h-768) (2,x2,Wv x3 OG,ru,x5,x6,x7,x8)) ob rl wl),.i 0]) []):=by
 have k1:=A84 sd au en ac re rs ck od su mc ix l1 l2 l3 l4 l5 l6 ks st sp rb ru vc sf dr ss ob rl wl (h-768) ru x5 x6 x7 x2 x3 OG x8 hl hh h3 dW
 refine tq ?_
 rw[A1P (hl:=AA) (hh:=AA) (hg:=AA) (hz:=AA) ..]
 refine tq ?_
 rw[dL]
 refine tq ?_
 rw[dV _ zah]
 refine tq ?_
 rw[A1R (hrb:=AA) ..]
 refine tq ?_
 rw[k1]
 exact tq rfl
theorem ACC:Ap [h,1,0,1,0,0] 3=some 1:=zbv
theorem ACD:Ap [h,1,0,1,0,0] 4=some 0:=zbv
theorem ACE:Ap [h,1,0,1,0,0] 5=some 0:=zbv
theorem wQ(hrb:rb=EI 2)(hl:ss.length<=1000)(hh:0<=h-768/\h-768<ss.length)(hg:Ap ss (h-768)=some (2,x2,x3,(-1:Int),x5,x6,x7,x8))(h3:x3.length<=1000):Y E0 (.call 190 [(sX sd au en ac re rs ck od [] su mc ix l1 l2 l3 l4 l5 l6 ks st sp rb ru vc sf dr ss ob rl wl),rq 17 [] [] [h,1,0,1,0,0] [[]]] [])=some (.ret (.tup [(sX sd au en ac re rs ck od [] su mc ix l1 l2 l3 l4 l5 l6 ks st sp rb ru vc sf dr (BB ss (h-768) (2,x2,Wv x3 OG,ru,x5,x6,x7,x8)) ob rl wl),Hr 0 [] [] []]) []):=by
 refine tq ?_
 rw[ACC]
 refine tq ?_
 rw[ACD]
 refine tq ?_
 rw[ACE]
 refine tq ?_
 rw[A1S (hrb:=AA) (hl:=AA) (hh:=AA) (hg:=AA) (h3:=AA) ..]
 refine tq ?_
 rw[yj ..]
 exact tq rfl
theorem A85(hrb:rb=EI 2)(hl:ss.length<=1000)(hh:0<=h-768/\h-768<ss.length)(hg:Ap ss (h-768)=some (2,x2,x3,(-1:Int),x5,x6,x7,x8))(h3:x3.length<=1000):Y E0 (.call 138 [(sX sd au en ac re rs ck od [] su mc ix l1 l2 l3 l4 l5 l6 ks st sp rb ru vc sf dr ss ob rl wl),.i 0,rq 17 [] [] [h,1,0,1,0,0] [[]]] [])=some (.ret (.tup [(sX sd au en ac re rs ck od [] su mc ix l1 l2 l3 l4 l5 l6 ks st sp rb ru vc sf dr (BB ss (h-768) (2,x2,Wv x3 OG,ru,x5,x6,x7,x8)) ob rl wl),Hr 0 [] [] []]) []):=by
 refine tq ?_
 rw[wQ (hrb:=AA) (hl:=AA) (hh:=AA) (hg:=AA) (h3:=AA) ..]
 exact tq rfl
theorem A86(hst:st=true)(hrb:rb=EI 2)(hl:ss.length<=1000)(hh:0<=h-768/\h-768<ss.length)(hg:Ap ss (h-768)=some (2,x2,x3,(-1:Int),x5,x6,x7,x8))(h3:x3.length<=1000)(hq:rqG 17 (-1) [] [] [h,1,0,1,0,0] [[]]):Y E0 (.call 87 [(sX sd au en ac re rs ck od [] su mc ix l1 l2 l3 l4 l5 l6 ks st sp rb ru vc sf dr ss ob rl wl),.i 0,rq 17 [] [] [h,1,0,1,0,0] [[]]] [])=some (.ret (.tup [(sX sd au en ac re rs ck od [] su mc ix l1 l2 l3 l4 l5 l6 ks st sp rb ru vc sf dr (BB ss (h-768) (2,x2,Wv x3 OG,ru,x5,x6,x7,x8)) ob rl wl),Hr 0 [] [] []]) []):=by
 have k1:=Nc hq
 have k2:=LG sd au en ac re rs ck od su mc ix l1 l2 l3 l4 l5 l6 ks st sp rb ru vc sf dr ss ob rl wl 17 [] [h,1,0,1,0,0] [[]]
 subst hst
 refine tq ?_
 rw[k1]
 refine tq ?_
 rw[k2]
 refine tq ?_
 rw[A85 (hrb:=AA) (hl:=AA) (hh:=AA) (hg:=AA) (h3:=AA) ..]
 exact tq rfl
end
end Go.Proofs.YtlpkjhhfhannpaaGreatDoor
