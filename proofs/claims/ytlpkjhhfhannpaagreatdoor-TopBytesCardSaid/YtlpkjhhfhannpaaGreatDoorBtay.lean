/- Own texts of this claim: contracts of functions. -/
import Derived.Test.YtlpkjhhfhannpaaGreatDoorBtao
set_option linter.all false
set_option maxHeartbeats 40000000
set_option maxRecDepth 100000
namespace Go.Proofs.YtlpkjhhfhannpaaGreatDoor
open Go Go.Ax Go.Eng
attribute [local irreducible] CS Cj CP CW CQ BC Cm ED ES Dx EG CJ Bi Ce CX and' Cf CU BL Au BI BP BR Ag Ai AY Ae D5 EJ D6 DX Cb BZ BQ BM BO BJ AZ BK Aj Ak Ap D7 BB CV BU BF CO D8 Cc fits D9 Ci AC AQ Ah
section
variable (sd au:List (List UInt8))(en:List UInt8)(ac re rs ck:Int)(od:Bool)(su mc:Int)(ix:List (El Bf))(l1 l2 l3 l4 l5 l6:Int)(ks:List (El E8))(st sp:Bool)(rb:List (List (List UInt8)))(ru vc:Int)(sf:Bool)(dr:Int)(ss:List (El sesT))(ob:List (El objT))(rl wl:List Int)(c:Int)(hs:List Int)(az:List (El AB))(qi:List Int)(qb:List (List UInt8))(se:Int)(nn v:List UInt8)(h p1 p2 p3:Int)(p4 p5 s1 s2 s3:List UInt8)(hr:Int)
theorem wR:Y E0 (.loop 183 0 0 0 [(1,.i h),(10,.sl Bf []),(11,.i 0),(12,.i 0)] [])=some (.fin (.exit 0) 0 [] []):=by
 rw[AL];conv=>lhs;whnf
 refine tq ?_
 with_reducible rfl
theorem OH(hix:ix=[]):Y E0 (.call 183 [(sX sd au en ac re rs ck od [] su mc ix l1 l2 l3 l4 l5 l6 ks st sp rb ru vc sf dr ss ob rl wl),.i h] [])=some (.ret (.tup [.i 0,.i 7]) []):=by
 have e0:Ak ([]:List (El Bf))=0:=zaV
 subst hix
 refine tq ?_
 rw[e0,wR]
 exact tq rfl
theorem ZT(hh:512<=h/\h<=515)(hix:ix=[])(hol:ob.length<=1000)(hx:GG ob h=some ((p1,p2,p3,p4,p5),(s1,s2,s3),hr))(h4:p4.length<=1000)(h5:p5.length<=1000):Y E0 (.call 220 [(sX sd au en ac re rs ck od [] su mc ix l1 l2 l3 l4 l5 l6 ks st sp rb ru vc sf dr ss ob rl wl),.i h] [])=some (.ret (.tup [.agg [.sl .u8 (nameB ⟨p1,p2,p3,p4,p5⟩),.sl .u8 s1,.sl .u8 p4,.b (ED (BC .and p2 2) 0)],.i 0]) []):=by
 have k1:=OH sd au en ac re rs ck od su mc ix l1 l2 l3 l4 l5 l6 ks st sp rb ru vc sf dr ss ob rl wl h hix
 have k2:=Vg sd au en ac re rs ck od [] su mc ix l1 l2 l3 l4 l5 l6 ks st sp rb ru vc sf dr ss ob rl wl h p1 p2 p3 p4 p5 s1 s2 s3 hr hol hx
 refine tq ?_
 rw[k1]
 refine tq ?_
 rw[k2]
 refine tq ?_
 rw[nT _ _ _ _ _ AA AA]
 exact tq rfl
theorem A1T(hh:512<=h/\h<=515)(hix:ix=[])(hol:ob.length<=1000)(hx:GG ob h=some ((p1,p2,p3,p4,p5),(s1,s2,s3),hr))(h4:p4.length<=1000)(h5:p5.length<=1000):Y E0 (.call 246 [(sX sd au en ac re rs ck od [] su mc ix l1 l2 l3 l4 l5 l6 ks st sp rb ru vc sf dr ss ob rl wl),.i h] [])=some (.ret (.tup [.sl .u8 p4,.i 0]) []):=by
 have k:=ZT sd au en ac re rs ck od su mc ix l1 l2 l3 l4 l5 l6 ks st sp rb ru vc sf dr ss ob rl wl h p1 p2 p3 p4 p5 s1 s2 s3 hr hh hix hol hx h4 h5
 refine tq ?_
 rw[k]
 exact tq rfl
theorem wS(hh:512<=h/\h<=515)(hix:ix=[])(hol:ob.length<=1000)(hx:GG ob h=some ((p1,p2,p3,p4,p5),(s1,s2,s3),hr))(h4:p4.length<=1000)(h5:p5.length<=1000):Y E0 (.call 181 [(sX sd au en ac re rs ck od [] su mc ix l1 l2 l3 l4 l5 l6 ks st sp rb ru vc sf dr ss ob rl wl),.i h] [])=some (.ret (.tup [.sl .u8 (nameB ⟨p1,p2,p3,p4,p5⟩),.i 0]) []):=by
 have k:=ZT sd au en ac re rs ck od su mc ix l1 l2 l3 l4 l5 l6 ks st sp rb ru vc sf dr ss ob rl wl h p1 p2 p3 p4 p5 s1 s2 s3 hr hh hix hol hx h4 h5
 refine tq ?_
 rw[k]
 exact tq rfl
theorem A1U(g h:Int)(hix:ix=[]):Y E0 (.call 247 [.agg [.sl (.sl .u8) sd,.sl (.sl .u8) au,.sl .u8 en,.i ac,.i re,.i rs,.i ck,.b od,.sl (.sl (.sl .u8)) [],.i su,.i mc,.sl Bf ix,.i l1,.i l2,.i l3,.i l4,.i l5,.i l6,.sl E8 ks,.b st,.b sp,.sl (.sl (.sl .u8)) rb,.i ru,.i vc,.b sf,.i dr,.sl sesT ss,.sl objT ob,.sl .i64 rl,.sl .i64 wl,.i c,.sl .i64 hs,.sl AB az,.sl .i64 qi,.sl (.sl .u8) qb,.i se,.sl .u8 nn,.sl .u8 v,.i g],.i h] [])=some (.ret (.tup [.i 0,.b false]) []):=by
 have k:=OH sd au en ac re rs ck od su mc ix l1 l2 l3 l4 l5 l6 ks st sp rb ru vc sf dr ss ob rl wl h hix
 refine tq ?_
 rw[k]
 exact tq rfl
theorem A88(x2:List UInt8)(hh:512<=h/\h<=515)(hix:ix=[])(hol:ob.length<=1000)(hx:GG ob h=some ((p1,p2,p3,p4,p5),(s1,s2,s3),hr))(h4:p4.length=32)(h5:p5.length<=1000)(hru:ru ≠ -1):Y E0 (.call 195 [.agg [.sl (.sl .u8) sd,.sl (.sl .u8) au,.sl .u8 en,.i ac,.i re,.i rs,.i ck,.b od,.sl (.sl (.sl .u8)) [],.i su,.i mc,.sl Bf ix,.i l1,.i l2,.i l3,.i l4,.i l5,.i l6,.sl E8 ks,.b st,.b sp,.sl (.sl (.sl .u8)) rb,.i ru,.i vc,.b sf,.i dr,.sl sesT ss,.sl objT ob,.sl .i64 rl,.sl .i64 wl,.i c,.sl .i64 hs,.sl AB az,.sl .i64 qi,.sl (.sl .u8) qb,.i se,.sl .u8 nn,.sl .u8 v,.i h],iP 2 x2 p4 ru 31 0 0 false,.i 0] [])=some (.ret (.tup [(sX sd au en ac re rs ck od [] su mc ix l1 l2 l3 l4 l5 l6 ks st sp rb ru vc sf dr ss ob rl wl),.i 0]) []):=by
 have k1:=A1T sd au en ac re rs ck od su mc ix l1 l2 l3 l4 l5 l6 ks st sp rb ru vc sf dr ss ob rl wl h p1 p2 p3 p4 p5 s1 s2 s3 hr hh hix hol hx zaa h5
 have k2:=A1U sd au en ac re rs ck od su mc ix l1 l2 l3 l4 l5 l6 ks st sp rb ru vc sf dr ss ob rl wl c hs az qi qb se nn v h h hix
 have b1:BC .and (Bi 31 (BZ 0).toNat) 1=1:=by
  rw[show(BZ 0).toNat=0 from by rw[JM];rfl,Ho zaa];exact(KO 1 zaj _).trans zat
 refine tq ?_
 rw[k1]
 refine tq ?_
 rw[k2]
 conv=>lhs;whnf
 rw[Fb zaa]
 conv=>lhs;whnf
 rw[RI zaa]
 conv=>lhs;whnf
 rw[Aa zah]
 conv=>lhs;whnf
 rw[FH zaa]
 conv=>lhs;whnf
 try dsimp -iota -beta -eta -zeta only
 rw[drw zaw];conv=>lhs;whnf
 rw[Fv zaa]
 conv=>lhs;whnf
 rw[AL]
 conv=>lhs;whnf
 rw[Fv zaa]
 conv=>lhs;whnf
 rw[b1]
 conv=>lhs;whnf
 rw[Aa zaa]
 conv=>lhs;whnf
 rw[FH zaa]
 conv=>lhs;whnf
 rw[Ih zaa]
 conv=>lhs;whnf
 rw[AL]
 conv=>lhs;whnf
 rw[FH zaa]
 conv=>lhs;whnf
 rw[DW];conv=>lhs;whnf
 rw[WA zah]
 conv=>lhs;whnf
 rw[DW];conv=>lhs;whnf
theorem A5W(az:List (El AB))(qi:List Int)(qb:List (List UInt8))(se h:Int)(p1 p2 p3:Int)(p4 p5 s1 s2 s3:List UInt8)(hr:Int)(x2:List UInt8)(hh:512<=h/\h<=515)(hix:ix=[])(hol:ob.length<=1000)(hx:GG ob h=some ((p1,p2,p3,p4,p5),(s1,s2,s3),hr))(h4:p4.length=32)(h5:p5.length<=1000)(hru:ru ≠ -1)(hsl:ss.length<=1000)(hse:0<=se-768/\se-768<ss.length)(hsg:Ap ss (se-768)=some (2,x2,p4,ru,31,0,0,false)):Y E0 (.call 139 [(sX sd au en ac re rs ck od [] su mc ix l1 l2 l3 l4 l5 l6 ks st sp rb ru vc sf dr ss ob rl wl),.i 0,rq c [h] ((se,nn,v)::az) qi qb] [])=some (.ret (.tup [(sX sd au en ac re rs ck od [] su mc ix l1 l2 l3 l4 l5 l6 ks st sp rb ru vc sf dr ss ob rl wl),.i 0]) []):=by
 have k1:=A88 sd au en ac re rs ck od su mc ix l1 l2 l3 l4 l5 l6 ks st sp rb ru vc sf dr ss ob rl wl c [h] ((se,nn,v)::az) qi qb se nn v h p1 p2 p3 p4 p5 s1 s2 s3 hr x2 hh hix hol hx h4 h5 hru
 have k2:=ZK sd au en ac re rs ck od su mc ix l1 l2 l3 l4 l5 l6 ks st sp rb ru vc sf dr ss ob rl wl se 2 ru 31 0 0 x2 p4 false hsl hse hsg zaa
 refine tq ?_
 rw[k2]
 refine tq ?_
 rw[k1]
 exact tq rfl
theorem A89(az:List (El AB))(qi:List Int)(qb:List (List UInt8))(se u l cm dl:Int)(n d:List UInt8)(b:Bool)(hsl:ss.length<=1000)(hse:0<=se-768/\se-768<ss.length)(hsg:Ap ss (se-768)=some (2,n,d,u,l,cm,dl,b)):Y E0 (.call 141 [(sX sd au en ac re rs ck od [] su mc ix l1 l2 l3 l4 l5 l6 ks st sp rb ru vc sf dr ss ob rl wl),rq c hs ((se,nn,v)::az) qi qb] [])=some (.ret (.tup [(sX sd au en ac re rs ck od [] su mc ix l1 l2 l3 l4 l5 l6 ks st sp rb ru vc sf dr (BB ss (se-768) uV) ob rl wl),.sl (.sl .u8) []]) []):=by
 have k2:=ZK sd au en ac re rs ck od su mc ix l1 l2 l3 l4 l5 l6 ks st sp rb ru vc sf dr ss ob rl wl se 2 u l cm dl n d b hsl hse hsg zaa
 have k3:=qj sd au en ac re rs ck od [] su mc ix l1 l2 l3 l4 l5 l6 ks st sp rb ru vc sf dr ss ob rl wl se 2 u l cm dl n d b hsl hse hsg zaa
 refine tq ?_
 rw[k2]
 refine tq ?_
 rw[k3]
 exact tq rfl
theorem jQ(az:List (El AB))(is:List Int)(bs:List (List UInt8))(p1 p2 p3:Int)(p4 p5 s1 s2 s3:List UInt8)(hr:Int)(hh:512<=h/\h<=515)(hix:ix=[])(hol:ob.length<=1000)(hx:GG ob h=some ((p1,p2,p3,p4,p5),(s1,s2,s3),hr))(h4:p4.length<=1000)(h5:p5.length<=1000):Y E0 (.call 137 [(sX sd au en ac re rs ck od [] su mc ix l1 l2 l3 l4 l5 l6 ks st sp rb ru vc sf dr ss ob rl wl),rq 13 [h] az is bs] [])=some (.ret (.b true) []):=by
 have hn:=wS sd au en ac re rs ck od su mc ix l1 l2 l3 l4 l5 l6 ks st sp rb ru vc sf dr ss ob rl wl h p1 p2 p3 p4 p5 s1 s2 s3 hr hh hix hol hx h4 h5
 have l0:=Qo sd au en ac re rs ck od su mc ix l1 l2 l3 l4 l5 l6 ks st sp rb ru vc sf dr ss ob rl wl 13 [h] az is bs zat (fun x hx=>by simp at hx;subst hx;exact⟨_,hn⟩) 1 0 rfl
 have k2:=Vg sd au en ac re rs ck od [] su mc ix l1 l2 l3 l4 l5 l6 ks st sp rb ru vc sf dr ss ob rl wl h p1 p2 p3 p4 p5 s1 s2 s3 hr hol hx
 have e2:Ak [h]=1:=zaV
 rw[show((List.length [h]:Nat):Int)=1 from rfl,show((0:Nat):Int)=0 from rfl] at l0
 refine tq ?_
 simp only[e2,Nat.reduceAdd];rw[l0]
 conv=>lhs;whnf
 rw[e2]
 refine tq ?_
 rw[k2]
 conv=>lhs;whnf
 exact zas
theorem wU(az:List (El AB))(is:List Int)(bs:List (List UInt8))(p1 p2 p3:Int)(p4 p5 s1 s2 s3:List UInt8)(hr:Int)(hol:ob.length<=1000)(hx:GG ob h=some ((p1,p2,p3,p4,p5),(s1,s2,s3),hr))(h3:p1=3):Y E0 (.call 140 [(sX sd au en ac re rs ck od [] su mc ix l1 l2 l3 l4 l5 l6 ks st sp rb ru vc sf dr ss ob rl wl),rq 13 [h] az is bs] [])=some (.ret (.tup [(sX sd au en ac re rs ck od [] su mc ix l1 l2 l3 l4 l5 l6 ks st sp rb ru vc sf dr ss ob rl wl),Hr 0 [] [s3] []]) []):=by
 have k:=jG sd au en ac re rs ck od [] su mc ix l1 l2 l3 l4 l5 l6 ks st sp rb ru vc sf dr ss ob rl wl 13 h [] az is bs p1 p2 p3 p4 p5 s1 s2 s3 hr hol zat hx h3
 refine tq ?_
 rw[k]
 exact tq rfl
theorem A8A(se:Int)(nn v:List UInt8)(p1 p2 p3:Int)(p4 p5 s1 s2 s3:List UInt8)(hr:Int)(x2:List UInt8)(hst:st=true)(hh:512<=h/\h<=515)(hix:ix=[])(hol:ob.length<=1000)(hx:GG ob h=some ((p1,p2,p3,p4,p5),(s1,s2,s3),hr))(h3:p1=3)(h4:p4.length=32)(h5:p5.length<=1000)(hru:ru ≠ -1)(hsl:ss.length<=1000)(hse:0<=se-768/\se-768<ss.length)(hsg:Ap ss (se-768)=some (2,x2,p4,ru,31,0,0,false))(hq:rqG 13 0 [h] [(se,nn,v)] [] []):Y E0 (.call 87 [(sX sd au en ac re rs ck od [] su mc ix l1 l2 l3 l4 l5 l6 ks st sp rb ru vc sf dr ss ob rl wl),.i 0,rq 13 [h] [(se,nn,v)] [] []] [])=some (.ret (.tup [(sX sd au en ac re rs ck od [] su mc ix l1 l2 l3 l4 l5 l6 ks st sp rb ru vc sf dr (BB ss (se-768) uV) ob rl wl),Hr 0 [] [s3] []]) []):=by
 have k1:=Nc hq
 have k2:=jQ sd au en ac re rs ck od su mc ix l1 l2 l3 l4 l5 l6 ks st sp rb ru vc sf dr ss ob rl wl h [(se,nn,v)] [] [] p1 p2 p3 p4 p5 s1 s2 s3 hr hh hix hol hx zaa h5
 have k3:=A5W sd au en ac re rs ck od su mc ix l1 l2 l3 l4 l5 l6 ks st sp rb ru vc sf dr ss ob rl wl 13 nn v [] [] [] se h p1 p2 p3 p4 p5 s1 s2 s3 hr x2 hh hix hol hx h4 h5 hru hsl hse hsg
 have k4:=wU sd au en ac re rs ck od su mc ix l1 l2 l3 l4 l5 l6 ks st sp rb ru vc sf dr ss ob rl wl h [(se,nn,v)] [] [] p1 p2 p3 p4 p5 s1 s2 s3 hr hol hx h3
 have k5:=A89 sd au en ac re rs ck od su mc ix l1 l2 l3 l4 l5 l6 ks st sp rb ru vc sf dr ss ob rl wl 13 [h] nn v [] [] [] se ru 31 0 0 x2 p4 false hsl hse hsg
 subst hst
 refine tq ?_
 rw[k1]
 refine tq ?_
 rw[k2]
 refine tq ?_
 rw[k3]
 refine tq ?_
 rw[k4]
 conv=>lhs;whnf
 rw[AL]
 conv=>lhs;whnf
 rw[FH zaa]
 conv=>lhs;whnf
 try dsimp -iota -beta -eta -zeta only
 rw[AX]
 rw[k5]
 exact tq rfl
end
end Go.Proofs.YtlpkjhhfhannpaaGreatDoor
