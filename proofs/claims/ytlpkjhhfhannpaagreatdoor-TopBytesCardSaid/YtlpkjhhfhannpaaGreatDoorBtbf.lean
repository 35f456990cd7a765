/- Own texts of this claim: contracts of functions. -/
import Derived.Test.YtlpkjhhfhannpaaGreatDoorBtbd
set_option linter.all false
set_option maxHeartbeats 40000000
set_option maxRecDepth 100000
namespace Go.Proofs.YtlpkjhhfhannpaaGreatDoor
open Go Go.Ax Go.Eng
attribute [local irreducible] CS Cj CP CW CQ BC Cm ED ES Dx EG CJ Bi Ce CX and' Cf CU BL Au BI BP BR Ag Ai AY Ae D5 EJ D6 DX Cb BZ BQ BM BO BJ AZ BK Aj Ak Ap D7 BB CV BU BF CO D8 Cc fits D9 Ci AC AQ Ah
variable (b:List (List UInt8))(u:Int)
theorem jT(h k n o s0 s1:Int)(d nm op rf:List UInt8)(br:List (List UInt8))(hh:0<=h/\h<=1099511627776):Y E0 (.call 232 [tb b u,.i h,.agg [.i k,.i s0,.i s1,.sl .u8 d,.i n,.i o,.sl .u8 op,.sl .u8 nm,.sl .u8 rf,.sl (.sl .u8) br]] [])=some (.ret (.tup [zS,.i 8]) []):=by
 have k:=ZV b u h hh
 refine tq ?_
 rw[k]
 exact tq rfl
theorem A8G(h k s0 s1 n o:Int)(hk:k=1\/k=4):Y E0 (.call 190 [tb b u,rq 17 [] [] [h,k,s0,s1,n,o] []] [])=some (.ret (.tup [tb b u,Hr 1 [] [] []]) []):=by
 have kf:=Eu (Ad zen) [[],[],[],[]] (BG zen BN [] 32) 2 1 0 0 false 0 0 [] 0 5 100 0 0 1000 [] true false [[],b] u 0 true 0 noSs noOb [] [] 1
 rcases hk with rfl|rfl
 ·refine tq ?_
  rw[Bv zah]
  conv=>lhs;whnf
  refine tq ?_
  rw[Bv zah]
  conv=>lhs;whnf
  refine tq ?_
  rw[Bv zah]
  conv=>lhs;whnf
  refine tq ?_
  refine tq ?_
  with_reducible rfl
 ·refine tq ?_
  rw[Bv zah]
  conv=>lhs;whnf
  refine tq ?_
  rw[Bv zah]
  conv=>lhs;whnf
  refine tq ?_
  rw[Bv zah]
  conv=>lhs;whnf
  refine tq ?_
  refine tq ?_
  with_reducible rfl
theorem A8H(h k s0 s1 n o:Int)(x y:List UInt8)(bs:List (List UInt8))(hk:k=1\/k=4)(hl:bs.length<=8):Y E0 (.call 190 [tb b u,rq 17 [] [] [h,k,s0,s1,n,o] (x::y::bs)] [])=some (.ret (.tup [tb b u,Hr 1 [] [] []]) []):=by
 have kf:=Eu (Ad zen) [[],[],[],[]] (BG zen BN [] 32) 2 1 0 0 false 0 0 [] 0 5 100 0 0 1000 [] true false [[],b] u 0 true 0 noSs noOb [] [] 1
 have e:ES (Ak (x::y::bs)) 1=true:=Ih (by rw[AP];simp;omega)
 rcases hk with rfl|rfl
 ·refine tq ?_
  rw[Bv zah]
  conv=>lhs;whnf
  refine tq ?_
  rw[Bv zah]
  conv=>lhs;whnf
  refine tq ?_
  rw[Bv zah]
  conv=>lhs;whnf
  refine tq ?_
  refine tq ?_
  with_reducible rfl
 ·refine tq ?_
  rw[Bv zah]
  conv=>lhs;whnf
  refine tq ?_
  rw[Bv zah]
  conv=>lhs;whnf
  refine tq ?_
  rw[Bv zah]
  conv=>lhs;whnf
  refine tq ?_
  refine tq ?_
  with_reducible rfl
theorem AAk(h k s0 s1 n o:Int)(bs:List (List UInt8))(hk:k≠1/\k≠4/\k≠8)(hb:bs.length≠0)(hl:bs.length<=8):Y E0 (.call 190 [tb b u,rq 17 [] [] [h,k,s0,s1,n,o] bs] [])=some (.ret (.tup [tb b u,Hr 1 [] [] []]) []):=by
 have kf:=Eu (Ad zen) [[],[],[],[]] (BG zen BN [] 32) 2 1 0 0 false 0 0 [] 0 5 100 0 0 1000 [] true false [[],b] u 0 true 0 noSs noOb [] [] 1
 refine tq ?_
 rw[Bv zah]
 conv=>lhs;whnf
 refine tq ?_
 rw[Bv zah]
 conv=>lhs;whnf
 refine tq ?_
 rw[Bv zah]
 conv=>lhs;whnf
 refine tq ?_
 refine tq ?_
 with_reducible rfl
theorem AAl(h s0 s1 n o:Int)(x:List UInt8):Y E0 (.call 190 [tb b u,rq 17 [] [] [h,4,s0,s1,n,o] [x]] [])=some (.ret (.tup [tb b u,Hr 7 [] [] []]) []):=by
 have kf:=Eu (Ad zen) [[],[],[],[]] (BG zen BN [] 32) 2 1 0 0 false 0 0 [] 0 5 100 0 0 1000 [] true false [[],b] u 0 true 0 noSs noOb [] [] 7
 have k:=OH (Ad zen) [[],[],[],[]] (BG zen BN [] 32) 2 1 0 0 false 0 0 [] 0 5 100 0 0 1000 [] true false [[],b] u 0 true 0 noSs noOb [] [] n rfl
 rw[AL]
 conv=>lhs;whnf
 rw[Zc];conv=>lhs;whnf
 rw[lg2];conv=>lhs;whnf
 rw[Bv zah]
 conv=>lhs;whnf
 try dsimp -iota -beta -eta -zeta only
 rw[Bv zah]
 conv=>lhs;whnf
 rw[Bv zah]
 conv=>lhs;whnf
 try dsimp -iota -beta -eta -zeta only
 rw[drw zaw];conv=>lhs;whnf
 rw[Aa zaa]
 conv=>lhs;whnf
 rw[Dz zaa]
 conv=>lhs;whnf
 rw[FH zah]
 conv=>lhs;whnf
 rw[AL]
 conv=>lhs;whnf
 rw[Aa zaa]
 conv=>lhs;whnf
 rw[Dz zaa]
 conv=>lhs;whnf
 try dsimp -iota -beta -eta -zeta only
 rw[AX]
 rw[OH (hix:=AA) ..]
 refine tq ?_
 rw[kf]
 exact tq rfl
end Go.Proofs.YtlpkjhhfhannpaaGreatDoor
