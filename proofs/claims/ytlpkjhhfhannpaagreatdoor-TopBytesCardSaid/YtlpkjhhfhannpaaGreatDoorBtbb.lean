/- Own texts of this claim: contracts of functions. -/
import Derived.Test.YtlpkjhhfhannpaaGreatDoorBtap
import Derived.Test.YtlpkjhhfhannpaaGreatDoorBtba
set_option linter.all false
set_option maxHeartbeats 40000000
set_option maxRecDepth 100000
namespace Go.Proofs.YtlpkjhhfhannpaaGreatDoor
open Go Go.Ax Go.Eng
attribute [local irreducible] CS Cj CP CW CQ BC Cm ED ES Dx EG CJ Bi Ce CX and' Cf CU BL Au BI BP BR Ag Ai AY Ae D5 EJ D6 DX Cb BZ BQ BM BO BJ AZ BK Aj Ak Ap D7 BB CV BU BF CO D8 Cc fits D9 Ci AC AQ Ah
section
variable (b:List (List UInt8))(u c:Int)(hs:List Int)(az:List (El AB))(h:Int)(qi:List Int)(qb:List (List UInt8))(se:Int)(nn v:List UInt8)
theorem A99:ssI h noSs<0:=by
 unfold ssI
 split
 ·have hk:∀ k:Nat,noSs[k]?=none\/noSs[k]?=some (0,[],[],0,0,0,0,false):=fun k=>by
   by_cases hk:k<3
   ·right
    rcases(by omega:k=0\/k=1\/k=2) with rfl|rfl|rfl<;>rfl
   ·left;simp[noSs];omega
  rcases hk (h-768).toNat with hk|hk
  ·rw[hk];exact(by decide:(-1:Int)<0)
  ·rw[hk];exact(by decide:(-1:Int)<0)
 ·decide
theorem A5a:Y E0 (.call 306 [.agg [.i 0,.i 5,.i 100,.i 0,.i 0,.i 1000],.i 0] [])=some (.ret (.agg [.i 0,.i 5,.i 100,.i 0,.i 1000,.i 1000]) []):=by
 refine tq ?_
 rfl
theorem zM:Y E0 (.call 241 [.agg [.sl (.sl .u8) (Ad zen),.sl (.sl .u8) [[],[],[],[]],.sl .u8 (BG zen BN [] 32),.i 2,.i 1,.i 0,.i 0,.b false,.sl (.sl (.sl .u8)) [],.i 0,.i 0,.sl Bf [],.i 0,.i 5,.i 100,.i 0,.i 0,.i 1000,.sl E8 [],.b true,.b false,.sl (.sl (.sl .u8)) [[],b],.i u,.i 0,.b true,.i 0,.sl sesT noSs,.sl objT noOb,.sl .i64 [],.sl .i64 [],.i c,.sl .i64 hs,.sl AB az,.sl .i64 qi,.sl (.sl .u8) qb,.i se,.sl .u8 nn,.sl .u8 v,.i 3]] [])=some (.ret (.b false) []):=by
 refine tq ?_
 refine tq ?_
 refine tq ?_
 rfl
theorem AAZ(x y:List UInt8)(hx:x.length<=100000)(hxy:x≠y):Y E0 (.call 243 [.agg [.sl (.sl .u8) (Ad zen),.sl (.sl .u8) [[],[],[],[]],.sl .u8 (BG zen BN [] 32),.i 2,.i 1,.i 0,.i 0,.b false,.sl (.sl (.sl .u8)) [],.i 0,.i 0,.sl Bf [],.i 0,.i 5,.i 100,.i 0,.i 0,.i 1000,.sl E8 [],.b true,.b false,.sl (.sl (.sl .u8)) [[],b],.i u,.i 0,.b true,.i 0,.sl sesT noSs,.sl objT noOb,.sl .i64 [],.sl .i64 [],.i c,.sl .i64 hs,.sl AB az,.sl .i64 qi,.sl (.sl .u8) qb,.i se,.sl .u8 nn,.sl .u8 v,.i 3],.sl .u8 x,.sl .u8 y] [])=some (.ret (.tup [(sX (Ad zen) [[],[],[],[]] (BG zen BN [] 32) 2 1 0 0 false [] 0 0 [] 0 5 100 0 1000 1000 [] true false [[],b] u 0 true 0 noSs noOb [] []),.i 9]) []):=by
 have he:=Z8 x y zaa
 rw[decide_eq_false hxy] at he
 have k:=TE (Ad zen) [[],[],[],[]] (BG zen BN [] 32) 2 1 0 0 false 0 0 [] 0 5 100 0 0 1000 [] true false [[],b] u 0 true 0 noSs noOb [] [] 3 [] zaj zat zat zat rfl (WV 3 zaj)
 refine tq ?_
 rw[he]
 refine tq ?_
 rw[k]
 refine tq ?_
 rw[A1C ..]
 refine tq ?_
 rw[A5a]
 exact tq rfl
theorem A5b(hc:c<23\/29<c)(hv:v=[]):Y E0 (.call 194 [.agg [.sl (.sl .u8) (Ad zen),.sl (.sl .u8) [[],[],[],[]],.sl .u8 (BG zen BN [] 32),.i 2,.i 1,.i 0,.i 0,.b false,.sl (.sl (.sl .u8)) [],.i 0,.i 0,.sl Bf [],.i 0,.i 5,.i 100,.i 0,.i 0,.i 1000,.sl E8 [],.b true,.b false,.sl (.sl (.sl .u8)) [[],b],.i u,.i 0,.b true,.i 0,.sl sesT noSs,.sl objT noOb,.sl .i64 [],.sl .i64 [],.i c,.sl .i64 hs,.sl AB az,.sl .i64 qi,.sl (.sl .u8) qb,.i se,.sl .u8 nn,.sl .u8 v,.i 3],iP 0 [] [] 0 0 0 0 false] [])=some (.ret (.tup [tb b u,.i 0]) []):=by
 have k1:=Uj (Ad zen) [[],[],[],[]] (BG zen BN [] 32) 2 1 0 0 false 0 0 [] 0 5 100 0 0 1000 [] true false [[],b] u 0 true 0 noSs noOb [] [] c hs az qi qb se nn v 3 zaj zat zat zat hc
 have k2:=zM b u c hs az qi qb se nn v
 have k3:=Qr (Ad zen) [[],[],[],[]] (BG zen BN [] 32) 2 1 0 0 false 0 0 [] 0 5 100 0 0 1000 [] true false [[],b] u 0 true 0 noSs noOb [] [] 3 [] zaj zat zat zat rfl (WV 3 zaj)
 have k4:=dQ (Ad zen) [[],[],[],[]] (BG zen BN [] 32) 2 1 0 0 false 0 0 [] 0 5 100 0 0 1000 [] true false [[],b] u 0 true 0 noSs noOb [] [] c hs az qi qb se nn v 3 [] zat
 subst hv
 refine tq ?_
 rw[k1]
 refine tq ?_
 rw[k2]
 refine tq ?_
 rw[k3]
 refine tq ?_
 rw[k4]
 exact tq rfl
theorem A5c(hc:c<23\/29<c)(hl:v.length<=1000)(hv:v≠[]):Y E0 (.call 194 [.agg [.sl (.sl .u8) (Ad zen),.sl (.sl .u8) [[],[],[],[]],.sl .u8 (BG zen BN [] 32),.i 2,.i 1,.i 0,.i 0,.b false,.sl (.sl (.sl .u8)) [],.i 0,.i 0,.sl Bf [],.i 0,.i 5,.i 100,.i 0,.i 0,.i 1000,.sl E8 [],.b true,.b false,.sl (.sl (.sl .u8)) [[],b],.i u,.i 0,.b true,.i 0,.sl sesT noSs,.sl objT noOb,.sl .i64 [],.sl .i64 [],.i c,.sl .i64 hs,.sl AB az,.sl .i64 qi,.sl (.sl .u8) qb,.i se,.sl .u8 nn,.sl .u8 v,.i 3],iP 0 [] [] 0 0 0 0 false] [])=some (.ret (.tup [(sX (Ad zen) [[],[],[],[]] (BG zen BN [] 32) 2 1 0 0 false [] 0 0 [] 0 5 100 0 1000 1000 [] true false [[],b] u 0 true 0 noSs noOb [] []),.i 9]) []):=by
 have k1:=Uj (Ad zen) [[],[],[],[]] (BG zen BN [] 32) 2 1 0 0 false 0 0 [] 0 5 100 0 0 1000 [] true false [[],b] u 0 true 0 noSs noOb [] [] c hs az qi qb se nn v 3 zaj zat zat zat hc
 have k2:=zM b u c hs az qi qb se nn v
 have k3:=Qr (Ad zen) [[],[],[],[]] (BG zen BN [] 32) 2 1 0 0 false 0 0 [] 0 5 100 0 0 1000 [] true false [[],b] u 0 true 0 noSs noOb [] [] 3 [] zaj zat zat zat rfl (WV 3 zaj)
 have k4:=AAZ b u c hs az qi qb se nn v v [] zaa hv
 refine tq ?_
 rw[k1]
 refine tq ?_
 rw[k2]
 refine tq ?_
 rw[k3]
 refine tq ?_
 rw[k4]
 exact tq rfl
theorem A5d(h:Int)(hh:0<=h/\h<=2)(hc:c<23\/29<c)(hl:v.length<=1000)(hv:v≠[]):Y E0 (.call 194 [.agg [.sl (.sl .u8) (Ad zen),.sl (.sl .u8) [[],[],[],[]],.sl .u8 (BG zen BN [] 32),.i 2,.i 1,.i 0,.i 0,.b false,.sl (.sl (.sl .u8)) [],.i 0,.i 0,.sl Bf [],.i 0,.i 5,.i 100,.i 0,.i 0,.i 1000,.sl E8 [],.b true,.b false,.sl (.sl (.sl .u8)) [[],b],.i u,.i 0,.b true,.i 0,.sl sesT noSs,.sl objT noOb,.sl .i64 [],.sl .i64 [],.i c,.sl .i64 hs,.sl AB az,.sl .i64 qi,.sl (.sl .u8) qb,.i se,.sl .u8 nn,.sl .u8 v,.i h],iP 0 [] [] 0 0 0 0 false] [])=some (.ret (.tup [tb b u,.i 9]) []):=by
 have k1:=Uj (Ad zen) [[],[],[],[]] (BG zen BN [] 32) 2 1 0 0 false 0 0 [] 0 5 100 0 0 1000 [] true false [[],b] u 0 true 0 noSs noOb [] [] c hs az qi qb se nn v h zaa zat zat zat hc
 have k2:=qm (Ad zen) [[],[],[],[]] (BG zen BN [] 32) 2 1 0 0 false 0 0 [] 0 5 100 0 0 1000 [] true false [[],b] u 0 true 0 noSs noOb [] [] c hs az qi qb se nn v h hh [] zat zat zat rfl (WV h zaa)
 have k3:=Qr (Ad zen) [[],[],[],[]] (BG zen BN [] 32) 2 1 0 0 false 0 0 [] 0 5 100 0 0 1000 [] true false [[],b] u 0 true 0 noSs noOb [] [] h [] zaa zat zat zat rfl (WV h zaa)
 have k4:=A1D (Ad zen) [[],[],[],[]] (BG zen BN [] 32) 2 1 0 0 false 0 0 [] 0 5 100 0 0 1000 [] true false [[],b] u 0 true 0 noSs noOb [] [] c hs az qi qb se nn v h v [] [] zaa hv hh zat zat zat rfl (WV h zaa)
 refine tq ?_
 rw[k1]
 refine tq ?_
 rw[k2]
 refine tq ?_
 rw[k3]
 refine tq ?_
 rw[k4]
 exact tq rfl
theorem ACJ(qi:List Int)(qb:List (List UInt8))(hh:0<=h/\h<=3)(hc:c<23\/29<c)(hv:v=[]):Y E0 (.call 139 [tb b u,.i 0,rq c [h] [(0,nn,v)] qi qb] [])=some (.ret (.tup [tb b u,.i 0]) []):=by
 by_cases h3:h=3
 ·subst h3
  have k:=A5b b u c [3] [(0,nn,v)] qi qb 0 nn v hc hv
  refine tq ?_
  rw[k]
  exact tq rfl
 ·subst hv
  exact zA (Ad zen) [[],[],[],[]] (BG zen BN [] 32) 2 1 0 0 false 0 0 [] 0 5 100 0 0 1000 [] true false [[],b] u 0 true 0 noSs noOb [] [] c h [] nn [] [] qi qb zaa zat zat zat rfl (WV h hh) hc zat
theorem AAa(qi:List Int)(qb:List (List UInt8))(hh:0<=h/\h<=2)(hc:c<23\/29<c)(hl:v.length<=1000)(hv:v≠[]):Y E0 (.call 139 [tb b u,.i 0,rq c [h] [(0,nn,v)] qi qb] [])=some (.ret (.tup [tb b u,.i 9]) []):=by
 have k:=A5d b u c [h] [(0,nn,v)] qi qb 0 nn v h hh hc hl hv
 refine tq ?_
 rw[k]
 exact tq rfl
theorem AAb(qi:List Int)(qb:List (List UInt8))(hh:h=3)(hc:c<23\/29<c)(hl:v.length<=1000)(hv:v≠[]):Y E0 (.call 139 [tb b u,.i 0,rq c [h] [(0,nn,v)] qi qb] [])=some (.ret (.tup [(sX (Ad zen) [[],[],[],[]] (BG zen BN [] 32) 2 1 0 0 false [] 0 0 [] 0 5 100 0 1000 1000 [] true false [[],b] u 0 true 0 noSs noOb [] []),.i 9]) []):=by
 subst hh
 have k:=A5c b u c [3] [(0,nn,v)] qi qb 0 nn v hc hl hv
 refine tq ?_
 rw[k]
 exact tq rfl
theorem zN(s:Int)(hs:0<=s/\s<=1099511627776):Y E0 (.call 193 [tb b u,.i s] [])=some (.ret (.tup [iP 0 [] [] 0 0 0 0 false,.i 8]) []):=by
 have k:=ZJ (Ad zen) [[],[],[],[]] (BG zen BN [] 32) 2 1 0 0 false [] 0 0 [] 0 5 100 0 0 1000 [] true false [[],b] u 0 true 0 noSs noOb [] [] s zat zaa (A99 s)
 refine tq ?_
 rw[k]
 exact tq rfl
theorem ACK(qi:List Int)(qb:List (List UInt8))(s:Int)(hs:1<=s/\s<=65535):Y E0 (.call 139 [tb b u,.i 0,rq c [h] [(s,nn,v)] qi qb] [])=some (.ret (.tup [tb b u,.i 8]) []):=by
 have k:=zN b u s zaa
 refine tq ?_
 rw[k]
 exact tq rfl
end
end Go.Proofs.YtlpkjhhfhannpaaGreatDoor
