/- Own texts of this claim: contracts of functions. -/
import Derived.Test.YtlpkjhhfhannpaaGreatDoorBtbb
import Derived.Test.YtlpkjhhfhannpaaGreatDoorBtbc
set_option linter.all false
set_option maxHeartbeats 40000000
set_option maxRecDepth 100000
namespace Go.Proofs.YtlpkjhhfhannpaaGreatDoor
open Go Go.Ax Go.Eng
attribute [local irreducible] CS Cj CP CW CQ BC Cm ED ES Dx EG CJ Bi Ce CX and' Cf CU BL Au BI BP BR Ag Ai AY Ae D5 EJ D6 DX Cb BZ BQ BM BO BJ AZ BK Aj Ak Ap D7 BB CV BU BF CO D8 Cc fits D9 Ci AC AQ Ah
variable (b:List (List UInt8))(u:Int)
@[reducible] def zS:AV:=(sX [] [] [] 0 0 0 0 false [] 0 0 [] 0 0 0 0 0 0 [] false false [] 0 0 false 0 [] [] [] [])
theorem Qx(e:Int)(he:e≠0):Y E0 (.call 185 [tb b u,zS,.i e] [])=some (.ret (.tup [tb b u,Hr e [] [] []]) []):=by
 have k:=Eu (Ad zen) [[],[],[],[]] (BG zen BN [] 32) 2 1 0 0 false 0 0 [] 0 5 100 0 0 1000 [] true false [[],b] u 0 true 0 noSs noOb [] [] e
 refine tq ?_
 refine tq ?_
 with_reducible rfl
theorem ACN(n:Int):Y E0 (.call 184 [tb b u,.i n] [])=some (.ret (.tup [zS,.i 28]) []):=by
 refine tq ?_
 with_reducible rfl
theorem AEW(n:Int):Lr (.call 138 [tb b u,.i 0,rq 1 [] [] [n] []] []):=by
 refine JJ (b:=b) (u:=u) (e:=28) zaj ?_
 have k:=ACN b u n
 have k2:=Qx b u 28 zaj
 refine tq ?_
 rw[k]
 refine tq ?_
 rw[k2]
 exact tq rfl
theorem AEX:Lr (.call 138 [tb b u,.i 0,rq 4 [] [] [] []] []):=by
 refine⟨Wx b u,0,[0,1,0,1],[],Rz b u,⟨.inl rfl,by decide,by decide,by decide,by simp,by simp,by simp⟩,?_⟩
 refine tq ?_
 with_reducible rfl
theorem zO(h:Int)(hh:0<=h/\h<=1099511627776):Y E0 (.call 239 [tb b u,.i h] [])=some (.ret (.tup [.i 0,iP 0 [] [] 0 0 0 0 false,.b false]) []):=ZJ (Ad zen) [[],[],[],[]] (BG zen BN [] 32) 2 1 0 0 false [] 0 0 [] 0 5 100 0 0 1000 [] true false [[],b] u 0 true 0 noSs noOb [] [] h zat zaa (A99 h)
theorem ZV(h:Int)(hh:0<=h/\h<=1099511627776):Y E0 (.call 234 [tb b u,.i h] [])=some (.ret (.tup [.i 0,iP 0 [] [] 0 0 0 0 false,.b false]) []):=by
 have k:=zO b u h hh
 refine tq ?_
 rw[k]
 exact tq rfl
theorem A5g(h:Int)(hh:0<=h/\h<=1099511627776):Y E0 (.call 209 [tb b u,.i h] [])=some (.ret (.tup [zS,.i 8]) []):=by
 have k:=zO b u h hh
 refine tq ?_
 rw[k]
 exact tq rfl
theorem A5h(h:Int)(hh:0<=h/\h<=1099511627776):Y E0 (.call 188 [tb b u,rq 12 [] [] [h] []] [])=some (.ret (.tup [tb b u,Hr 7 [] [] []]) []):=by
 have k:=A5g b u h hh
 have k2:=wG (Ad zen) [[],[],[],[]] (BG zen BN [] 32) 2 1 0 0 false [] 0 0 [] 0 5 100 0 0 1000 [] true false [[],b] u 0 true 0 noSs noOb [] [] h zat zaa (jR h)
 refine tq ?_
 rw[qX (hl:=AA) ..]
 refine tq ?_
 rw[k]
 refine tq ?_
 rw[k2]
 refine tq ?_
 rw[QG ..]
 exact tq rfl
theorem ACO(h:Int)(hh:0<=h/\h<=1099511627776):Lr (.call 138 [tb b u,.i 0,rq 12 [] [] [h] []] []):=by
 refine JJ (b:=b) (u:=u) (e:=7) zaj ?_
 have k:=A5h b u h hh
 refine tq ?_
 rw[k]
 exact tq rfl
theorem A8D(n:Int)(hn:n<1\/3<n):Y E0 (.call 230 [tb b u,.i n] [])=some (.ret (.tup [zS,.i 0,.i 1]) []):=by
 rcases hn with hn|hn
 ·refine tq ?_
  with_reducible rfl
 ·refine tq ?_
  with_reducible rfl
theorem A5i(n:Int)(hn:n<1\/3<n):Y E0 (.call 189 [tb b u,rq 16 [] [] [n] []] [])=some (.ret (.tup [tb b u,Hr 1 [] [] []]) []):=by
 have k:=A8D b u n hn
 have k2:=Eu (Ad zen) [[],[],[],[]] (BG zen BN [] 32) 2 1 0 0 false 0 0 [] 0 5 100 0 0 1000 [] true false [[],b] u 0 true 0 noSs noOb [] [] 1
 refine tq ?_
 rw[k]
 refine tq ?_
 rw[k2]
 exact tq rfl
theorem ACP(n:Int)(hn:n<1\/3<n):Lr (.call 138 [tb b u,.i 0,rq 16 [] [] [n] []] []):=by
 refine JJ (b:=b) (u:=u) (e:=1) zaj ?_
 have k:=A5i b u n hn
 refine tq ?_
 rw[k]
 exact tq rfl
theorem AAc(n:Int)(hn:1<=n/\n<=3):Lr (.call 138 [tb b u,.i 0,rq 16 [] [] [n] []] []):=by
 have k:=yz (Ad zen) [[],[],[],[]] (BG zen BN [] 32) 2 1 0 0 false 0 0 [] 0 5 100 0 0 1000 [] true false [[],b] u 0 true 0 noSs noOb [] [] n hn zat (by rw[Et zaj];decide) 0 [] [] 0 0 0 0 false rfl (by intro i hi;omega) []
 refine⟨{Wx b u with dr:=CS 0 1,ss:=BB noSs ((0:Nat):Int) (n,JA (BG zen BN [] 32) 1 0 0 16,zen,-1,31,0,0,false)},0,[768+((0:Nat):Int)],[JA (BG zen BN [] 32) 1 0 0 16],Um _ rfl (JF 1 zaj),⟨.inl rfl,by simp,by simp,by simp,?_,?_,by simp⟩,k⟩
 ·intro x hx;simp at hx;omega
 ·intro x hx;simp at hx;subst hx;unfold JA;rw[Et zaj];decide
theorem ACQ(h:Int)(hh:0<=h/\h<=1099511627776):Lr (.call 138 [tb b u,.i 0,rq 20 [] [] [h] []] []):=by
 refine JJ (b:=b) (u:=u) (e:=8) zaj ?_
 have k:=zN b u h hh
 refine tq ?_
 rw[k]
 refine tq ?_
 rw[Eu ..]
 exact tq rfl
end Go.Proofs.YtlpkjhhfhannpaaGreatDoor
