/- Own texts of this claim: contracts of functions. -/
import Derived.Test.YtlpkjhhfhannpaaGreatDoorBtbf
set_option linter.all false
set_option maxHeartbeats 40000000
set_option maxRecDepth 100000
namespace Go.Proofs.YtlpkjhhfhannpaaGreatDoor
open Go Go.Ax Go.Eng
attribute [local irreducible] CS Cj CP CW CQ BC Cm ED ES Dx EG CJ Bi Ce CX and' Cf CU BL Au BI BP BR Ag Ai AY Ae D5 EJ D6 DX Cb BZ BQ BM BO BJ AZ BK Aj Ak Ap D7 BB CV BU BF CO D8 Cc fits D9 Ci AC AQ Ah
theorem A9A{b:List UInt8}{p:Nat}{e:Int}(h:e=0\/e=2\/e=4):0<=PI b p e/\PI b p e<=20:=by
 unfold PI
 split
 ·decide
 ·omega
theorem ACV(x:List UInt8):0<=(Fh x).2/\(Fh x).2<=20:=by
 unfold Fh
 dsimp only
 split
 ·exact A9A (QF (QF (Mc zaj (Mc zaj (Mc zaj (.inl rfl))))))
 ·unfold DI
  repeat' split
  all_goals first|decide|omega
variable (b:List (List UInt8))(u:Int)
theorem AAm(h k s0 s1 n o:Int)(bs:List (List UInt8))(hh:0<=h/\h<=1099511627776)(hk:k=8\/k≠1/\k≠4/\bs=[])(hl:bs.length<=8):Y E0 (.call 190 [tb b u,rq 17 [] [] [h,k,s0,s1,n,o] bs] [])=some (.ret (.tup [tb b u,Hr 8 [] [] []]) []):=by
 have kd:=Qx b u 8 zaj
 by_cases h8:k=8
 ·subst h8
  rw[AL]
  conv=>lhs;whnf
  rw[Zc];conv=>lhs;whnf
  rw[lg2];conv=>lhs;whnf
  rw[Bv zah]
  conv=>lhs;whnf
  try dsimp -iota -beta -eta -zeta only
  rw[Bv zah]
  conv=>lhs;whnf
  rw[Bv zah]
  conv=>lhs;whnf
  try dsimp -iota -beta -eta -zeta only
  rw[drw zaw];conv=>lhs;whnf
  rw[Aa zaa]
  conv=>lhs;whnf
  rw[Aa zaa]
  conv=>lhs;whnf
  rw[Dz zaa]
  conv=>lhs;whnf
  rw[AL]
  conv=>lhs;whnf
  rw[Aa zaa]
  conv=>lhs;whnf
  rw[Aa zaa]
  conv=>lhs;whnf
  rw[AL]
  conv=>lhs;whnf
  try dsimp -iota -beta -eta -zeta only
  rw[nG];conv=>lhs;whnf
  try dsimp -iota -beta -eta -zeta only
  rw[AX]
  rw[jT _ _ _ _ _ _ _ _ _ _ _ _ _ hh]
  refine tq ?_
  rw[kd]
  exact tq rfl
 ·obtain⟨h1,h4,rfl⟩:=hk.resolve_left h8
  rw[AL]
  conv=>lhs;whnf
  rw[Zc];conv=>lhs;whnf
  rw[lg2];conv=>lhs;whnf
  rw[Bv zah]
  conv=>lhs;whnf
  try dsimp -iota -beta -eta -zeta only
  rw[Bv zah]
  conv=>lhs;whnf
  rw[Bv zah]
  conv=>lhs;whnf
  try dsimp -iota -beta -eta -zeta only
  rw[drw zaw];conv=>lhs;whnf
  rw[Aa zaa]
  conv=>lhs;whnf
  rw[Aa zaa]
  conv=>lhs;whnf
  rw[Aa zaa]
  conv=>lhs;whnf
  rw[FH zah]
  conv=>lhs;whnf
  rw[AL]
  conv=>lhs;whnf
  rw[Aa zaa]
  conv=>lhs;whnf
  rw[Aa zaa]
  conv=>lhs;whnf
  rw[AL]
  conv=>lhs;whnf
  try dsimp -iota -beta -eta -zeta only
  rw[nG];conv=>lhs;whnf
  try dsimp -iota -beta -eta -zeta only
  rw[AX]
  rw[jT _ _ _ _ _ _ _ _ _ _ _ _ _ hh]
  refine tq ?_
  rw[kd]
  exact tq rfl
theorem AAn(h s0 s1 n o:Int)(x:List UInt8)(hh:0<=h/\h<=1099511627776):Y E0 (.call 190 [tb b u,rq 17 [] [] [h,1,s0,s1,n,o] [x]] [])=some (.ret (.tup [tb b u,Hr 8 [] [] []]) []):=by
 have kd:=Qx b u 8 zaj
 rw[AL]
 conv=>lhs;whnf
 rw[Zc];conv=>lhs;whnf
 rw[lg2];conv=>lhs;whnf
 rw[Bv zah]
 conv=>lhs;whnf
 try dsimp -iota -beta -eta -zeta only
 rw[Bv zah]
 conv=>lhs;whnf
 rw[Bv zah]
 conv=>lhs;whnf
 try dsimp -iota -beta -eta -zeta only
 rw[drw zaw];conv=>lhs;whnf
 rw[Dz zaa]
 conv=>lhs;whnf
 rw[FH zah]
 conv=>lhs;whnf
 rw[AL]
 conv=>lhs;whnf
 rw[Dz zaa]
 conv=>lhs;whnf
 rw[nG];conv=>lhs;whnf
 rw[AL]
 conv=>lhs;whnf
 try dsimp -iota -beta -eta -zeta only
 rw[nG];conv=>lhs;whnf
 try dsimp -iota -beta -eta -zeta only
 rw[AX]
 rw[jT _ _ _ _ _ _ _ _ _ _ _ _ _ hh]
 refine tq ?_
 rw[kd]
 exact tq rfl
theorem ACW(h k s0 s1 n o:Int)(bs:List (List UInt8))(hh:0<=h/\h<=1099511627776)(hl:bs.length<=8):Lr (.call 138 [tb b u,.i 0,rq 17 [] [] [h,k,s0,s1,n,o] bs] []):=by
 have hx:∃ e:Int,(0<e/\e<=255)/\Y E0 (.call 190 [tb b u,rq 17 [] [] [h,k,s0,s1,n,o] bs] [])=some (.ret (.tup [tb b u,Hr e [] [] []]) []):=by
  by_cases h8:k=8\/k≠1/\k≠4/\bs=[]
  ·exact⟨8,by decide,AAm b u h k s0 s1 n o bs hh h8 hl⟩
  by_cases h14:k=1\/k=4
  ·by_cases hb:bs.length=1
   ·obtain⟨x,rfl⟩:=List.length_eq_one_iff.1 hb
    rcases h14 with rfl|rfl
    ·exact⟨8,by decide,AAn b u h s0 s1 n o x hh⟩
    ·exact⟨7,by decide,AAl b u h s0 s1 n o x⟩
   ·match bs,hb,hl with
    | [],_,_=>exact⟨1,by decide,A8G b u h k s0 s1 n o h14⟩
    | [x],hb,_=>exact absurd rfl hb
    | x::y::r,_,hl=>exact⟨1,by decide,A8H b u h k s0 s1 n o x y r h14 zbH⟩
  ·exact⟨1,by decide,AAk b u h k s0 s1 n o bs zaa (fun hb=>h8 (.inr ⟨by omega,by omega,List.length_eq_zero_iff.1 hb⟩)) hl⟩
 obtain⟨e,he,kx⟩:=hx
 refine JJ (b:=b) (u:=u) (e:=e) he ?_
 refine tq ?_
 rw[kx]
 exact tq rfl
theorem A8I(h:Int)(K A H:Int)(po un x y:List UInt8)(hh:0<=h/\h<=1099511627776):Y E0 (.call 192 [tb b u,.i h,.agg [.i K,.i A,.i H,.sl .u8 po,.sl .u8 un],.sl .u8 x,.sl .u8 y] [])=some (.ret (.tup [zS,.i 8]) []):=by
 have k:=ZV b u h hh
 refine tq ?_
 rw[k]
 exact tq rfl
theorem ACX(h:Int)(x y z:List UInt8)(hh:0<=h/\h<=1099511627776)(hx:x.length<=1024):Lr (.call 138 [tb b u,.i 0,rq 19 [] [] [h] [x,y,z]] []):=by
 have k:=A7a x zaa
 by_cases he:(Fh x).2=0
 ·refine JJ (b:=b) (u:=u) (e:=8) zaj ?_
  rw[he] at k
  have k2:=A8I b u h (Fh x).1.kind (Fh x).1.attr (Fh x).1.height (Fh x).1.policy (Fh x).1.unique y z hh
  have kd:=Qx b u 8 zaj
  refine tq ?_
  rw[k]
  refine tq ?_
  rw[k2]
  refine tq ?_
  rw[kd]
  exact tq rfl
 ·refine JJ (b:=b) (u:=u) (e:=(Fh x).2) (by have:=ACV x;omega) ?_
  have kf:=Eu (Ad zen) [[],[],[],[]] (BG zen BN [] 32) 2 1 0 0 false 0 0 [] 0 5 100 0 0 1000 [] true false [[],b] u 0 true 0 noSs noOb [] [] (Fh x).2
  refine tq ?_
  rw[k]
  refine tq ?_
  rw[kf]
  exact tq rfl
end Go.Proofs.YtlpkjhhfhannpaaGreatDoor
