/- Own texts of this claim: contracts of functions. -/
import Derived.Test.YtlpkjhhfhannpaaGreatDoorBtao
set_option linter.all false
set_option maxHeartbeats 40000000
set_option maxRecDepth 100000
namespace Go.Proofs.YtlpkjhhfhannpaaGreatDoor
open Go Go.Ax Go.Eng
attribute [local irreducible] CS Cj CP CW CQ BC Cm ED ES Dx EG CJ Bi Ce CX and' Cf CU BL Au BI BP BR Ag Ai AY Ae D5 EJ D6 DX Cb BZ BQ BM BO BJ AZ BK Aj Ak Ap D7 BB CV BU BF CO D8 Cc fits D9 Ci AC AQ Ah
theorem rQ:Y E0 (.loop 128 0 0 0 [(0,.i 7),(9,.agg fmC),(10,.i 0)] [])=some (.fin .ret 0 [(2,.i 0),(3,.i 0),(4,.i 1),(5,.i 1),(6,.b true)] []):=by
 rw[AL];conv=>lhs;whnf
 refine tq ?_
 refine tq ?_
 refine tq ?_
 refine tq ?_
 refine tq ?_
 exact tq rfl
theorem A1X:Y E0 (.call 128 [.i 7] [])=some (.ret (.tup [.i 0,.i 0,.i 1,.i 1,.b true]) []):=by
 refine tq ?_
 rw[rQ]
 exact tq rfl
theorem A5m:Y E0 (.call 49 [.i 7] [])=some (.ret (.tup [.agg [.i 0,.i 0,.i 1,.i 1],.b true]) []):=by
 refine tq ?_;rw[Eb];refine tq ?_;rfl
theorem ACY(i:Int)(d:List UInt8)(hi:0<=i/\i<=100)(hd:d.length<=100):rqG 7 1 [] [] [i] [d]:=by
 refine⟨A1X,MZ 1,A5m,OD 1,by decide,by simp,by simp,by simp,by simp,by simp,by simp,?_,?_,?_⟩
 ·intro x hx;simp at hx;omega
 ·intro x hx;simp at hx;subst hx;omega
 simp only[IY,I4,List.length_append,Bh,List.flatMap_nil,List.flatMap_cons,List.length_nil,List.length_cons,BX,Ba,ZN]
 omega
end Go.Proofs.YtlpkjhhfhannpaaGreatDoor
