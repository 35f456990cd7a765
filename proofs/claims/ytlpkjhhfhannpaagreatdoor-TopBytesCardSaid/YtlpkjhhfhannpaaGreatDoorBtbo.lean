/- Own texts of this claim: contracts of functions. -/
import Derived.Test.YtlpkjhhfhannpaaGreatDoorBtaw
import Derived.Test.YtlpkjhhfhannpaaGreatDoorBtbn
set_option linter.all false
set_option maxHeartbeats 40000000
set_option maxRecDepth 100000
namespace Go.Proofs.YtlpkjhhfhannpaaGreatDoor
open Go Go.Ax Go.Eng
attribute [local irreducible] CS Cj CP CW CQ BC Cm ED ES Dx EG CJ Bi Ce CX and' Cf CU BL Au BI BP BR Ag Ai AY Ae D5 EJ D6 DX Cb BZ BQ BM BO BJ AZ BK Aj Ak Ap D7 BB CV BU BF CO D8 Cc fits D9 Ci AC AQ Ah
theorem jW:Eg 32 (GR 32):=⟨DL 32 16,fun x hx=>by
 simp only[GR,Je,List.mem_map] at hx
 obtain⟨i,-,rfl⟩:=hx
 exact List.length_replicate⟩
theorem AB4:A7Q 2 (EI 2):=.inr ⟨[],GR 32,rfl,.inl rfl,.inr jW,fun _=>jW⟩
theorem xB:Y E0 (.call 12 [.agg [.sl (.sl (.sl .u8)) (EI 2),.i 0],.agg [.i 0,.i 1]] [])=some (.ret (.tup [.sl .u8 OG,.i 0]) []):=by
 obtain⟨d,er,-,h1,h2⟩:=A5R 0 0 1 AB4
 have h3:=yl 0
 rw[show([[],GR 32]:List (List (List UInt8)))=EI 2 from rfl,h1] at h3
 simp only[Option.some.injEq,Rsp.ret.injEq,AV.tup.injEq,List.cons.injEq,AV.sl.injEq,AV.i.injEq,heq_eq_eq,true_and,and_true] at h3
 rw[h2,h3.1,h3.2]
theorem Qy:Y E0 (.call 4 [] [])=some (.ret (.b true) []):=by
 obtain⟨P,hP⟩:∃ P,Wv zen OG=P:=⟨_,rfl⟩
 have hPl:P.length=32:=by rw[<-hP];exact ZR _ _
 obtain⟨ar,wr,nx,ar1,wr1,ZX,U,S,B1,B2,hU,hS,k1,k2,k3,hf,m1⟩:=AEl P hPl
 obtain⟨ar2,wr2,nx2,ar3,wr3,nx3,ar4,wr4,nx4,n,s1,s2,s3,c1,c2,c3⟩:=AEm P U S hP.symm hU ar1 wr1 ZX k1 k2 k3
 have h8:=A4c 2 zaa
 have h9:=A5V OG dW
 rw[hP] at h9
 refine tq ?_
 rw[hf]
 refine tq ?_
 rw[h8]
 refine tq ?_
 rw[xB]
 refine tq ?_
 rw[h9]
 refine tq ?_
 rw[x9 ..]
 refine tq ?_
 rw[show([UInt8.ofNat 9]:List UInt8)=[9] from rfl,m1]
 refine tq ?_
 rw[A60 _]
 refine tq ?_
 rw[c1]
 refine tq ?_
 rw[xA _]
 refine tq ?_
 rw[c2]
 refine tq ?_
 rw[ACz ..]
 refine tq ?_
 rw[ACy ..]
 refine tq ?_
 rw[c3]
 conv=>lhs;whnf
 try dsimp -iota -beta -eta -zeta only
 rw[drw zaw];conv=>lhs;whnf
 rw[nG];conv=>lhs;whnf
 rw[Dz zah]
 conv=>lhs;whnf
 rw[nG];conv=>lhs;whnf
 rw[nG];conv=>lhs;whnf
 rw[J5,Dz zbe]
end Go.Proofs.YtlpkjhhfhannpaaGreatDoor
