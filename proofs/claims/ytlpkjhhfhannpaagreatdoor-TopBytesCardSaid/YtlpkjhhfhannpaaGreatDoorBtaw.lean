/- Own texts of this claim: contracts of functions. -/
import Derived.Test.YtlpkjhhfhannpaaGreatDoorBtav
set_option linter.all false
set_option maxHeartbeats 40000000
set_option maxRecDepth 100000
namespace Go.Proofs.YtlpkjhhfhannpaaGreatDoor
open Go Go.Ax Go.Eng
attribute [local irreducible] CS Cj CP CW CQ BC Cm ED ES Dx EG CJ Bi Ce CX and' Cf CU BL Au BI BP BR Ag Ai AY Ae D5 EJ D6 DX Cb BZ BQ BM BO BJ AZ BK Aj Ak Ap D7 BB CV BU BF CO D8 Cc fits D9 Ci AC AQ Ah
variable (u s0 s1:Int)
section
attribute [local irreducible] BG DY CY nameB Eh Ef Az Ei Eo F5 Ff Fh Bg Io GI JD Jk JE Jh Ha NZ Na IJ
theorem Qv{E:Env}{q:Rq}{R:Option Rsp->Prop}(h:EC E q R):∃ r,Y E q=r/\R r:=⟨_,rfl,h⟩
theorem A1L(b0 b1:List (List UInt8))(u s0 s1:Int)(h0:b0=[]\/Eg 20 b0)(h1:b1=[]\/Eg 32 b1):EC E0 (.call 12 [Lh [b0,b1] u,.agg [.i s0,.i s1]] []) fun r=>(∃ e:Int,(e=1/\¬(0<=s0/\s0<=65535/\0<=s1/\s1<=65535)\/e=27/\(0<=s0/\s0<=65535/\0<=s1/\s1<=65535)/\¬((s0=0\/0<b0.length)/\(s1=0\/0<b1.length)))/\r=some (.ret (.tup [.sl .u8 [],.i e]) []))\/(((0<=s0/\s0<=65535/\0<=s1/\s1<=65535)/\(s0=0\/0<b0.length)/\(s1=0\/0<b1.length))/\r=some (.ret (.tup [.sl .u8 (AAS s0 s1 b0 b1),.i 0]) [])):=by
 have k0:=(WO h0 zaj).2
 have k1:=(WO h1 zaj).2
 have l0:=Qn (s:=s0) k0
 have l1:=Qn (s:=s1) k1
 have hf:(Az 5 [Bg (Bg [] 2 s0) 2 s1,OC s0 b0++OC s1 b1]).length<=4294967295:=by rw[Aw,A8,A8,List.length_append,List.length_nil];omega
 refine G5 fun P hP=>?_
 refine tw ?_
 obtain(⟨h0_0,yy0⟩|⟨⟨h0_1,h0_2,h0_3,h0_4⟩,yy0⟩):=pW b0 b1 u s0 s1
 ·
  refine Dv yy0 ?_
  exact hP _ (Or.inl ⟨1,AA,rfl⟩)
 refine Dv yy0 ?_
 obtain(⟨x1,h1_1,yy1⟩|⟨⟨h1_2,h1_3⟩,yy1⟩):=pX b0 b1 u s0 s1 AA AA
 ·
  refine Dv yy1 ?_
  exact hP _ (Or.inl ⟨27,AA,rfl⟩)
 refine Dv yy1 ?_
 rw[EN _ _ _ AA]
 refine tw ?_
 rw[EN _ _ _ AA]
 refine tw ?_
 rw[FK _ _ hf zat]
 refine tw ?_
 exact hP _ (Or.inr ⟨AA,rfl⟩)
theorem jM:EC E0 (.loop 12 0 0 2 [(2,AV.pa 0 0),(3,AV.pa 1 0),(6,AV.i 0)] [(0,some (Rs.var [AV.sl Ty.u8.sl.sl [],AV.i u])),(1,some (Rs.var [AV.i s0,AV.i s1]))]) fun r=>(¬(0<=s0/\s0<=65535/\0<=s1/\s1<=65535)/\r=some (.fin .ret 2 [(2,.pa 0 0),(3,.pa 1 0),(4,.nil),(5,.i 1)] [(0,some (Rs.var [AV.sl Ty.u8.sl.sl [],AV.i u])),(1,some (Rs.var [AV.i s0,AV.i s1]))]))\/((0<=s0/\s0<=65535/\0<=s1/\s1<=65535)/\r=some (.fin (.exit 0) 2 [(2,.pa 0 0),(3,.pa 1 0)] [(0,some (Rs.var [AV.sl Ty.u8.sl.sl [],AV.i u])),(1,some (Rs.var [AV.i s0,AV.i s1]))])):=by
 refine G5 fun P hP=>?_
 rw[AL];conv=>arg 1;whnf
 refine tw ?_
 rcases Bc s0 0 with hc0|hc0
 ·
  refine tw ?_
  exact hP _ (Or.inl ⟨AA,rfl⟩)
 refine tw ?_
 rcases Bc 65535 s0 with hc1|hc1
 ·
  refine tw ?_
  exact hP _ (Or.inl ⟨AA,rfl⟩)
 refine tw ?_
 refine tw ?_
 rcases Bc s1 0 with hc2|hc2
 ·
  refine tw ?_
  exact hP _ (Or.inl ⟨AA,rfl⟩)
 refine tw ?_
 rcases Bc 65535 s1 with hc3|hc3
 ·
  refine tw ?_
  exact hP _ (Or.inl ⟨AA,rfl⟩)
 refine tw ?_
 refine tw ?_
 exact hP _ (Or.inr ⟨AA,rfl⟩)
theorem Uk(u s0 s1:Int)(acc:List UInt8)(ha:acc.length<=20000)(hs:s0=0):∀(n j:Nat),j+n=16->Y E0 (.loop 12 2 0 3 [(2,AV.pa 0 0),(3,AV.pa 1 0),(7,AV.nm 2),(8,AV.i 0),(9,AV.i (j:Int))] [(0,some (Rs.var [AV.sl Ty.u8.sl.sl [],AV.i u])),(1,some (Rs.var [AV.i s0,AV.i s1])),(2,some (Rs.row 5 Ty.u8 acc))])=some (.fin (.exit 4) 3 [(2,AV.pa 0 0),(3,AV.pa 1 0),(7,AV.nm 2),(8,AV.i 0)] [(0,some (Rs.var [AV.sl Ty.u8.sl.sl [],AV.i u])),(1,some (Rs.var [AV.i s0,AV.i s1])),(2,some (Rs.row 5 Ty.u8 acc))])
 | 0,j,hj=>by
  obtain rfl:j=16:=zaa
  rw[AL];conv=>lhs;whnf
  refine tq ?_
  with_reducible rfl
 | n+1,j,hj=>by
  have ih:=Uk u s0 s1 acc ha hs n (j+1) zaa
  rw[show((j+1:Nat):Int)=(j:Int)+1 from by omega] at ih
  have hb:¬BC .and (Bi s0 (BZ ((j:Nat):Int)).toNat) 1=1:=by rw[hs,cO j zaa];decide
  rw[AL];conv=>lhs;whnf
  refine tq ?_
  exact ih
theorem Ul(u s0 s1:Int)(acc:List UInt8)(ha:acc.length<=20000)(hs:s1=0):∀(n j:Nat),j+n=16->Y E0 (.loop 12 2 0 3 [(2,AV.pa 0 0),(3,AV.pa 1 0),(7,AV.nm 2),(8,AV.i 1),(9,AV.i (j:Int))] [(0,some (Rs.var [AV.sl Ty.u8.sl.sl [],AV.i u])),(1,some (Rs.var [AV.i s0,AV.i s1])),(2,some (Rs.row 5 Ty.u8 acc))])=some (.fin (.exit 4) 3 [(2,AV.pa 0 0),(3,AV.pa 1 0),(7,AV.nm 2),(8,AV.i 1)] [(0,some (Rs.var [AV.sl Ty.u8.sl.sl [],AV.i u])),(1,some (Rs.var [AV.i s0,AV.i s1])),(2,some (Rs.row 5 Ty.u8 acc))])
 | 0,j,hj=>by
  obtain rfl:j=16:=zaa
  rw[AL];conv=>lhs;whnf
  refine tq ?_
  with_reducible rfl
 | n+1,j,hj=>by
  have ih:=Ul u s0 s1 acc ha hs n (j+1) zaa
  rw[show((j+1:Nat):Int)=(j:Int)+1 from by omega] at ih
  have hb:¬BC .and (Bi s1 (BZ ((j:Nat):Int)).toNat) 1=1:=by rw[hs,cO j zaa];decide
  rw[AL];conv=>lhs;whnf
  refine tq ?_
  exact ih
theorem jO:EC E0 (.loop 12 1 0 3 [(2,AV.pa 0 0),(3,AV.pa 1 0),(7,AV.nm 2),(8,AV.i 0)] [(0,some (Rs.var [AV.sl Ty.u8.sl.sl [],AV.i u])),(1,some (Rs.var [AV.i s0,AV.i s1])),(2,some (Rs.row 5 Ty.u8 []))]) fun r=>(∃ x:List UInt8,(¬(s0=0/\s1=0))/\r=some (.fin .ret 1 [(3,AV.pa 0 0),(4,AV.nil),(5,AV.i 27),(7,AV.sl Ty.u8 x)] [(0,some (Rs.var [AV.i s0,AV.i s1]))]))\/((s0=0/\s1=0)/\r=some (.fin (.exit 2) 1 [(3,AV.pa 0 0),(7,AV.sl Ty.u8 [])] [(0,some (Rs.var [AV.i s0,AV.i s1]))])):=by
 have e0:=fun h=>Uk u s0 s1 [] zat h 16 0 zaa
 have e1:=fun h=>Ul u s0 s1 [] zat h 16 0 zaa
 simp only[show((0:Nat):Int)=0 from rfl] at e0 e1
 refine G5 fun P hP=>?_
 rw[AL];conv=>arg 1;whnf
 refine tw ?_
 rcases CE s0 0 with hc0|hc0
 ·
  refine tw ?_
  rw[bz _ _ AA]
  refine tw ?_
  exact hP _ (Or.inl ⟨[],AA,rfl⟩)
 subst hc0
 replace e0:=e0 rfl
 refine tw ?_
 rw[e0]
 refine tw ?_
 refine tw ?_
 rcases CE s1 0 with hc1|hc1
 ·
  refine tw ?_
  rw[bz _ _ AA]
  refine tw ?_
  exact hP _ (Or.inl ⟨[],AA,rfl⟩)
 subst hc1
 replace e1:=e1 rfl
 refine tw ?_
 rw[e1]
 refine tw ?_
 refine tw ?_
 exact hP _ (Or.inr ⟨AA,rfl⟩)
theorem A1M:EC E0 (.call 12 [.agg [AV.sl Ty.u8.sl.sl [],AV.i u],.agg [.i s0,.i s1]] []) fun r=>(∃ e:Int,(e=1/\¬(0<=s0/\s0<=65535/\0<=s1/\s1<=65535)\/e=27/\(0<=s0/\s0<=65535/\0<=s1/\s1<=65535)/\¬(s0=0/\s1=0))/\r=some (.ret (.tup [.sl .u8 [],.i e]) []))\/(((0<=s0/\s0<=65535/\0<=s1/\s1<=65535)/\(s0=0/\s1=0))/\r=some (.ret (.tup [.sl .u8 (sha256 (Az 5 [Bg (Bg [] 2 s0) 2 s1,[]])),.i 0]) [])):=by
 have hf:(Az 5 [Bg (Bg [] 2 s0) 2 s1,[]]).length<=4294967295:=by rw[Aw,A8,A8,List.length_nil];simp
 obtain⟨r0,e0,hr0⟩:=Qv (jM u s0 s1)
 obtain⟨r1,e1,hr1⟩:=Qv (jO u s0 s1)
 rcases hr0 with⟨hn,rfl⟩|⟨hn,rfl⟩
 ·refine G5 fun P hP=>?_
  refine tw ?_
  rw[e0]
  refine tw ?_
  exact hP _ (Or.inl ⟨1,AA,rfl⟩)
 ·rcases hr1 with⟨x,hm,rfl⟩|⟨hm,rfl⟩
  ·refine G5 fun P hP=>?_
   refine tw ?_
   rw[e0]
   refine tw ?_
   rw[e1]
   refine tw ?_
   exact hP _ (Or.inl ⟨27,AA,rfl⟩)
  ·refine G5 fun P hP=>?_
   refine tw ?_
   rw[e0]
   refine tw ?_
   rw[e1]
   refine tw ?_
   rw[EN _ _ _ AA]
   refine tw ?_
   rw[EN _ _ _ AA]
   refine tw ?_
   rw[FK _ _ hf zat]
   refine tw ?_
   exact hP _ (Or.inr ⟨AA,rfl⟩)
theorem rE:Y E0 (.call 155 [.agg [AV.sl Ty.u8.sl.sl [],AV.i u]] [])=some (.ret (.i 0) []):=by
 have hq:Y E0 (.loop 155 0 0 1 [(1,.pa 0 0),(3,.i 0),(7,.i (Ak ([]:List (List (List UInt8))))),(8,.i 0)] [(0,some (.var [AV.sl Ty.u8.sl.sl [],AV.i u]))])=some (.fin (.exit 0) 0 [(3,.i 0)] []):=by
  exact tq rfl
 refine tq ?_
 rw[hq]
 exact tq rfl
theorem zH(a:Int)(ha:a=0\/a=1):Y E0 (.call 292 [.agg [AV.sl Ty.u8.sl.sl [],AV.i u],.i a] [])=some (.ret (.b false) []):=by
 rcases ha with rfl|rfl
 ·refine tq ?_
  rw[rE]
  refine tq ?_
  rw[Vh.1 0 zaa]
  exact zas
 ·refine tq ?_
  rw[rE]
  refine tq ?_
  rw[Vh.2.2.1 0 zaa]
  exact zas
theorem rF:EC E0 (.loop 261 0 0 3 [(2,.pa 0 0),(3,.pa 1 0),(6,.nil),(7,.nm 2),(13,AV.agg [AV.i s0,AV.i s1]),(14,AV.i 0)] [(0,some (Rs.var [AV.sl Ty.u8.sl.sl [],AV.i u])),(1,some (Rs.var [AV.i s0,AV.i s1])),(2,some (Rs.row 5 Ty.u8 []))]) fun r=>(∃ x:AV,(¬(0<=s0/\s0<=65535/\0<=s1/\s1<=65535))/\r=some (.fin .ret 3 [(2,.pa 0 0),(3,.pa 1 0),(4,.nil),(5,.i 1),(6,x),(7,.nm 2)] [(0,some (Rs.var [AV.sl Ty.u8.sl.sl [],AV.i u])),(1,some (Rs.var [AV.i s0,AV.i s1])),(2,some (Rs.row 5 Ty.u8 []))]))\/((0<=s0/\s0<=65535/\0<=s1/\s1<=65535)/\r=some (.fin (.exit 0) 3 [(2,AV.pa 0 0),(3,AV.pa 1 0),(6,AV.sl Ty.u8 (Bg (Bg [] 2 s0) 2 s1)),(7,AV.nm 2)] [(0,some (Rs.var [AV.sl Ty.u8.sl.sl [],AV.i u])),(1,some (Rs.var [AV.i s0,AV.i s1])),(2,some (Rs.row 5 Ty.u8 []))])):=by
 refine G5 fun P hP=>?_
 rw[AL];conv=>arg 1;whnf
 refine tw ?_
 rcases Bc s0 0 with hc0|hc0
 ·
  refine tw ?_
  exact hP _ (Or.inl ⟨AV.nil,AA,rfl⟩)
 refine tw ?_
 rcases Bc 65535 s0 with hc1|hc1
 ·
  refine tw ?_
  exact hP _ (Or.inl ⟨AV.nil,AA,rfl⟩)
 refine tw ?_
 rw[Dy _ _ _ AA]
 refine tw ?_
 refine tw ?_
 rcases Bc s1 0 with hc2|hc2
 ·
  refine tw ?_
  exact hP _ (Or.inl ⟨AV.sl Ty.u8 (Bg [] 2 s0),AA,rfl⟩)
 refine tw ?_
 rcases Bc 65535 s1 with hc3|hc3
 ·
  refine tw ?_
  exact hP _ (Or.inl ⟨AV.sl Ty.u8 (Bg [] 2 s0),AA,rfl⟩)
 refine tw ?_
 rw[Dy _ _ _ AA]
 refine tw ?_
 refine tw ?_
 exact hP _ (Or.inr ⟨AA,rfl⟩)
theorem TF(u a s s0 s1:Int)(hd acc:List UInt8)(ha:acc.length<=20000)(h:s=0):∀(n j:Nat),j+n=16->Y E0 (.loop 261 2 0 2 [(2,.pa 0 0),(6,.sl .u8 hd),(7,.nm 1),(10,.i a),(11,.i s),(27,.agg [.i s0,.i s1]),(28,.i a),(40,.i (j:Int))] [(0,some (.var [AV.sl Ty.u8.sl.sl [],AV.i u])),(1,some (.row 5 .u8 acc))])=some (.fin (.exit 4) 2 [(2,.pa 0 0),(6,.sl .u8 hd),(7,.nm 1),(27,.agg [.i s0,.i s1]),(28,.i a)] [(0,some (.var [AV.sl Ty.u8.sl.sl [],AV.i u])),(1,some (.row 5 .u8 acc))])
 | 0,j,hj=>by
  obtain rfl:j=16:=zaa
  rw[AL];conv=>lhs;whnf
  refine tq ?_
  with_reducible rfl
 | n+1,j,hj=>by
  have ih:=TF u a s s0 s1 hd acc ha h n (j+1) zaa
  rw[show((j+1:Nat):Int)=(j:Int)+1 from by omega] at ih
  have hb:¬BC .and (Bi s (BZ ((j:Nat):Int)).toNat) 1=1:=by rw[h,cO j zaa];decide
  rw[AL];conv=>lhs;whnf
  refine tq ?_
  exact ih
theorem rG(hd:List UInt8):EC E0 (.loop 261 1 0 2 [(2,.pa 0 0),(6,.sl .u8 hd),(7,.nm 1),(27,AV.agg [AV.i s0,AV.i s1]),(28,AV.i 0)] [(0,some (Rs.var [AV.sl Ty.u8.sl.sl [],AV.i u])),(1,some (Rs.row 5 Ty.u8 []))]) fun r=>(∃ x:List UInt8,(¬(s0=0/\s1=0))/\r=some (.fin .ret 0 [(4,.nil),(5,.i 27),(6,.sl .u8 hd),(7,.sl .u8 x)] []))\/((s0=0/\s1=0)/\r=some (.fin (.exit 2) 0 [(6,.sl .u8 hd),(7,AV.sl Ty.u8 [])] [])):=by
 have e0:=fun h=>TF u 0 s0 s0 s1 hd [] zat h 16 0 zaa
 have e1:=fun h=>TF u 1 s1 s0 s1 hd [] zat h 16 0 zaa
 simp only[show((0:Nat):Int)=0 from rfl] at e0 e1
 refine G5 fun P hP=>?_
 rw[AL];conv=>arg 1;whnf
 refine tw ?_
 rcases CE s0 0 with hc0|hc0
 ·
  refine tw ?_
  rw[zH _ _ zaa]
  refine tw ?_
  exact hP _ (Or.inl ⟨[],AA,rfl⟩)
 subst hc0
 replace e0:=e0 rfl
 refine tw ?_
 rw[e0]
 refine tw ?_
 refine tw ?_
 rcases CE s1 0 with hc1|hc1
 ·
  refine tw ?_
  rw[zH _ _ zaa]
  refine tw ?_
  exact hP _ (Or.inl ⟨[],AA,rfl⟩)
 subst hc1
 replace e1:=e1 rfl
 refine tw ?_
 rw[e1]
 refine tw ?_
 refine tw ?_
 exact hP _ (Or.inr ⟨AA,rfl⟩)
theorem A5Q:EC E0 (.call 261 [.agg [AV.sl Ty.u8.sl.sl [],AV.i u],.agg [.i s0,.i s1]] []) fun r=>(∃ e:Int,(e=1/\¬(0<=s0/\s0<=65535/\0<=s1/\s1<=65535)\/e=27/\(0<=s0/\s0<=65535/\0<=s1/\s1<=65535)/\¬(s0=0/\s1=0))/\r=some (.ret (.tup [.sl .u8 [],.i e]) []))\/(((0<=s0/\s0<=65535/\0<=s1/\s1<=65535)/\(s0=0/\s1=0))/\r=some (.ret (.tup [.sl .u8 (sha256 (Az 5 [Bg (Bg [] 2 s0) 2 s1,[]])),.i 0]) [])):=by
 have hf:(Az 5 [Bg (Bg [] 2 s0) 2 s1,[]]).length<=4294967295:=by rw[Aw,A8,A8,List.length_nil];simp
 refine G5 fun P hP=>?_
 refine tw ?_
 obtain(⟨x0,h0_1,yy0⟩|⟨⟨h0_2,h0_3,h0_4,h0_5⟩,yy0⟩):=rF u s0 s1
 ·
  refine Dv yy0 ?_
  exact hP _ (Or.inl ⟨1,AA,rfl⟩)
 refine Dv yy0 ?_
 obtain(⟨x1,h1_1,yy1⟩|⟨⟨h1_2,h1_3⟩,yy1⟩):=rG u s0 s1 (Bg (Bg [] 2 s0) 2 s1)
 ·
  refine Dv yy1 ?_
  exact hP _ (Or.inl ⟨27,AA,rfl⟩)
 refine Dv yy1 ?_
 rw[Fe _ _ hf zat]
 refine tw ?_
 exact hP _ (Or.inr ⟨AA,rfl⟩)
theorem A5R{a:Int}{rb:List (List (List UInt8))}(q0 q1:Int)(h:A7Q a rb):∃(d:List UInt8) (er:Int),d.length<=1000/\Y E0 (.call 261 [.agg [.sl (.sl (.sl .u8)) rb,.i u],.agg [.i q0,.i q1]] [])=some (.ret (.tup [.sl .u8 d,.i er]) [])/\Y E0 (.call 12 [.agg [.sl (.sl (.sl .u8)) rb,.i u],.agg [.i q0,.i q1]] [])=some (.ret (.tup [.sl .u8 d,.i er]) []):=by
 rcases h with rfl|⟨b0,b1,rfl,h0,h1,_⟩
 ·obtain⟨r,er,hr⟩:=Qv (A5Q u q0 q1)
  obtain⟨r',er',hr'⟩:=Qv (A1M u q0 q1)
  rcases hr with⟨e,he,rfl⟩|⟨he,rfl⟩<;>rcases hr' with⟨e',he',rfl⟩|⟨he',rfl⟩
  ·obtain rfl:e=e':=zaa
   exact⟨_,_,by simp,er,er'⟩
  ·exfalso;omega
  ·exfalso;omega
  ·exact⟨_,_,by rw[A7];decide,er,er'⟩
 ·obtain⟨r,er,hr⟩:=Qv (A82 b0 b1 u q0 q1 h0 h1)
  obtain⟨r',er',hr'⟩:=Qv (A1L b0 b1 u q0 q1 h0 h1)
  rcases hr with⟨e,he,rfl⟩|⟨he,rfl⟩<;>rcases hr' with⟨e',he',rfl⟩|⟨he',rfl⟩
  ·obtain rfl:e=e':=zaa
   exact⟨_,_,by simp,er,er'⟩
  ·exfalso;omega
  ·exfalso;omega
  ·exact⟨_,_,by unfold AAS;rw[A7];decide,er,er'⟩
end
end Go.Proofs.YtlpkjhhfhannpaaGreatDoor
