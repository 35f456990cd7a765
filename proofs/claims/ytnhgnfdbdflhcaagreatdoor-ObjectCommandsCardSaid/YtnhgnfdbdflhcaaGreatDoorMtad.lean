/-
  Own texts, laid together for this claim: contracts of functions of the program and its references, used by the statements of this seat.
-/
import Derived.Test.YtnhgnfdbdflhcaaGreatDoorMtab
import Derived.Test.YtnhgnfdbdflhcaaGreatDoorMtac
set_option linter.all false
set_option maxHeartbeats 40000000
set_option maxRecDepth 100000
namespace Go.Ax
open Go Go.Eng
variable (a b c d e:UInt32)
theorem A6A:BO [a,b,c,d,e] 0=some a:=Iu zal rfl
theorem A6B:BO [a,b,c,d,e] 1=some b:=Iu zal rfl
theorem A6C:BO [a,b,c,d,e] 2=some c:=Iu zal rfl
theorem A6D:BO [a,b,c,d,e] 3=some d:=Iu zal rfl
theorem A6E:BO [a,b,c,d,e] 4=some e:=Iu zal rfl
end Go.Ax
namespace Go.Proofs.YtnhgnfdbdflhcaaGreatDoor
open Go Go.Ax Go.Eng
section
attribute [local irreducible] Cc Dn D7 DU DD BA Dp F7 FY FD Ez Ci CS DK DV and' DW DL C9 BR Bh CB CG BG BI Aw BC Dq Fh Dt ER DX Bl CE Bv Bz Bi Az Bg BK Bj BO Du Bc DF BZ BM Cj Di fits Dv Dk Ac Am BH
attribute [local irreducible] LJ FB Gv GH EK UK
theorem A6F(h:List UInt32)(p b:List UInt8)(a:Nat)(ha:a+64<=p.length)(hp:p.length<=8589934592)(hb:b=List.take ((a:Int)+64-a).toNat (List.drop (a:Int).toNat p)):∀(k t:Nat) (ws:List UInt32),t+k=80->ws.length=80->ws.take t=LH b t->Y E0 (.loop 315 1 0 1 [(3,.sl .u32 h),(4,.sl .u8 p),(5,.i a),(6,.pa 0 0),(7,.i t)] [(0,some (.var (GH ws)))])=some (.fin (.exit 2) 1 [(3,.sl .u32 h),(4,.sl .u8 p),(5,.i a),(6,.pa 0 0)] [(0,some (.var (GH (LH b 80))))])
 | 0,t,ws,hk,hw,hs=>by
  have e:ws=LH b 80:=zbF
  rw[<-e]
  rw[Ad];conv=>lhs;whnf
  refine BF ?_
  ((conv in(close _ _ _ _)=>skip);conv=>lhs;rw[D8 hw])
  refine BF ?_
  rw[D8 hw];rfl
 | k+1,t,ws,hk,hw,hs=>by
  have ih:=fun x (hx:x=YX b (LH b t) t)=>A6F h p b a ha hp hb k (t+1) (ws.set t x) zaa (by simpa using hw) zbL
  rw[Ad];conv=>lhs;whnf
  refine BF ?_
  rcases AZ (↑t) 16 with hc0|hc0
  ·
   refine BF ?_
   rw[lm _ _ CW CW]
   conv=>lhs;whnf
   try dsimp -iota -beta -eta -zeta only
   rw[Gm zaa]
   conv=>lhs;whnf
   rw[EZ zaa]
   conv=>lhs;whnf
   try dsimp -iota -beta -eta -zeta only
   rw[Jq zaa];conv=>lhs;whnf
   rw[LY zaa]
   refine BF ?_
   ((conv in(close _ _ _ _)=>skip);conv=>lhs;rw[JH hw])
   refine BF ?_
   rw[show((t:Int)+1)=((t+1:Nat):Int) from by omega,show 0+((t:Nat):Int).toNat*1=t from by omega,<-hb];refine(congrArg (Y E0) ?_).trans (ih (be32 b (4*t)) (by rw[YX,if_pos zaa]));rw[JH hw];rfl
  refine BF ?_
  rw[EJ zaa]
  refine BF ?_
  rw[EJ zaa]
  refine BF ?_
  rw[EJ zaa]
  refine BF ?_
  rw[EJ zaa]
  refine BF ?_
  rw[A73 _]
  conv=>lhs;whnf
  try dsimp -iota -beta -eta -zeta only
  rw[Gm zaa]
  conv=>lhs;whnf
  rw[EZ zaa]
  conv=>lhs;whnf
  try dsimp -iota -beta -eta -zeta only
  rw[Jq zaa];conv=>lhs;whnf
  rw[LY zaa]
  refine BF ?_
  ((conv in(close _ _ _ _)=>skip);conv=>lhs;rw[JH hw])
  refine BF ?_
  rw[show((t:Int)+1)=((t+1:Nat):Int) from by omega,show 0+((t:Nat):Int).toNat*1=t from by omega];refine(congrArg (Y E0) ?_).trans (ih _ (nx1 b ws t hs zaa));rw[JH hw];rfl
theorem A7A(h:List UInt32)(p b:List UInt8)(a:Nat)(ha:a+64<=p.length)(hp:p.length<=8589934592)(hb:b=List.take ((a:Int)+64-a).toNat (List.drop (a:Int).toNat p)):Y E0 (.loop 315 1 0 1 [(3,.sl .u32 h),(4,.sl .u8 p),(5,.i a),(6,.pa 0 0),(7,.i 0)] [(0,some (.var (List.replicate 80 (.u32 0))))])=some (.fin (.exit 2) 1 [(3,.sl .u32 h),(4,.sl .u8 p),(5,.i a),(6,.pa 0 0)] [(0,some (.var ((List.range 80).map fun i=>AV.u32 ((LH b 80).getD i 0))))]):=by
 have e:=A6F h p b a ha hp hb 80 0 (List.replicate 80 0) rfl rfl rfl
 rw[D8 (ws:=List.replicate 80 0) (n:=80) rfl,D8 (UJ b 80)] at e
 exact e
end
end Go.Proofs.YtnhgnfdbdflhcaaGreatDoor
namespace Go.Proofs.YtnhgnfdbdflhcaaGreatDoor
open Go Go.RowKit Go.Eng Go.Ax
theorem Jr(l:List UInt8)(hl:l.length<=4294967296):Y E0 (.call 159 [.i 1,.sl .u8 l] [])=some (.ret (.sl .u8 (sha256 l)) []):=A0H 1 l hl
end Go.Proofs.YtnhgnfdbdflhcaaGreatDoor
namespace Go.Proofs.YtnhgnfdbdflhcaaGreatDoor
open Go Go.Ax
section
attribute [local irreducible] Cc Dn D7 DU DD BA Dp F7 FY FD Ez Ci CS DK DV and' DW DL C9 BR Bh CB CG BG BI Aw BC Dq Fh Dt ER DX Bl CE Bv Bz Bi Az Bg BK Bj BO Du Bc DF BZ BM Cj Di fits Dv Dk Ac Am BH
theorem yR{α:Type}(a b:List α)(i:Nat)(hi:i<a.length)(hj:i<b.length)(h:a.take i=b.take i)(he:a[i]=b[i]):a.take (i+1)=b.take (i+1):=by
 rw[List.take_succ_eq_append_getElem hi,List.take_succ_eq_append_getElem hj,h,he]
theorem P6(a b:List UInt8)(hb:a.length<=4294967296)(hl:a.length=b.length):∀(k:Nat) (j:Int),j+k=a.length->0<=j->a.take j.toNat=b.take j.toNat ->
  Y E0 (.loop 16 0 0 0 [(0,.sl .u8 a),(1,.sl .u8 b),(5,.i j)] [])=if a=b then some (.fin (.exit 0) 0 [] []) else some (.fin .ret 0 [(4,.b false)] [])
 | 0,j,hj,h0,ht=>by
  have he:a=b:=zbx
  rw[if_pos he]
  rw[Ad];conv=>lhs;whnf
  rw[GL zar]
  conv=>lhs;whnf
 | k+1,j,hj,h0,ht=>by
  by_cases hab:a[j.toNat]'zaa=b[j.toNat]'zaa
  ·have ih:=P6 a b hb hl k (j+1) zaa zaa zbc
   have hz:Bg .neq (a[j.toNat]'zaa) (b[j.toNat]'zaa)=false:=by rw[J7,Cf (by rw[hab])]
   rw[<-ih]
   rw[Ad];conv=>lhs;whnf
   rw[EZ zar]
   conv=>lhs;whnf
   rw[DZ zaa]
   conv=>lhs;whnf
   rw[DZ zaa]
   conv=>lhs;whnf
   try dsimp -iota -beta -eta -zeta only
   rw[hz]
   conv=>lhs;whnf
   rw[drw zas];conv=>lhs;whnf
   try dsimp -iota -beta -eta -zeta only
   rw[Au zaa]
  ·have hne:a≠b:=fun e=>hab (by subst e;rfl)
   have hz:Bg .neq (a[j.toNat]'zaa) (b[j.toNat]'zaa)=true:=by rw[J7,G8 (fun e=>hab (UInt8.toNat_inj.1 zaa))]
   rw[if_neg hne]
   rw[Ad];conv=>lhs;whnf
   rw[EZ zar]
   conv=>lhs;whnf
   rw[DZ zaa]
   conv=>lhs;whnf
   rw[DZ zaa]
   conv=>lhs;whnf
   try dsimp -iota -beta -eta -zeta only
   rw[hz]
   exact BF rfl
theorem Bq(a b:List UInt8)(ha:a.length<=4294967296):Y E0 (.call 16 [.sl .u8 a,.sl .u8 b] [])=some (.ret (.b (decide (a=b))) []):=by
 by_cases h:a=b
 ·rw[decide_eq_true h]
  refine BF ?_
  rcases AX (↑a.length) (↑b.length) with hc0|hc0
  ·
   rw[G8 zar]
   conv=>lhs;whnf
   exact absurd (congrArg List.length h) zaa
  rw[Cf zar]
  conv=>lhs;whnf
  try dsimp -iota -beta -eta -zeta only
  rw[Ee]
  rw[P6 a b ha zaa a.length 0 zaa zaa zam,if_pos h]
  exact BF rfl
 ·rw[decide_eq_false h]
  refine BF ?_
  rcases AX (↑a.length) (↑b.length) with hc0|hc0
  ·
   rw[G8 zar]
   conv=>lhs;whnf
  rw[Cf zar]
  conv=>lhs;whnf
  try dsimp -iota -beta -eta -zeta only
  rw[Ee]
  rw[P6 a b ha zaa a.length 0 zaa zaa zam,if_neg h]
  exact BF rfl
end
end Go.Proofs.YtnhgnfdbdflhcaaGreatDoor
namespace Go.Proofs.YtnhgnfdbdflhcaaGreatDoor
open Go Go.Ax Go.Eng
variable (tag:Int)(ls:List (List UInt8))
section
attribute [local irreducible] Cc Dn D7 DU DD BA Dp F7 FY FD Ez Ci CS DK DV and' DW DL C9 BR Bh CB CG BG BI Aw BC Dq Fh Dt ER DX Bl CE Bv Bz Bi Az Bg BK Bj BO Du Bc DF BZ BM Cj Di fits Dv Dk Ac Am BH
theorem Nc(tag:Int)(ls:List (List UInt8))(hl:(Ar tag ls).length<=4294967296)(hn:ls.length<=4294967296):∀(k i:Nat),i+k=ls.length ->
  Y E0 (.loop 33 0 0 1 [(5,.nm 0),(12,.sl (.sl .u8) ls),(13,.i ls.length),(14,.i i)] [(0,some (.row 5 .u8 (Ar tag (ls.take i))))])=some (.fin (.exit 0) 0 [(5,.sl .u8 (Ar tag ls))] [])
 | 0,i,hi=>by
  have e:ls.take i=ls:=List.take_of_length_le zaa
  rw[e]
  rw[Ad];conv=>lhs;whnf
  exact BF rfl
 | k+1,i,hi=>by
  have ih:=Nc tag ls hl hn k (i+1) zaa
  have hg:ls[i]?=some (ls[i]'zaa):=List.getElem?_eq_getElem zaa
  have h1:=QL tag ls i _ hg
  have h2:=dD tag ls (i+1)
  have h3:=congrArg List.length h1
  simp only[List.length_append,IM] at h3
  rw[Ad];conv=>lhs;whnf
  refine BF ?_
  refine(congrArg (Y E0) ?_).trans ih;(try simp only[Rq.loop.injEq,Rq.call.injEq,Rq.ops.injEq,List.cons.injEq,Prod.mk.injEq,AV.i.injEq,AV.sl.injEq,AV.st.injEq,AV.b.injEq,AV.u8.injEq,AV.nm.injEq,Option.some.injEq,Rs.row.injEq,Rs.var.injEq,heq_eq_eq,true_and,and_true]);(try(repeat' apply And.intro));all_goals first|(with_reducible rfl)|omega|(rw[Au zaa];omega)|(rw[CY zaa];omega)|(rw[h1,Ag,Ag,A8X])
theorem KH(hl:(Ar tag ls).length<=4294967296)(hn:ls.length<=4294967296):Y E0 (.call 33 [.i tag,.sl (.sl .u8) ls] [])=some (.ret (.sl .u8 (Ar tag ls)) []):=by
 refine BF ?_
 rw[show ER tag=UInt8.ofInt tag from FP _,show [UInt8.ofInt tag]=Ar tag (ls.take 0) from rfl,BB];rw[show(0:Int)=((0:Nat):Int) from rfl,Nc tag ls hl hn ls.length 0 zaa]
 exact BF rfl
theorem Nh(tag:Int)(ls:List (List UInt8))(hl:(Ar tag ls).length<=4294967295)(hn:ls.length<=4294967296):∀(k i:Nat),i+k=ls.length ->
  Y E0 (.loop 122 0 0 1 [(1,.sl (.sl .u8) ls),(5,.nm 0),(6,.i i)] [(0,some (.row 5 .u8 (Ar tag (ls.take i))))])=some (.fin (.exit 0) 0 [(5,.sl .u8 (Ar tag ls))] [])
 | 0,i,hi=>by
  have e:ls.take i=ls:=List.take_of_length_le zaa
  rw[e]
  rw[Ad];conv=>lhs;whnf
  exact BF rfl
 | k+1,i,hi=>by
  have ih:=Nh tag ls hl hn k (i+1) zaa
  have hg:ls[i]?=some (ls[i]'zaa):=List.getElem?_eq_getElem zaa
  have h1:=QL tag ls i _ hg
  have h2:=dD tag ls (i+1)
  have h3:=congrArg List.length h1
  simp only[List.length_append,IM] at h3
  rw[Ad];conv=>lhs;whnf
  refine BF ?_
  refine(congrArg (Y E0) ?_).trans ih;(try simp only[Rq.loop.injEq,Rq.call.injEq,Rq.ops.injEq,List.cons.injEq,Prod.mk.injEq,AV.i.injEq,AV.sl.injEq,AV.st.injEq,AV.b.injEq,AV.u8.injEq,AV.nm.injEq,Option.some.injEq,Rs.row.injEq,Rs.var.injEq,heq_eq_eq,true_and,and_true]);(try(repeat' apply And.intro));all_goals first|(with_reducible rfl)|omega|(rw[Au zaa];omega)|(rw[CY zaa];omega)|(rw[h1,Ag,Ag,BB,rf4 _ zaa])
theorem Ha(hl:(Ar tag ls).length<=4294967295)(hn:ls.length<=4294967296):Y E0 (.call 122 [.i tag,.sl (.sl .u8) ls] [])=some (.ret (.sl .u8 (Ar tag ls)) []):=by
 refine BF ?_
 rw[show ER tag=UInt8.ofInt tag from FP _,show [UInt8.ofInt tag]=Ar tag (ls.take 0) from rfl];rw[show(0:Int)=((0:Nat):Int) from rfl,Nh tag ls hl hn ls.length 0 zaa]
 exact BF rfl
theorem I8(hl:(Ar tag ls).length<=4294967295)(hn:ls.length<=4294967296):Y E0 (.call 99 [.i tag,.sl (.sl .u8) ls] [])=some (.ret (.sl .u8 (sha256 (Ar tag ls))) []):=by
 refine BF ?_
 rw[KH _ _ CW CW]
 refine BF ?_
 rw[Jr _ CW]
 exact BF rfl
theorem F5(hl:(Ar tag ls).length<=4294967295)(hn:ls.length<=4294967296):Y E0 (.call 110 [.i tag,.sl (.sl .u8) ls] [])=some (.ret (.sl .u8 (sha256 (Ar tag ls))) []):=by
 refine BF ?_
 rw[Ha _ _ CW CW]
 refine BF ?_
 rw[Hz _ CW]
 exact BF rfl
theorem II(l:List UInt8)(hl:l.length<=4294967296):Y E0 (.call 136 [.sl .u8 l] [])=some (.ret (.nm 0) [some (.row 5 .u8 l)]):=by
 refine BF ?_
 simp only[NO];try with_reducible rfl
theorem O5(a b:List (List UInt8))(hb:a.length<=4294967296)(hm:∀ l∈a,l.length<=4294967296)(hl:a.length=b.length):∀(k:Nat) (j:Int),j+k=a.length->0<=j->a.take j.toNat=b.take j.toNat ->
  Y E0 (.loop 17 0 0 0 [(0,.sl (.sl .u8) a),(1,.sl (.sl .u8) b),(5,.i j)] [])=if a=b then some (.fin (.exit 0) 0 [] []) else some (.fin .ret 0 [(4,.b false)] [])
 | 0,j,hj,h0,ht=>by
  have he:a=b:=zbx
  rw[if_pos he]
  rw[Ad];conv=>lhs;whnf
  exact BF rfl
 | k+1,j,hj,h0,ht=>by
  have hlen:(a[j.toNat]'zaa).length<=4294967296:=hm _ (List.getElem_mem _)
  by_cases hab:a[j.toNat]'zaa=b[j.toNat]'zaa
  ·have ih:=O5 a b hb hm hl k (j+1) zaa zaa zbc
   rw[<-ih]
   rw[Ad];conv=>lhs;whnf
   rw[EZ zar]
   conv=>lhs;whnf
   rw[DZ zaa]
   conv=>lhs;whnf
   rw[DZ zaa]
   conv=>lhs;whnf
   try dsimp -iota -beta -eta -zeta only
   rw[AQ]
   rw[Bq _ _ hlen,decide_eq_true hab]
   conv=>lhs;whnf
   try dsimp -iota -beta -eta -zeta only
   rw[drw zas];conv=>lhs;whnf
   rw[DT];conv=>lhs;whnf
   try dsimp -iota -beta -eta -zeta only
   rw[Au zaa]
  ·have hne:a≠b:=fun e=>hab (by subst e;rfl)
   rw[if_neg hne]
   rw[Ad];conv=>lhs;whnf
   rw[EZ zar]
   conv=>lhs;whnf
   rw[DZ zaa]
   conv=>lhs;whnf
   rw[DZ zaa]
   conv=>lhs;whnf
   try dsimp -iota -beta -eta -zeta only
   rw[AQ]
   rw[Bq _ _ hlen,decide_eq_false hab]
   exact BF rfl
theorem OM(a b:List (List UInt8))(hb:a.length<=4294967296)(hm:∀ l∈a,l.length<=4294967296):Y E0 (.call 17 [.sl (.sl .u8) a,.sl (.sl .u8) b] [])=some (.ret (.b (decide (a=b))) []):=by
 by_cases h:a=b
 ·rw[decide_eq_true h]
  refine BF ?_
  rcases AX (↑a.length) (↑b.length) with hc0|hc0
  ·
   refine BF ?_
   exact absurd (congrArg List.length h) zaa
  refine BF ?_
  rw[O5 a b hb hm zaa a.length 0 zaa zaa zam,if_pos h]
  exact BF rfl
 ·rw[decide_eq_false h]
  refine BF ?_
  rcases AX (↑a.length) (↑b.length) with hc0|hc0
  ·
   rw[G8 zar]
   conv=>lhs;whnf
  rw[Cf zar]
  conv=>lhs;whnf
  try dsimp -iota -beta -eta -zeta only
  rw[Ee]
  rw[O5 a b hb hm zaa a.length 0 zaa zaa zam,if_neg h]
  exact BF rfl
end
end Go.Proofs.YtnhgnfdbdflhcaaGreatDoor
