/-
  Own texts, laid together for this claim: contracts of functions of the program and its references, used by the statements of this seat.
-/
import Derived.Test.YtnhgnfdbdflhcaaGreatDoorMtab
import Derived.Test.YtnhgnfdbdflhcaaGreatDoorMtag
import Derived.Test.YtnhgnfdbdflhcaaGreatDoorMtaj
set_option linter.all false
set_option maxHeartbeats 40000000
set_option maxRecDepth 100000
namespace Go.Proofs.YtnhgnfdbdflhcaaGreatDoor
open Go Go.Ax Go.Eng
variable (leaf c:Int)(seed m:List UInt8)
section
attribute [local irreducible] Cc Dn D7 DU DD BA Dp F7 FY FD Ez Ci CS DK DV and' DW DL C9 BR Bh CB CG BG BI Aw BC Dq Fh Dt ER DX Bl CE Bv Bz Bi Az Bg BK Bj BO Du Bc DF BZ BM Cj Di fits Dv Dk Ac Am BH
theorem nC(l:Int):Y E0 (.call 215 [.i l] [])=some (.ret (.b (decide (0<=l/\l<=255))) []):=by
 refine tq ?_
 rcases DJ 0 l with hc0|hc0
 ·refine tq ?_
  (congr 3;simp only[Dz,WX,Jd,EU,DT,ND,BB];first|rfl|(rw[decide_eq_decide];omega)|(simp;omega))
 refine tq ?_
 (rw[decide_eq_false zaa])
theorem A7J(hx:seed.length<=1000000):Y E0 (.call 268 [.i c,.pa 0 0,.pa 1 0] [.var [.sl .u8 seed],.var [.i leaf]])=some (.ret (.sl .u8 (Fq seed leaf c)) [some (.var [.sl .u8 seed]),some (.var [.i leaf])]):=by
 refine tq ?_;rw[mr _ _ _ A7];exact tq rfl
theorem A7K(hx:seed.length<=1000000):Y E0 (.call 217 [.i c,.pa 0 0,.pa 1 0] [.var [.sl .u8 seed],.var [.i leaf]])=some (.ret (.sl .u8 (Fq seed leaf c)) [some (.var [.sl .u8 seed]),some (.var [.i leaf])]):=by
 refine tq ?_;rw[mr _ _ _ A7];exact tq rfl
theorem A7L:Y E0 (.call 270 [.i c] [])=some (.ret (.i 0) []):=by
 exact tq rfl
theorem A3Z:Y E0 (.call 271 [.i c] [])=some (.ret (.i 15) []):=by
 exact tq rfl
theorem A7M:Y E0 (.call 220 [.i c] [])=some (.ret (.i 0) []):=by
 exact tq rfl
theorem A3a(c:Nat)(d:List Int)(hc:c<d.length):Y E0 (.call 221 [.i c,.pa 0 0] [.var [.sl .i64 d]])=some (.ret (.i d[c]) [some (.var [.sl .i64 d])]):=by
 exact tq rfl
theorem VG(leaf:Int)(seed:List UInt8)(hx:seed.length<=1000000)(acc:List UInt8)(c:Nat)(hc:c<35)(ha:acc.length<=1000):∀(k:Nat) (q:Int) (x:List UInt8),0<=q->((15:Int)-q).toNat=k->x.length<=1000000 ->
  Y E0 (.loop 219 1 2 3 [(0,.i leaf),(1,AV.fn 268 [] [.pa 0 0,.pa 1 0]),(2,AV.fn 270 [] []),(3,AV.fn 271 [] []),(9,.nm 2),(10,.i c),(11,.sl .u8 x),(12,.i q),(13,.i c)] [(0,some (Rs.var [.sl .u8 seed])),(1,some (Rs.var [.i leaf])),(2,some (.row 5 .u8 acc))])=some (.fin (.exit 2) 3 [(0,.i leaf),(1,AV.fn 268 [] [.pa 0 0,.pa 1 0]),(2,AV.fn 270 [] []),(3,AV.fn 271 [] []),(9,.nm 2),(11,.sl .u8 (Gy k leaf c q x)),(13,.i c)] [(0,some (Rs.var [.sl .u8 seed])),(1,some (Rs.var [.i leaf])),(2,some (.row 5 .u8 acc))])
 | 0,q,x,h0,hk,hx'=>by
  refine tq ?_;rw[A3Z _];refine tq ?_
  rfl
 | k+1,q,x,h0,hk,hx'=>by
  have ih:=VG leaf seed hx acc c hc ha k (q+1) (ZX leaf c q x) zaa zaa (by rw[Ce];omega)
  refine tq ?_;rw[A3Z _];refine tq ?_;rw[yj _ _ _ _ A7];refine tq ?_
  refine(congrArg (Y E0) ?_).trans ih;(try simp only[Rq.loop.injEq,Rq.call.injEq,Rq.ops.injEq,List.cons.injEq,Prod.mk.injEq,AV.i.injEq,AV.sl.injEq,AV.st.injEq,AV.b.injEq,AV.u8.injEq,AV.nm.injEq,Option.some.injEq,Rs.row.injEq,Rs.var.injEq,heq_eq_eq,true_and,and_true]);(try(repeat' apply And.intro));all_goals first|(with_reducible rfl)|omega|(rw[Au zaa];omega)|(rw[CY zaa];omega)
theorem QW(leaf:Int)(seed:List UInt8)(hx:seed.length<=1000000):∀(k c:Nat) (acc:List UInt8),c+k=35->acc=JE leaf (fun c=>Fq seed leaf c) (fun c=>(0:Int)) (fun c=>(15:Int)) c->acc.length<=16*c ->
  Y E0 (.loop 219 0 2 3 [(0,.i leaf),(1,AV.fn 268 [] [.pa 0 0,.pa 1 0]),(2,AV.fn 270 [] []),(3,AV.fn 271 [] []),(9,.nm 2),(13,.i c)] [(0,some (Rs.var [.sl .u8 seed])),(1,some (Rs.var [.i leaf])),(2,some (.row 5 .u8 acc))])=some (.fin (.exit 0) 2 [(9,.sl .u8 (JE leaf (fun c=>Fq seed leaf c) (fun c=>(0:Int)) (fun c=>(15:Int)) 35))] [(0,some (Rs.var [.sl .u8 seed])),(1,some (Rs.var [.i leaf]))])
 | 0,c,acc,hc,he,ha=>by
  obtain rfl:c=35:=zaa
  rw[<-he]
  exact tq rfl
 | k+1,c,acc,hc,he,ha=>by
  have hin:=VG leaf seed hx acc c zaa zaa
  have hst:(Fq seed leaf c).length=16:=by exact Bo _ _ _
  have hsl:=Js ((15:Int)-(0:Int)).toNat leaf c ((0:Int)) _ hst
  have ih:=QW leaf seed hx k (c+1) (acc++Gy ((15:Int)-(0:Int)).toNat leaf c ((0:Int)) (Fq seed leaf c)) zaa (by rw[IJ,<-he]) zbi
  rw[show((c+1:Nat):Int)=(c:Int)+1 from by omega] at ih
  refine tq ?_;rw[A7J _ _ _ A7];refine tq ?_;rw[A7L _];refine tq ?_;rw[hin _ _ _ zaa rfl zaa];refine tq ?_
  refine(congrArg (Y E0) ?_).trans ih;(try simp only[Rq.loop.injEq,Rq.call.injEq,Rq.ops.injEq,List.cons.injEq,Prod.mk.injEq,AV.i.injEq,AV.sl.injEq,AV.st.injEq,AV.b.injEq,AV.u8.injEq,AV.nm.injEq,Option.some.injEq,Rs.row.injEq,Rs.var.injEq,heq_eq_eq,true_and,and_true]);(try(repeat' apply And.intro));all_goals first|(with_reducible rfl)|omega|(rw[Au zaa];omega)|(rw[CY zaa];omega)|(rw[Ag];done)|(rw[Ag];rfl)
theorem A0O(hx:seed.length<=1000000):Y E0 (.call 219 [.i leaf,AV.fn 268 [] [.pa 0 0,.pa 1 0],AV.fn 270 [] [],AV.fn 271 [] []] [Rs.var [.sl .u8 seed],Rs.var [.i leaf]])=some (.ret (.sl .u8 (JE leaf (fun c=>Fq seed leaf c) (fun c=>(0:Int)) (fun c=>(15:Int)) 35)) [some (Rs.var [.sl .u8 seed]),some (Rs.var [.i leaf])]):=by
 have h0:=QW leaf seed hx 35 0 [] zaa rfl zam
 rw[show((0:Nat):Int)=0 from rfl] at h0;refine tq ?_;exact h0▸rfl
theorem VH(leaf:Int)(seed:List UInt8)(d:List Int)(hx:seed.length<=1000000)(hd:d.length=35)(hdb:∀ x∈d,0<=x/\x<=15)(acc:List UInt8)(c:Nat)(hc:c<35)(ha:acc.length<=1000):∀(k:Nat) (q:Int) (x:List UInt8),0<=q->(d.getD c 0-q).toNat=k->x.length<=1000000 ->
  Y E0 (.loop 219 1 3 4 [(0,.i leaf),(1,AV.fn 217 [] [.pa 0 0,.pa 1 0]),(2,AV.fn 220 [] []),(3,AV.fn 221 [] [.pa 2 0]),(9,.nm 3),(10,.i c),(11,.sl .u8 x),(12,.i q),(13,.i c)] [(0,some (Rs.var [.sl .u8 seed])),(1,some (Rs.var [.i leaf])),(2,some (Rs.var [.sl .i64 d])),(3,some (.row 5 .u8 acc))])=some (.fin (.exit 2) 4 [(0,.i leaf),(1,AV.fn 217 [] [.pa 0 0,.pa 1 0]),(2,AV.fn 220 [] []),(3,AV.fn 221 [] [.pa 2 0]),(9,.nm 3),(11,.sl .u8 (Gy k leaf c q x)),(13,.i c)] [(0,some (Rs.var [.sl .u8 seed])),(1,some (Rs.var [.i leaf])),(2,some (Rs.var [.sl .i64 d])),(3,some (.row 5 .u8 acc))])
 | 0,q,x,h0,hk,hx'=>by
  have hdc:=hdb _ (List.getElem_mem (l:=d) (n:=c) zaa)
  have hgd:d.getD c 0=d[c]'zaa:=zaX
  refine tq ?_;rw[A3a _ _ A7];refine tq ?_
  rfl
 | k+1,q,x,h0,hk,hx'=>by
  have hdc:=hdb _ (List.getElem_mem (l:=d) (n:=c) zaa)
  have hgd:d.getD c 0=d[c]'zaa:=zaX
  have ih:=VH leaf seed d hx hd hdb acc c hc ha k (q+1) (ZX leaf c q x) zaa zaa (by rw[Ce];omega)
  refine tq ?_;rw[A3a _ _ A7];refine tq ?_;rw[yj _ _ _ _ A7];refine tq ?_
  refine(congrArg (Y E0) ?_).trans ih;(try simp only[Rq.loop.injEq,Rq.call.injEq,Rq.ops.injEq,List.cons.injEq,Prod.mk.injEq,AV.i.injEq,AV.sl.injEq,AV.st.injEq,AV.b.injEq,AV.u8.injEq,AV.nm.injEq,Option.some.injEq,Rs.row.injEq,Rs.var.injEq,heq_eq_eq,true_and,and_true]);(try(repeat' apply And.intro));all_goals first|(with_reducible rfl)|omega|(rw[Au zaa];omega)|(rw[CY zaa];omega)
theorem QX(leaf:Int)(seed:List UInt8)(d:List Int)(hx:seed.length<=1000000)(hd:d.length=35)(hdb:∀ x∈d,0<=x/\x<=15):∀(k c:Nat) (acc:List UInt8),c+k=35->acc=JE leaf (fun c=>Fq seed leaf c) (fun c=>(0:Int)) (fun c=>d.getD c 0) c->acc.length<=16*c ->
  Y E0 (.loop 219 0 3 4 [(0,.i leaf),(1,AV.fn 217 [] [.pa 0 0,.pa 1 0]),(2,AV.fn 220 [] []),(3,AV.fn 221 [] [.pa 2 0]),(9,.nm 3),(13,.i c)] [(0,some (Rs.var [.sl .u8 seed])),(1,some (Rs.var [.i leaf])),(2,some (Rs.var [.sl .i64 d])),(3,some (.row 5 .u8 acc))])=some (.fin (.exit 0) 3 [(9,.sl .u8 (JE leaf (fun c=>Fq seed leaf c) (fun c=>(0:Int)) (fun c=>d.getD c 0) 35))] [(0,some (Rs.var [.sl .u8 seed])),(1,some (Rs.var [.i leaf])),(2,some (Rs.var [.sl .i64 d]))])
 | 0,c,acc,hc,he,ha=>by
  obtain rfl:c=35:=zaa
  rw[<-he]
  exact tq rfl
 | k+1,c,acc,hc,he,ha=>by
  have hdc:=hdb _ (List.getElem_mem (l:=d) (n:=c) zaa)
  have hgd:d.getD c 0=d[c]'zaa:=zaX
  have hin:=VH leaf seed d hx hd hdb acc c zaa zaa
  have hst:(Fq seed leaf c).length=16:=by exact Bo _ _ _
  have hsl:=Js (d.getD c 0-(0:Int)).toNat leaf c ((0:Int)) _ hst
  have ih:=QX leaf seed d hx hd hdb k (c+1) (acc++Gy (d.getD c 0-(0:Int)).toNat leaf c ((0:Int)) (Fq seed leaf c)) zaa (by rw[IJ,<-he]) zbi
  rw[show((c+1:Nat):Int)=(c:Int)+1 from by omega] at ih
  refine tq ?_;rw[A7K _ _ _ A7];refine tq ?_;rw[A7M _];refine tq ?_;rw[hin _ _ _ zaa rfl zaa];refine tq ?_
  refine(congrArg (Y E0) ?_).trans ih;(try simp only[Rq.loop.injEq,Rq.call.injEq,Rq.ops.injEq,List.cons.injEq,Prod.mk.injEq,AV.i.injEq,AV.sl.injEq,AV.st.injEq,AV.b.injEq,AV.u8.injEq,AV.nm.injEq,Option.some.injEq,Rs.row.injEq,Rs.var.injEq,heq_eq_eq,true_and,and_true]);(try(repeat' apply And.intro));all_goals first|(with_reducible rfl)|omega|(rw[Au zaa];omega)|(rw[CY zaa];omega)|(rw[Ag];done)|(rw[Ag];rfl)
theorem A0P(d:List Int)(hx:seed.length<=1000000)(hd:d.length=35)(hdb:∀ x∈d,0<=x/\x<=15):Y E0 (.call 219 [.i leaf,AV.fn 217 [] [.pa 0 0,.pa 1 0],AV.fn 220 [] [],AV.fn 221 [] [.pa 2 0]] [Rs.var [.sl .u8 seed],Rs.var [.i leaf],Rs.var [.sl .i64 d]])=some (.ret (.sl .u8 (JE leaf (fun c=>Fq seed leaf c) (fun c=>(0:Int)) (fun c=>d.getD c 0) 35)) [some (Rs.var [.sl .u8 seed]),some (Rs.var [.i leaf]),some (Rs.var [.sl .i64 d])]):=by
 have h0:=QX leaf seed d hx hd hdb 35 0 [] zaa rfl zam
 rw[show((0:Nat):Int)=0 from rfl] at h0;refine tq ?_;exact h0▸rfl
theorem A0Q(hx:seed.length<=1000000):Y E0 (.call 224 [.sl .u8 seed,.i leaf] [])=some (.ret (.sl .u8 (Ht seed leaf)) []):=by
 refine tq ?_;rw[nC _];refine tq ?_
 rcases Decidable.em (0<=leaf/\leaf<=255) with hc0|hc0
 ·refine tq ?_;rw[A0O _ _ A7]
  conv=>lhs;whnf
  rw[KD (by rfl)];conv=>lhs;whnf
  try dsimp -iota -beta -eta -zeta only
  rw[AQ];rw[A3Y _ _ zbJ]
  refine tq ?_
  unfold Ht;(repeat(first|rw[if_pos zad]|rw[if_neg zad]));try simp only[NO]
 refine tq ?_
 unfold Ht;(repeat(first|rw[if_pos zad]|rw[if_neg zad]));try simp only[NO]
theorem A5R(hx:seed.length<=1000000)(hm:m.length<=1000000):Y E0 (.call 168 [.sl .u8 seed,.i leaf,.sl .u8 m] [])=some (.ret (.sl .u8 (LZ seed leaf m)) []):=by
 refine tq ?_;rw[nC _];refine tq ?_
 rcases Decidable.em (0<=leaf/\leaf<=255) with hc0|hc0
 ·refine tq ?_;rw[A0N _ A7];refine tq ?_;rw[A0P leaf seed (Hm m) hx (V8 m) (V9 m)]
  conv=>lhs;whnf
  rw[KD (by rfl)];conv=>lhs;whnf
  unfold LZ;(repeat(first|rw[if_pos zad]|rw[if_neg zad]));try simp only[NO]
 refine tq ?_
 unfold LZ;(repeat(first|rw[if_pos zad]|rw[if_neg zad]));try simp only[NO]
theorem Pg(leaf:Int)(seed:List UInt8)(hx:seed.length<=1000000):∀(k c:Nat) (acc:List UInt8),c+k=35->acc=JE leaf (fun c=>Fq seed leaf c) (fun c=>(0:Int)) (fun c=>(15:Int)) c->acc.length<=16*c ->
  Y E0 (.loop 233 0 0 1 [(0,.sl .u8 seed),(1,.i leaf),(5,.nm 0),(6,.i c)] [(0,some (.row 5 .u8 acc))])=some (.fin (.exit 0) 0 [(1,.i leaf),(5,.sl .u8 (JE leaf (fun c=>Fq seed leaf c) (fun c=>(0:Int)) (fun c=>(15:Int)) 35))] [])
 | 0,c,acc,hc,he,ha=>by
  obtain rfl:c=35:=zaa
  rw[<-he]
  exact tq rfl
 | k+1,c,acc,hc,he,ha=>by
  have hst:(Fq seed leaf c).length=16:=by exact Bo _ _ _
  have hsl:=Js ((15:Int)-(0:Int)).toNat leaf c ((0:Int)) _ hst
  have ih:=Pg leaf seed hx k (c+1) (acc++Gy ((15:Int)-(0:Int)).toNat leaf c ((0:Int)) (Fq seed leaf c)) zaa (by rw[IJ,<-he]) zbi
  rw[show((c+1:Nat):Int)=(c:Int)+1 from by omega] at ih
  skip
  refine tq ?_;rw[dU _ _ _ A7];refine tq ?_;rw[Wy _ _ _ _ _ zaa zaa zaa];refine tq ?_
  refine(congrArg (Y E0) ?_).trans ih;(try simp only[Rq.loop.injEq,Rq.call.injEq,Rq.ops.injEq,List.cons.injEq,Prod.mk.injEq,AV.i.injEq,AV.sl.injEq,AV.st.injEq,AV.b.injEq,AV.u8.injEq,AV.nm.injEq,Option.some.injEq,Rs.row.injEq,Rs.var.injEq,heq_eq_eq,true_and,and_true]);(try(repeat' apply And.intro));all_goals first|(with_reducible rfl)|omega|(rw[Au zaa];omega)|(rw[CY zaa];omega)|(rw[Ag];done)|(rw[Ag];rfl)
theorem Sv(leaf:Int)(seed:List UInt8)(d:List Int)(hx:seed.length<=1000000)(hd:d.length=35)(hdb:∀ x∈d,0<=x/\x<=15):∀(k c:Nat) (acc:List UInt8),c+k=35->acc=JE leaf (fun c=>Fq seed leaf c) (fun c=>(0:Int)) (fun c=>d.getD c 0) c->acc.length<=16*c ->
  Y E0 (.loop 177 0 0 1 [(0,.sl .u8 seed),(1,.i leaf),(7,.sl .i64 d),(8,.nm 0),(9,.i c)] [(0,some (.row 5 .u8 acc))])=some (.fin (.exit 0) 1 [(8,.nm 0)] [(0,some (.row 5 .u8 (JE leaf (fun c=>Fq seed leaf c) (fun c=>(0:Int)) (fun c=>d.getD c 0) 35)))])
 | 0,c,acc,hc,he,ha=>by
  obtain rfl:c=35:=zaa
  rw[<-he]
  exact tq rfl
 | k+1,c,acc,hc,he,ha=>by
  have hdc:=hdb _ (List.getElem_mem (l:=d) (n:=c) zaa)
  have hgd:d.getD c 0=d[c]'zaa:=zaX
  have hst:(Fq seed leaf c).length=16:=by exact Bo _ _ _
  have hsl:=Js (d.getD c 0-(0:Int)).toNat leaf c ((0:Int)) _ hst
  have ih:=Sv leaf seed d hx hd hdb k (c+1) (acc++Gy (d.getD c 0-(0:Int)).toNat leaf c ((0:Int)) (Fq seed leaf c)) zaa (by rw[IJ,<-he]) zbi
  rw[show((c+1:Nat):Int)=(c:Int)+1 from by omega] at ih;rw[hgd] at ih hsl
  refine tq ?_;rw[dU _ _ _ A7];refine tq ?_;rw[Wy _ _ _ _ _ zaa zaa zaa];refine tq ?_
  refine(congrArg (Y E0) ?_).trans ih;(try simp only[Rq.loop.injEq,Rq.call.injEq,Rq.ops.injEq,List.cons.injEq,Prod.mk.injEq,AV.i.injEq,AV.sl.injEq,AV.st.injEq,AV.b.injEq,AV.u8.injEq,AV.nm.injEq,Option.some.injEq,Rs.row.injEq,Rs.var.injEq,heq_eq_eq,true_and,and_true]);(try(repeat' apply And.intro));all_goals first|(with_reducible rfl)|omega|(rw[Au zaa];omega)|(rw[CY zaa];omega)|(rw[Ag];done)|(rw[Ag];rfl)
theorem OX(leaf:Int)(sig:List UInt8)(d:List Int)(hx:sig.length=560)(hd:d.length=35)(hdb:∀ x∈d,0<=x/\x<=15):∀(k c:Nat) (acc:List UInt8),c+k=35->acc=JE leaf (fun c=>(sig.drop (16*c)).take 16) (fun c=>d.getD c 0) (fun c=>(15:Int)) c->acc.length<=16*c ->
  Y E0 (.loop 106 0 0 1 [(0,.i leaf),(2,.sl .u8 sig),(8,.sl .i64 d),(9,.nm 0),(10,.i c)] [(0,some (.row 5 .u8 acc))])=some (.fin (.exit 0) 0 [(0,.i leaf),(9,.sl .u8 (JE leaf (fun c=>(sig.drop (16*c)).take 16) (fun c=>d.getD c 0) (fun c=>(15:Int)) 35))] [])
 | 0,c,acc,hc,he,ha=>by
  obtain rfl:c=35:=zaa
  rw[<-he]
  exact tq rfl
 | k+1,c,acc,hc,he,ha=>by
  have hdc:=hdb _ (List.getElem_mem (l:=d) (n:=c) zaa)
  have hgd:d.getD c 0=d[c]'zaa:=zaX
  have hct:DF sig (16*(c:Int)) (16*(c:Int)+16)=some ((sig.drop (16*c)).take 16):=by
   rw[KG zaa,show(16*(c:Int)).toNat=16*c from by omega,show(16*(c:Int)+16-16*(c:Int)).toNat=16 from by omega]
  have hst:((sig.drop (16*c)).take 16).length=16:=zaC
  have hsl:=Js ((15:Int)-d.getD c 0).toNat leaf c (d.getD c 0) _ hst
  have ih:=OX leaf sig d hx hd hdb k (c+1) (acc++Gy ((15:Int)-d.getD c 0).toNat leaf c (d.getD c 0) ((sig.drop (16*c)).take 16)) zaa (by rw[IJ,<-he]) zbi
  rw[show((c+1:Nat):Int)=(c:Int)+1 from by omega] at ih;rw[hgd] at ih hsl
  rw[Ad];conv=>lhs;whnf
  rw[EZ zaa]
  conv=>lhs;whnf
  rw[Fe zaa]
  conv=>lhs;whnf
  rw[Gf zaa];rw[Au zaa];rw[hct];refine tq ?_;rw[Wy _ _ _ _ _ zaa zaa zaa];refine tq ?_
  refine(congrArg (Y E0) ?_).trans ih;(try simp only[Rq.loop.injEq,Rq.call.injEq,Rq.ops.injEq,List.cons.injEq,Prod.mk.injEq,AV.i.injEq,AV.sl.injEq,AV.st.injEq,AV.b.injEq,AV.u8.injEq,AV.nm.injEq,Option.some.injEq,Rs.row.injEq,Rs.var.injEq,heq_eq_eq,true_and,and_true]);(try(repeat' apply And.intro));all_goals first|(with_reducible rfl)|omega|(rw[Au zaa];omega)|(rw[CY zaa];omega)|(rw[Ag];done)|(rw[Ag];rfl)
theorem tC(hx:seed.length<=1000000):Y E0 (.call 233 [.sl .u8 seed,.i leaf] [])=some (.ret (.sl .u8 (Ht seed leaf)) []):=by
 have h0:=Pg leaf seed hx 35 0 [] zaa rfl zam
 rw[show((0:Nat):Int)=0 from rfl] at h0;refine tq ?_
 rcases AZ leaf 0 with hc0|hc0
 ·refine tq ?_
  unfold Ht;(repeat(first|rw[if_pos zad]|rw[if_neg zad]));try simp only[NO]
 refine tq ?_
 rcases AZ 255 leaf with hc1|hc1
 ·refine tq ?_
  unfold Ht;(repeat(first|rw[if_pos zad]|rw[if_neg zad]));try simp only[NO]
 refine tq ?_;rw[h0];refine tq ?_;rw[dV _ _ zbJ]
 refine tq ?_
 unfold Ht;(repeat(first|rw[if_pos zad]|rw[if_neg zad]));try simp only[NO]
theorem A3b(hx:seed.length<=1000000)(hm:m.length<=1000000):Y E0 (.call 177 [.sl .u8 seed,.i leaf,.sl .u8 m] [])=some (.ret (.nm 0) [some (.row 5 .u8 (LZ seed leaf m))]):=by
 have h0:=Sv leaf seed (Hm m) hx (V8 m) (V9 m) 35 0 [] zaa rfl zam
 rw[show((0:Nat):Int)=0 from rfl] at h0;refine tq ?_
 rcases AZ leaf 0 with hc0|hc0
 ·refine tq ?_
  unfold LZ;(repeat(first|rw[if_pos zad]|rw[if_neg zad]));try simp only[NO]
 refine tq ?_
 rcases AZ 255 leaf with hc1|hc1
 ·refine tq ?_
  unfold LZ;(repeat(first|rw[if_pos zad]|rw[if_neg zad]));try simp only[NO]
 refine tq ?_;rw[Zm _ A7];refine tq ?_;rw[h0];refine tq ?_
 unfold LZ;(repeat(first|rw[if_pos zad]|rw[if_neg zad]));try simp only[NO]
theorem nD(s:List UInt8)(hx:m.length<=1000000):Y E0 (.call 106 [.i leaf,.sl .u8 m,.sl .u8 s] [])=some (.ret (.tup [.sl .u8 (P8 leaf m s).1,.b (P8 leaf m s).2]) []):=by
 have h0:=fun h=>OX leaf s (Hm m) h (V8 m) (V9 m) 35 0 [] zaa rfl zam
 rw[show((0:Nat):Int)=0 from rfl] at h0;refine tq ?_
 rcases AZ leaf 0 with hc0|hc0
 ·refine tq ?_
  unfold P8;(repeat(first|rw[if_pos zad]|rw[if_neg zad]));try simp only[NO]
 refine tq ?_
 rcases AZ 255 leaf with hc1|hc1
 ·refine tq ?_
  unfold P8;(repeat(first|rw[if_pos zad]|rw[if_neg zad]));try simp only[NO]
 refine tq ?_
 rcases AX (↑s.length) 560 with hc2|hc2
 ·refine tq ?_
  unfold P8;(repeat(first|rw[if_pos zad]|rw[if_neg zad]));try simp only[NO]
 refine tq ?_;rw[Zm _ A7];refine tq ?_;rw[h0 zaa];refine tq ?_;rw[dV _ _ (by rw[MP _ _ _ _ 35 (fun c hc=>by simp;omega) 35 (Nat.le_refl _)];omega)]
 refine tq ?_
 unfold P8;(repeat(first|rw[if_pos zad]|rw[if_neg zad]));try simp only[NO]
end
end Go.Proofs.YtnhgnfdbdflhcaaGreatDoor
