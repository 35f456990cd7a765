/-
  Own texts, laid together for this claim: contracts of functions of the program and its references, used by the statements of this seat.
-/
import Derived.Test.YtnhgnfdbdflhcaaGreatDoorMsb
set_option linter.all false
set_option maxHeartbeats 40000000
set_option maxRecDepth 100000
namespace Go.Ax
abbrev Yu(p:Pub):List AV:=[.i p.kind,.i p.attr,.i p.height,.sl .u8 p.policy,.sl .u8 p.unique]
end Go.Ax
namespace Go.Proofs.YtnhgnfdbdflhcaaGreatDoor
open Go Go.Ax Go.Eng
variable (n leaf c i h:Int)(seed:List UInt8)(k:Nat)(ls:List (List UInt8))(m:List UInt8)
section
attribute [local irreducible] Cj Dt D9 DT DK BH Du Ey Fh FD Et D7 CV Df DX and' Dk DU CG Ba Bl CJ CS BK BM BB BG Dv G7 Dw EM Dl Bh CO Bz C9 Bo BD Bi BO Be BZ Dx Bf DL Bd BI D6 Dy fits Dz Dn AZ Ap BL
theorem jR(l:Int):Y E0 (.call 215 [.i l] [])=some (.ret (.b (decide (0<=l/\l<=255))) []):=by
 refine tq ?_
 rcases DD 0 l with hc0|hc0
 ·refine tq ?_
  (congr 3;simp only[Es,nI,bi,FB,EN,OB,BF];first|rfl|(rw[decide_eq_decide];omega)|(simp;omega))
 refine tq ?_
 (rw[decide_eq_false zaa])
theorem A4n(hx:seed.length<=1000000):Y E0 (.call 268 [.i c,.pa 0 0,.pa 1 0] [.var [.sl .u8 seed],.var [.i leaf]])=some (.ret (.sl .u8 (FN seed leaf c)) [some (.var [.sl .u8 seed]),some (.var [.i leaf])]):=by
 refine tq ?_;rw[jQ _ _ _ A8];exact tq rfl
theorem A4o(hx:seed.length<=1000000):Y E0 (.call 217 [.i c,.pa 0 0,.pa 1 0] [.var [.sl .u8 seed],.var [.i leaf]])=some (.ret (.sl .u8 (FN seed leaf c)) [some (.var [.sl .u8 seed]),some (.var [.i leaf])]):=by
 refine tq ?_;rw[jQ _ _ _ A8];exact tq rfl
theorem A4p:Y E0 (.call 270 [.i c] [])=some (.ret (.i 0) []):=by
 exact tq rfl
theorem A1E:Y E0 (.call 271 [.i c] [])=some (.ret (.i 15) []):=by
 exact tq rfl
theorem A4q:Y E0 (.call 220 [.i c] [])=some (.ret (.i 0) []):=by
 exact tq rfl
theorem A1F(c:Nat)(d:List Int)(hc:c<d.length):Y E0 (.call 221 [.i c,.pa 0 0] [.var [.sl .i64 d]])=some (.ret (.i d[c]) [some (.var [.sl .i64 d])]):=by
 exact tq rfl
theorem UA(leaf:Int)(seed:List UInt8)(hx:seed.length<=1000000)(acc:List UInt8)(c:Nat)(hc:c<35)(ha:acc.length<=1000):∀(k:Nat) (q:Int) (x:List UInt8),0<=q->((15:Int)-q).toNat=k->x.length<=1000000 ->
  Y E0 (.loop 219 1 2 3 [(0,.i leaf),(1,AV.fn 268 [] [.pa 0 0,.pa 1 0]),(2,AV.fn 270 [] []),(3,AV.fn 271 [] []),(9,.nm 2),(10,.i c),(11,.sl .u8 x),(12,.i q),(13,.i c)] [(0,some (Rs.var [.sl .u8 seed])),(1,some (Rs.var [.i leaf])),(2,some (.row 5 .u8 acc))])=some (.fin (.exit 2) 3 [(0,.i leaf),(1,AV.fn 268 [] [.pa 0 0,.pa 1 0]),(2,AV.fn 270 [] []),(3,AV.fn 271 [] []),(9,.nm 2),(11,.sl .u8 (GZ k leaf c q x)),(13,.i c)] [(0,some (Rs.var [.sl .u8 seed])),(1,some (Rs.var [.i leaf])),(2,some (.row 5 .u8 acc))])
 | 0,q,x,h0,hk,hx'=>by
  refine tq ?_;rw[A1E _];refine tq ?_
  rfl
 | k+1,q,x,h0,hk,hx'=>by
  have ih:=UA leaf seed hx acc c hc ha k (q+1) (Xy leaf c q x) zaa zaa (by rw[CZ];omega)
  refine tq ?_;rw[A1E _];refine tq ?_;rw[uN _ _ _ _ A8];refine tq ?_
  refine(congrArg (Y E0) ?_).trans ih;(try simp only[Rq.loop.injEq,Rq.call.injEq,Rq.ops.injEq,List.cons.injEq,Prod.mk.injEq,AV.i.injEq,AV.sl.injEq,AV.st.injEq,AV.b.injEq,AV.u8.injEq,AV.nm.injEq,Option.some.injEq,Rs.row.injEq,Rs.var.injEq,heq_eq_eq,true_and,and_true]);(try(repeat' apply And.intro));all_goals first|(with_reducible rfl)|omega|(rw[Aw zaa];omega)|(rw[Ce zaa];omega)
theorem PX(leaf:Int)(seed:List UInt8)(hx:seed.length<=1000000):∀(k c:Nat) (acc:List UInt8),c+k=35->acc=Ii leaf (fun c=>FN seed leaf c) (fun c=>(0:Int)) (fun c=>(15:Int)) c->acc.length<=16*c ->
  Y E0 (.loop 219 0 2 3 [(0,.i leaf),(1,AV.fn 268 [] [.pa 0 0,.pa 1 0]),(2,AV.fn 270 [] []),(3,AV.fn 271 [] []),(9,.nm 2),(13,.i c)] [(0,some (Rs.var [.sl .u8 seed])),(1,some (Rs.var [.i leaf])),(2,some (.row 5 .u8 acc))])=some (.fin (.exit 0) 2 [(9,.sl .u8 (Ii leaf (fun c=>FN seed leaf c) (fun c=>(0:Int)) (fun c=>(15:Int)) 35))] [(0,some (Rs.var [.sl .u8 seed])),(1,some (Rs.var [.i leaf]))])
 | 0,c,acc,hc,he,ha=>by
  obtain rfl:c=35:=zaa
  rw[<-he]
  exact tq rfl
 | k+1,c,acc,hc,he,ha=>by
  have hin:=UA leaf seed hx acc c zaa zaa
  have hst:(FN seed leaf c).length=16:=by exact Bc _ _ _
  have hsl:=JW ((15:Int)-(0:Int)).toNat leaf c ((0:Int)) _ hst
  have ih:=PX leaf seed hx k (c+1) (acc++GZ ((15:Int)-(0:Int)).toNat leaf c ((0:Int)) (FN seed leaf c)) zaa (by rw[Hl,<-he]) za4
  rw[show((c+1:Nat):Int)=(c:Int)+1 from by omega] at ih
  refine tq ?_;rw[A4n _ _ _ A8];refine tq ?_;rw[A4p _];refine tq ?_;rw[hin _ _ _ zaa rfl zaa];refine tq ?_
  refine(congrArg (Y E0) ?_).trans ih;(try simp only[Rq.loop.injEq,Rq.call.injEq,Rq.ops.injEq,List.cons.injEq,Prod.mk.injEq,AV.i.injEq,AV.sl.injEq,AV.st.injEq,AV.b.injEq,AV.u8.injEq,AV.nm.injEq,Option.some.injEq,Rs.row.injEq,Rs.var.injEq,heq_eq_eq,true_and,and_true]);(try(repeat' apply And.intro));all_goals first|(with_reducible rfl)|omega|(rw[Aw zaa];omega)|(rw[Ce zaa];omega)|(rw[Aa];done)|(rw[Aa];rfl)
theorem wY(hx:seed.length<=1000000):Y E0 (.call 219 [.i leaf,AV.fn 268 [] [.pa 0 0,.pa 1 0],AV.fn 270 [] [],AV.fn 271 [] []] [Rs.var [.sl .u8 seed],Rs.var [.i leaf]])=some (.ret (.sl .u8 (Ii leaf (fun c=>FN seed leaf c) (fun c=>(0:Int)) (fun c=>(15:Int)) 35)) [some (Rs.var [.sl .u8 seed]),some (Rs.var [.i leaf])]):=by
 have h0:=PX leaf seed hx 35 0 [] zaa rfl zao
 rw[show((0:Nat):Int)=0 from rfl] at h0;refine tq ?_;exact h0▸rfl
theorem UB(leaf:Int)(seed:List UInt8)(d:List Int)(hx:seed.length<=1000000)(hd:d.length=35)(hdb:∀ x∈d,0<=x/\x<=15)(acc:List UInt8)(c:Nat)(hc:c<35)(ha:acc.length<=1000):∀(k:Nat) (q:Int) (x:List UInt8),0<=q->(d.getD c 0-q).toNat=k->x.length<=1000000 ->
  Y E0 (.loop 219 1 3 4 [(0,.i leaf),(1,AV.fn 217 [] [.pa 0 0,.pa 1 0]),(2,AV.fn 220 [] []),(3,AV.fn 221 [] [.pa 2 0]),(9,.nm 3),(10,.i c),(11,.sl .u8 x),(12,.i q),(13,.i c)] [(0,some (Rs.var [.sl .u8 seed])),(1,some (Rs.var [.i leaf])),(2,some (Rs.var [.sl .i64 d])),(3,some (.row 5 .u8 acc))])=some (.fin (.exit 2) 4 [(0,.i leaf),(1,AV.fn 217 [] [.pa 0 0,.pa 1 0]),(2,AV.fn 220 [] []),(3,AV.fn 221 [] [.pa 2 0]),(9,.nm 3),(11,.sl .u8 (GZ k leaf c q x)),(13,.i c)] [(0,some (Rs.var [.sl .u8 seed])),(1,some (Rs.var [.i leaf])),(2,some (Rs.var [.sl .i64 d])),(3,some (.row 5 .u8 acc))])
 | 0,q,x,h0,hk,hx'=>by
  have hdc:=hdb _ (List.getElem_mem (l:=d) (n:=c) zaa)
  have hgd:d.getD c 0=d[c]'zaa:=zaR
  refine tq ?_;rw[A1F _ _ A8];refine tq ?_
  rfl
 | k+1,q,x,h0,hk,hx'=>by
  have hdc:=hdb _ (List.getElem_mem (l:=d) (n:=c) zaa)
  have hgd:d.getD c 0=d[c]'zaa:=zaR
  have ih:=UB leaf seed d hx hd hdb acc c hc ha k (q+1) (Xy leaf c q x) zaa zaa (by rw[CZ];omega)
  refine tq ?_;rw[A1F _ _ A8];refine tq ?_;rw[uN _ _ _ _ A8];refine tq ?_
  refine(congrArg (Y E0) ?_).trans ih;(try simp only[Rq.loop.injEq,Rq.call.injEq,Rq.ops.injEq,List.cons.injEq,Prod.mk.injEq,AV.i.injEq,AV.sl.injEq,AV.st.injEq,AV.b.injEq,AV.u8.injEq,AV.nm.injEq,Option.some.injEq,Rs.row.injEq,Rs.var.injEq,heq_eq_eq,true_and,and_true]);(try(repeat' apply And.intro));all_goals first|(with_reducible rfl)|omega|(rw[Aw zaa];omega)|(rw[Ce zaa];omega)
theorem PY(leaf:Int)(seed:List UInt8)(d:List Int)(hx:seed.length<=1000000)(hd:d.length=35)(hdb:∀ x∈d,0<=x/\x<=15):∀(k c:Nat) (acc:List UInt8),c+k=35->acc=Ii leaf (fun c=>FN seed leaf c) (fun c=>(0:Int)) (fun c=>d.getD c 0) c->acc.length<=16*c ->
  Y E0 (.loop 219 0 3 4 [(0,.i leaf),(1,AV.fn 217 [] [.pa 0 0,.pa 1 0]),(2,AV.fn 220 [] []),(3,AV.fn 221 [] [.pa 2 0]),(9,.nm 3),(13,.i c)] [(0,some (Rs.var [.sl .u8 seed])),(1,some (Rs.var [.i leaf])),(2,some (Rs.var [.sl .i64 d])),(3,some (.row 5 .u8 acc))])=some (.fin (.exit 0) 3 [(9,.sl .u8 (Ii leaf (fun c=>FN seed leaf c) (fun c=>(0:Int)) (fun c=>d.getD c 0) 35))] [(0,some (Rs.var [.sl .u8 seed])),(1,some (Rs.var [.i leaf])),(2,some (Rs.var [.sl .i64 d]))])
 | 0,c,acc,hc,he,ha=>by
  obtain rfl:c=35:=zaa
  rw[<-he]
  exact tq rfl
 | k+1,c,acc,hc,he,ha=>by
  have hdc:=hdb _ (List.getElem_mem (l:=d) (n:=c) zaa)
  have hgd:d.getD c 0=d[c]'zaa:=zaR
  have hin:=UB leaf seed d hx hd hdb acc c zaa zaa
  have hst:(FN seed leaf c).length=16:=by exact Bc _ _ _
  have hsl:=JW (d.getD c 0-(0:Int)).toNat leaf c ((0:Int)) _ hst
  have ih:=PY leaf seed d hx hd hdb k (c+1) (acc++GZ (d.getD c 0-(0:Int)).toNat leaf c ((0:Int)) (FN seed leaf c)) zaa (by rw[Hl,<-he]) za4
  rw[show((c+1:Nat):Int)=(c:Int)+1 from by omega] at ih
  refine tq ?_;rw[A4o _ _ _ A8];refine tq ?_;rw[A4q _];refine tq ?_;rw[hin _ _ _ zaa rfl zaa];refine tq ?_
  refine(congrArg (Y E0) ?_).trans ih;(try simp only[Rq.loop.injEq,Rq.call.injEq,Rq.ops.injEq,List.cons.injEq,Prod.mk.injEq,AV.i.injEq,AV.sl.injEq,AV.st.injEq,AV.b.injEq,AV.u8.injEq,AV.nm.injEq,Option.some.injEq,Rs.row.injEq,Rs.var.injEq,heq_eq_eq,true_and,and_true]);(try(repeat' apply And.intro));all_goals first|(with_reducible rfl)|omega|(rw[Aw zaa];omega)|(rw[Ce zaa];omega)|(rw[Aa];done)|(rw[Aa];rfl)
theorem wZ(d:List Int)(hx:seed.length<=1000000)(hd:d.length=35)(hdb:∀ x∈d,0<=x/\x<=15):Y E0 (.call 219 [.i leaf,AV.fn 217 [] [.pa 0 0,.pa 1 0],AV.fn 220 [] [],AV.fn 221 [] [.pa 2 0]] [Rs.var [.sl .u8 seed],Rs.var [.i leaf],Rs.var [.sl .i64 d]])=some (.ret (.sl .u8 (Ii leaf (fun c=>FN seed leaf c) (fun c=>(0:Int)) (fun c=>d.getD c 0) 35)) [some (Rs.var [.sl .u8 seed]),some (Rs.var [.i leaf]),some (Rs.var [.sl .i64 d])]):=by
 have h0:=PY leaf seed d hx hd hdb 35 0 [] zaa rfl zao
 rw[show((0:Nat):Int)=0 from rfl] at h0;refine tq ?_;exact h0▸rfl
theorem wo(hx:seed.length<=1000000):Y E0 (.call 224 [.sl .u8 seed,.i leaf] [])=some (.ret (.sl .u8 (Gv seed leaf)) []):=by
 refine tq ?_;rw[jR _];refine tq ?_
 rcases Decidable.em (0<=leaf/\leaf<=255) with hc0|hc0
 ·refine tq ?_;rw[wY _ _ A8]
  conv=>lhs;whnf
  rw[Jd (by rfl)];conv=>lhs;whnf
  try dsimp -iota -beta -eta -zeta only
  rw[AU];rw[A1D _ _ zbm]
  refine tq ?_
  unfold Gv;(repeat(first|rw[if_pos zac]|rw[if_neg zac]));try simp only[NO]
 refine tq ?_
 unfold Gv;(repeat(first|rw[if_pos zac]|rw[if_neg zac]));try simp only[NO]
theorem A30(hx:seed.length<=1000000)(hm:m.length<=1000000):Y E0 (.call 168 [.sl .u8 seed,.i leaf,.sl .u8 m] [])=some (.ret (.sl .u8 (Kt seed leaf m)) []):=by
 refine tq ?_;rw[jR _];refine tq ?_
 rcases Decidable.em (0<=leaf/\leaf<=255) with hc0|hc0
 ·refine tq ?_;rw[wX _ A8];refine tq ?_;rw[wZ leaf seed (Gt m) hx (U2 m) (U3 m)]
  conv=>lhs;whnf
  rw[Jd (by rfl)];conv=>lhs;whnf
  unfold Kt;(repeat(first|rw[if_pos zac]|rw[if_neg zac]));try simp only[NO]
 refine tq ?_
 unfold Kt;(repeat(first|rw[if_pos zac]|rw[if_neg zac]));try simp only[NO]
theorem Oh(leaf:Int)(seed:List UInt8)(hx:seed.length<=1000000):∀(k c:Nat) (acc:List UInt8),c+k=35->acc=Ii leaf (fun c=>FN seed leaf c) (fun c=>(0:Int)) (fun c=>(15:Int)) c->acc.length<=16*c ->
  Y E0 (.loop 233 0 0 1 [(0,.sl .u8 seed),(1,.i leaf),(5,.nm 0),(6,.i c)] [(0,some (.row 5 .u8 acc))])=some (.fin (.exit 0) 0 [(1,.i leaf),(5,.sl .u8 (Ii leaf (fun c=>FN seed leaf c) (fun c=>(0:Int)) (fun c=>(15:Int)) 35))] [])
 | 0,c,acc,hc,he,ha=>by
  obtain rfl:c=35:=zaa
  rw[<-he]
  exact tq rfl
 | k+1,c,acc,hc,he,ha=>by
  have hst:(FN seed leaf c).length=16:=by exact Bc _ _ _
  have hsl:=JW ((15:Int)-(0:Int)).toNat leaf c ((0:Int)) _ hst
  have ih:=Oh leaf seed hx k (c+1) (acc++GZ ((15:Int)-(0:Int)).toNat leaf c ((0:Int)) (FN seed leaf c)) zaa (by rw[Hl,<-he]) za4
  rw[show((c+1:Nat):Int)=(c:Int)+1 from by omega] at ih
  skip
  refine tq ?_;rw[Zn _ _ _ A8];refine tq ?_;rw[VK _ _ _ _ _ zaa zaa zaa];refine tq ?_
  refine(congrArg (Y E0) ?_).trans ih;(try simp only[Rq.loop.injEq,Rq.call.injEq,Rq.ops.injEq,List.cons.injEq,Prod.mk.injEq,AV.i.injEq,AV.sl.injEq,AV.st.injEq,AV.b.injEq,AV.u8.injEq,AV.nm.injEq,Option.some.injEq,Rs.row.injEq,Rs.var.injEq,heq_eq_eq,true_and,and_true]);(try(repeat' apply And.intro));all_goals first|(with_reducible rfl)|omega|(rw[Aw zaa];omega)|(rw[Ce zaa];omega)|(rw[Aa];done)|(rw[Aa];rfl)
theorem Qp(leaf:Int)(seed:List UInt8)(d:List Int)(hx:seed.length<=1000000)(hd:d.length=35)(hdb:∀ x∈d,0<=x/\x<=15):∀(k c:Nat) (acc:List UInt8),c+k=35->acc=Ii leaf (fun c=>FN seed leaf c) (fun c=>(0:Int)) (fun c=>d.getD c 0) c->acc.length<=16*c ->
  Y E0 (.loop 177 0 0 1 [(0,.sl .u8 seed),(1,.i leaf),(7,.sl .i64 d),(8,.nm 0),(9,.i c)] [(0,some (.row 5 .u8 acc))])=some (.fin (.exit 0) 1 [(8,.nm 0)] [(0,some (.row 5 .u8 (Ii leaf (fun c=>FN seed leaf c) (fun c=>(0:Int)) (fun c=>d.getD c 0) 35)))])
 | 0,c,acc,hc,he,ha=>by
  obtain rfl:c=35:=zaa
  rw[<-he]
  exact tq rfl
 | k+1,c,acc,hc,he,ha=>by
  have hdc:=hdb _ (List.getElem_mem (l:=d) (n:=c) zaa)
  have hgd:d.getD c 0=d[c]'zaa:=zaR
  have hst:(FN seed leaf c).length=16:=by exact Bc _ _ _
  have hsl:=JW (d.getD c 0-(0:Int)).toNat leaf c ((0:Int)) _ hst
  have ih:=Qp leaf seed d hx hd hdb k (c+1) (acc++GZ (d.getD c 0-(0:Int)).toNat leaf c ((0:Int)) (FN seed leaf c)) zaa (by rw[Hl,<-he]) za4
  rw[show((c+1:Nat):Int)=(c:Int)+1 from by omega] at ih;rw[hgd] at ih hsl
  refine tq ?_;rw[Zn _ _ _ A8];refine tq ?_;rw[VK _ _ _ _ _ zaa zaa zaa];refine tq ?_
  refine(congrArg (Y E0) ?_).trans ih;(try simp only[Rq.loop.injEq,Rq.call.injEq,Rq.ops.injEq,List.cons.injEq,Prod.mk.injEq,AV.i.injEq,AV.sl.injEq,AV.st.injEq,AV.b.injEq,AV.u8.injEq,AV.nm.injEq,Option.some.injEq,Rs.row.injEq,Rs.var.injEq,heq_eq_eq,true_and,and_true]);(try(repeat' apply And.intro));all_goals first|(with_reducible rfl)|omega|(rw[Aw zaa];omega)|(rw[Ce zaa];omega)|(rw[Aa];done)|(rw[Aa];rfl)
theorem Np(leaf:Int)(sig:List UInt8)(d:List Int)(hx:sig.length=560)(hd:d.length=35)(hdb:∀ x∈d,0<=x/\x<=15):∀(k c:Nat) (acc:List UInt8),c+k=35->acc=Ii leaf (fun c=>(sig.drop (16*c)).take 16) (fun c=>d.getD c 0) (fun c=>(15:Int)) c->acc.length<=16*c ->
  Y E0 (.loop 106 0 0 1 [(0,.i leaf),(2,.sl .u8 sig),(8,.sl .i64 d),(9,.nm 0),(10,.i c)] [(0,some (.row 5 .u8 acc))])=some (.fin (.exit 0) 0 [(0,.i leaf),(9,.sl .u8 (Ii leaf (fun c=>(sig.drop (16*c)).take 16) (fun c=>d.getD c 0) (fun c=>(15:Int)) 35))] [])
 | 0,c,acc,hc,he,ha=>by
  obtain rfl:c=35:=zaa
  rw[<-he]
  exact tq rfl
 | k+1,c,acc,hc,he,ha=>by
  have hdc:=hdb _ (List.getElem_mem (l:=d) (n:=c) zaa)
  have hgd:d.getD c 0=d[c]'zaa:=zaR
  have hct:DL sig (16*(c:Int)) (16*(c:Int)+16)=some ((sig.drop (16*c)).take 16):=by
   rw[Jq zaa,show(16*(c:Int)).toNat=16*c from by omega,show(16*(c:Int)+16-16*(c:Int)).toNat=16 from by omega]
  have hst:((sig.drop (16*c)).take 16).length=16:=zaC
  have hsl:=JW ((15:Int)-d.getD c 0).toNat leaf c (d.getD c 0) _ hst
  have ih:=Np leaf sig d hx hd hdb k (c+1) (acc++GZ ((15:Int)-d.getD c 0).toNat leaf c (d.getD c 0) ((sig.drop (16*c)).take 16)) zaa (by rw[Hl,<-he]) za4
  rw[show((c+1:Nat):Int)=(c:Int)+1 from by omega] at ih;rw[hgd] at ih hsl
  rw[Ae];conv=>lhs;whnf
  rw[ET zaa]
  conv=>lhs;whnf
  rw[GY zaa]
  conv=>lhs;whnf
  rw[GR zaa];rw[Aw zaa];rw[hct];refine tq ?_;rw[VK _ _ _ _ _ zaa zaa zaa];refine tq ?_
  refine(congrArg (Y E0) ?_).trans ih;(try simp only[Rq.loop.injEq,Rq.call.injEq,Rq.ops.injEq,List.cons.injEq,Prod.mk.injEq,AV.i.injEq,AV.sl.injEq,AV.st.injEq,AV.b.injEq,AV.u8.injEq,AV.nm.injEq,Option.some.injEq,Rs.row.injEq,Rs.var.injEq,heq_eq_eq,true_and,and_true]);(try(repeat' apply And.intro));all_goals first|(with_reducible rfl)|omega|(rw[Aw zaa];omega)|(rw[Ce zaa];omega)|(rw[Aa];done)|(rw[Aa];rfl)
theorem nR(hx:seed.length<=1000000):Y E0 (.call 233 [.sl .u8 seed,.i leaf] [])=some (.ret (.sl .u8 (Gv seed leaf)) []):=by
 have h0:=Oh leaf seed hx 35 0 [] zaa rfl zao
 rw[show((0:Nat):Int)=0 from rfl] at h0;refine tq ?_
 rcases AY leaf 0 with hc0|hc0
 ·refine tq ?_
  unfold Gv;(repeat(first|rw[if_pos zac]|rw[if_neg zac]));try simp only[NO]
 refine tq ?_
 rcases AY 255 leaf with hc1|hc1
 ·refine tq ?_
  unfold Gv;(repeat(first|rw[if_pos zac]|rw[if_neg zac]));try simp only[NO]
 refine tq ?_;rw[h0];refine tq ?_;rw[Zo _ _ zbm]
 refine tq ?_
 unfold Gv;(repeat(first|rw[if_pos zac]|rw[if_neg zac]));try simp only[NO]
theorem A1G(hx:seed.length<=1000000)(hm:m.length<=1000000):Y E0 (.call 177 [.sl .u8 seed,.i leaf,.sl .u8 m] [])=some (.ret (.nm 0) [some (.row 5 .u8 (Kt seed leaf m))]):=by
 have h0:=Qp leaf seed (Gt m) hx (U2 m) (U3 m) 35 0 [] zaa rfl zao
 rw[show((0:Nat):Int)=0 from rfl] at h0;refine tq ?_
 rcases AY leaf 0 with hc0|hc0
 ·refine tq ?_
  unfold Kt;(repeat(first|rw[if_pos zac]|rw[if_neg zac]));try simp only[NO]
 refine tq ?_
 rcases AY 255 leaf with hc1|hc1
 ·refine tq ?_
  unfold Kt;(repeat(first|rw[if_pos zac]|rw[if_neg zac]));try simp only[NO]
 refine tq ?_;rw[YN _ A8];refine tq ?_;rw[h0];refine tq ?_
 unfold Kt;(repeat(first|rw[if_pos zac]|rw[if_neg zac]));try simp only[NO]
theorem jS(s:List UInt8)(hx:m.length<=1000000):Y E0 (.call 106 [.i leaf,.sl .u8 m,.sl .u8 s] [])=some (.ret (.tup [.sl .u8 (OI leaf m s).1,.b (OI leaf m s).2]) []):=by
 have h0:=fun h=>Np leaf s (Gt m) h (U2 m) (U3 m) 35 0 [] zaa rfl zao
 rw[show((0:Nat):Int)=0 from rfl] at h0;refine tq ?_
 rcases AY leaf 0 with hc0|hc0
 ·refine tq ?_
  unfold OI;(repeat(first|rw[if_pos zac]|rw[if_neg zac]));try simp only[NO]
 refine tq ?_
 rcases AY 255 leaf with hc1|hc1
 ·refine tq ?_
  unfold OI;(repeat(first|rw[if_pos zac]|rw[if_neg zac]));try simp only[NO]
 refine tq ?_
 rcases AX (↑s.length) 560 with hc2|hc2
 ·refine tq ?_
  unfold OI;(repeat(first|rw[if_pos zac]|rw[if_neg zac]));try simp only[NO]
 refine tq ?_;rw[YN _ A8];refine tq ?_;rw[h0 zaa];refine tq ?_;rw[Zo _ _ (by rw[LZ _ _ _ _ 35 (fun c hc=>by simp;omega) 35 (Nat.le_refl _)];omega)]
 refine tq ?_
 unfold OI;(repeat(first|rw[if_pos zac]|rw[if_neg zac]));try simp only[NO]
end
section
attribute [local irreducible] Cj Dt D9 DT DK BH Du Ey Fh FD Et D7 CV Df DX and' Dk DU CG Ba Bl CJ CS BK BM BB BG Dv G7 Dw EM Dl Bh CO Bz C9 Bo BD Bi BO Be BZ Dx Bf DL Bd BI D6 Dy fits Dz Dn AZ Ap BL
theorem wu(i:Int)(l r:List UInt8)(hl:l.length<=1000000)(hr:r.length<=1000000):Y E0 (.call 267 [.i h,.i i,.sl .u8 l,.sl .u8 r] [])=some (.ret (.sl .u8 (Kv h i l r)) []):=by
 refine tq ?_;rw[IR _ _ (by rw[YB];simp;omega) zao]
 refine tq ?_;simp only[F5];rfl
theorem dH(i:Int)(l r:List UInt8)(hl:l.length<=1000000)(hr:r.length<=1000000):Y E0 (.call 175 [.i h,.i i,.sl .u8 l,.sl .u8 r] [])=some (.ret (.sl .u8 (Kv h i l r)) []):=by
 refine tq ?_;rw[F8 _ _ (by rw[YB];simp;omega) zao]
 refine tq ?_;simp only[F5];rfl
theorem PZ:Y E0 (.loop 222 0 0 0 [(0,.i n),(3,.i 0)] [])=(if Eo n<0 then some (.fin (.exit 0) 0 [] []) else some (.fin .ret 0 [(2,.i (Eo n))] [])):=by
 unfold Eo
 refine tq ?_;rw[show D7 1 (Bh 0).toNat=1 from Xk zal];refine tq ?_
 rcases AL n 1 with hc0|hc0
 ·subst hc0;refine tq ?_
  simp[*]
 refine tq ?_;refine tq ?_;rw[show D7 1 (Bh (0+1)).toNat=2 from Xk zal];refine tq ?_
 rcases AL n 2 with hc1|hc1
 ·subst hc1;refine tq ?_
  simp[*]
 refine tq ?_;refine tq ?_;rw[show D7 1 (Bh (0+1+1)).toNat=4 from Xk zal];refine tq ?_
 rcases AL n 4 with hc2|hc2
 ·subst hc2;refine tq ?_
  simp[*]
 refine tq ?_;refine tq ?_;rw[show D7 1 (Bh (0+1+1+1)).toNat=8 from Xk zal];refine tq ?_
 rcases AL n 8 with hc3|hc3
 ·subst hc3;refine tq ?_
  simp[*]
 refine tq ?_;refine tq ?_
 simp[*]
theorem QV:Y E0 (.call 222 [.i n] [])=some (.ret (.i (Eo n)) []):=by
 by_cases h:Eo n<0
 ·have h1:Eo n = -1:=by(unfold Eo at *;(repeat' split at h)<;>first|omega|simp[*])
  refine tq ?_;rw[PZ,if_pos h];refine tq ?_;rw[h1]
 ·refine tq ?_;rw[PZ,if_neg h];exact tq rfl
theorem Wp:Y E0 (.call 231 [.i n] [])=some (.ret (.b (decide (n=1\/n=2\/n=4\/n=8))) []):=by
 refine tq ?_
 rcases AL n 1 with hc0|hc0
 ·subst hc0;refine tq ?_
  rfl
 refine tq ?_
 rcases AL n 2 with hc1|hc1
 ·subst hc1;refine tq ?_
  rfl
 refine tq ?_
 rcases AL n 4 with hc2|hc2
 ·subst hc2;refine tq ?_
  rfl
 refine tq ?_
 (congr 3;simp only[Es,nI,bi,FB,EN,OB,BF];first|rfl|(rw[decide_eq_decide];omega)|(simp;omega))
theorem YO(h:Int)(ls:List (List UInt8))(hm:∀ l∈ls,l.length<=1000000)(hn:ls.length<=1000):∀(k i:Nat) (acc:List (List UInt8)),2*i<=ls.length->ls.length<=2*i+2*k+1->acc.length<=i ->
  Y E0 (.loop 232 0 0 1 [(0,.i h),(1,.sl (.sl .u8) ls),(5,.nm 0),(6,.i i)] [(0,some (.row 22 (.sl .u8) acc))])=some (.fin (.exit 0) 0 [(5,.sl (.sl .u8) (acc++VD h i (ls.drop (2*i))))] [])
 | k,i,acc,h0,hi,ha=>by
  by_cases hc:2*i+1<ls.length
  ·obtain⟨k,rfl⟩:∃ j,k=j+1:=⟨k-1,by omega⟩
   have h1:=hm _ (List.getElem_mem (l:=ls) (n:=2*i) zaa)
   have h2:=hm _ (List.getElem_mem (l:=ls) (n:=2*i+1) zaa)
   have ih:=YO h ls hm hn k (i+1) (acc++[Kv h i ls[2*i] ls[2*i+1]]) zaa zaa zaC
   rw[drop2 hc,VD];rw[List.append_assoc,List.singleton_append] at ih
   rw[Ae];conv=>lhs;whnf
   rw[GR zaa];rw[Aw zaa];rw[ET za5]
   conv=>lhs;whnf
   rw[GR zaa];rw[E8 zaa]
   conv=>lhs;whnf
   rw[GR zaa];rw[Aw zaa];rw[E8 zaa]
   conv=>lhs;whnf
   try dsimp -iota -beta -eta -zeta only
   rw[AU];rw[dH _ _ _ _ A8 A8];refine tq ?_
   refine(congrArg (Y E0) ?_).trans ih;(try simp only[Rq.loop.injEq,Rq.call.injEq,Rq.ops.injEq,List.cons.injEq,Prod.mk.injEq,AV.i.injEq,AV.sl.injEq,AV.st.injEq,AV.b.injEq,AV.u8.injEq,AV.nm.injEq,Option.some.injEq,Rs.row.injEq,Rs.var.injEq,heq_eq_eq,true_and,and_true]);(try(repeat' apply And.intro));all_goals first|(with_reducible rfl)|omega|(rw[Aw zaa];omega)|(rw[Ce zaa];omega)|(rw[Aa];rfl)
  ·rw[U4 _ _ _ zaO,List.append_nil]
   exact tq rfl
theorem A3p(hm:∀ l∈ls,l.length<=1000000)(hn:ls.length<=1000):Y E0 (.call 232 [.i h,.sl (.sl .u8) ls] [])=some (.ret (.sl (.sl .u8) (VD h 0 ls)) []):=by
 have h0:=YO h ls hm hn ls.length 0 [] zaa zaa zao
 refine tq ?_;rw[show(0:Int)=((0:Nat):Int) from rfl,h0];refine tq ?_
 rfl
theorem Oi(O:List (List (List UInt8)))(h:Nat)(ls:List (List UInt8))(hO:O[h]?=some ls)(hOl:O.length<=10)(hm:∀ l∈ls,l.length<=1000000)(hn:ls.length<=1000):∀(k i:Nat) (acc:List (List UInt8)),ls.length=2*i+2*k->acc.length<=i ->
  Y E0 (.loop 223 1 0 2 [(3,.nm 0),(4,.i h),(5,.nm 1),(6,.i i)] [(0,some (.row 24 (.sl (.sl .u8)) O)),(1,some (.row 22 (.sl .u8) acc))])=some (.fin (.exit 2) 1 [(3,.nm 0),(4,.i h),(5,.sl (.sl .u8) (acc++VD h i (ls.drop (2*i))))] [(0,some (.row 24 (.sl (.sl .u8)) O))])
 | k,i,acc,hi,ha=>by
  have hg:BZ O (h:Int)=some ls:=by rw[Na];exact hO
  have hh:h<O.length:=(List.getElem?_eq_some_iff.1 hO).1
  by_cases hc:2*i+1<ls.length
  ·obtain⟨k,rfl⟩:∃ j,k=j+1:=⟨k-1,by omega⟩
   have h1:=hm _ (List.getElem_mem (l:=ls) (n:=2*i) zaa)
   have h2:=hm _ (List.getElem_mem (l:=ls) (n:=2*i+1) zaa)
   have ih:=Oi O h ls hO hOl hm hn k (i+1) (acc++[Kv h i ls[2*i] ls[2*i+1]]) zaa zaC
   rw[drop2 hc,VD];rw[List.append_assoc,List.singleton_append] at ih
   rw[Ae];conv=>lhs;whnf
   rw[Gy zaa]
   conv=>lhs;whnf
   try dsimp -iota -beta -eta -zeta only
   rw[hg];refine to ?_;rw[hg]
   conv=>lhs;whnf
   rw[GR zaa];rw[E8 zaa]
   conv=>lhs;whnf
   rw[Gy zaa]
   conv=>lhs;whnf
   try dsimp -iota -beta -eta -zeta only
   rw[hg]
   conv=>lhs;whnf
   rw[GR zaa];rw[Aw zaa];rw[E8 zaa]
   conv=>lhs;whnf
   try dsimp -iota -beta -eta -zeta only
   rw[AU];rw[wu _ _ _ _ A8 A8];refine tq ?_
   refine(congrArg (Y E0) ?_).trans ih;(try simp only[Rq.loop.injEq,Rq.call.injEq,Rq.ops.injEq,List.cons.injEq,Prod.mk.injEq,AV.i.injEq,AV.sl.injEq,AV.st.injEq,AV.b.injEq,AV.u8.injEq,AV.nm.injEq,Option.some.injEq,Rs.row.injEq,Rs.var.injEq,heq_eq_eq,true_and,and_true]);(try(repeat' apply And.intro));all_goals first|(with_reducible rfl)|omega|(rw[Aw zaa];omega)|(rw[Ce zaa];omega)|(rw[Aa];rfl)
  ·rw[U4 _ _ _ zaO,List.append_nil]
   rw[Ae];conv=>lhs;whnf
   rw[Gy zaa]
   conv=>lhs;whnf
   try dsimp -iota -beta -eta -zeta only
   rw[hg];exact tq rfl
theorem Pe:∀(k h:Nat) (pre:List (List (List UInt8))) (cur:List (List UInt8)),k<=3->pre.length=h->h<=3->cur.length=2^k->(∀ l∈cur,l.length<=1000000)->h+k<=3->Y E0 (.loop 223 0 0 1 [(3,.nm 0),(4,.i h)] [(0,some (.row 24 (.sl (.sl .u8)) (pre++[cur])))])=some (.fin (.exit 0) 0 [(3,.sl (.sl (.sl .u8)) (pre++Qd k h cur))] [])
 | 0,h,pre,cur,hk,hp,hh,hc,hm,hs=>by
  have hg:=Zh pre cur h zaa
  have hpl:(pre++[cur]).length=h+1:=zaC
  rw[Qd]
  refine to ?_;rw[hg];exact tq rfl
 | k+1,h,pre,cur,hk,hp,hh,hc,hm,hs=>by
  have hg:=Zh pre cur h zaa
  have hpl:(pre++[cur]).length=h+1:=zaC
  have hc':cur.length=2*2^k:=by rw[hc,Nat.pow_succ];omega
  have hk1:1<=2^k:=Nat.one_le_two_pow
  have hk2:2^k<=4:=by
   have:=Nat.pow_le_pow_right (n:=2) zaa (show k<=2 by omega);simpa using this
  have h1:=Oi (pre++[cur]) h cur (by subst hp;simp) zaa hm zaa (2^k) 0 [] zaa zao
  have ih:=Pe k (h+1) (pre++[cur]) (VD h 0 cur) zaa zaC zaa zaW (U5 h _ 0 cur (Nat.le_refl _)) zaa
  rw[List.nil_append,Nat.mul_zero,List.drop_zero,show((0:Nat):Int)=0 from rfl] at h1;rw[Qd];rw[show((h+1:Nat):Int)=(h:Int)+1 from by omega] at ih;simp only[List.append_assoc,List.cons_append,List.nil_append] at ih
  refine to ?_;rw[hg];refine tq ?_;rw[h1];refine tq ?_
  refine(congrArg (Y E0) ?_).trans ih;(try simp only[Rq.loop.injEq,Rq.call.injEq,Rq.ops.injEq,List.cons.injEq,Prod.mk.injEq,AV.i.injEq,AV.sl.injEq,AV.st.injEq,AV.b.injEq,AV.u8.injEq,AV.nm.injEq,Option.some.injEq,Rs.row.injEq,Rs.var.injEq,heq_eq_eq,true_and,and_true]);(try(repeat' apply And.intro));all_goals first|(with_reducible rfl)|omega|(rw[Aw zaa];omega)|(rw[Ce zaa];omega)|(rw[Aa,List.append_assoc];rfl)
theorem Zp(hk:k<=3)(hl:ls.length=2^k)(hm:∀ l∈ls,l.length<=1000000):Y E0 (.call 223 [.sl (.sl .u8) ls] [])=some (.ret (.sl (.sl (.sl .u8)) (Qd k 0 ls)) []):=by
 have h0:=Pe k 0 [] ls hk rfl zaa hl hm zaa
 rw[List.nil_append,List.nil_append,show((0:Nat):Int)=0 from rfl] at h0;refine tq ?_;rw[h0];exact tq rfl
theorem A6n{n:Nat}(h:n<=3):(2:Int)^n<=8:=by
 have:=Nat.pow_le_pow_right (n:=2) zaa h
 exact_mod_cast this
theorem MK(p:List (List UInt8))(hm:∀ l∈p,l.length<=1000000)(hn:p.length<=1000):∀(k j:Nat) (i:Int) (x:List UInt8),j+k=p.length->0<=i/\i<=1000->x.length<=1000000 ->
  Y E0 (.loop 107 0 0 0 [(1,.i i),(2,.sl (.sl .u8) p),(7,.sl .u8 x),(8,.i j)] [])=some (.fin (.exit 0) 0 [(7,.sl .u8 (OL j i x (p.drop j)))] [])
 | 0,j,i,x,hj,hi,hx=>by
  rw[List.drop_eq_nil_of_le zaa,OL]
  exact tq rfl
 | k+1,j,i,x,hj,hi,hx=>by
  have h1:=hm _ (List.getElem_mem (l:=p) (n:=j) zaa)
  rw[List.drop_eq_getElem_cons zaa,OL]
  by_cases hc:i%2=1
  ·have ih:=MK p hm hn k (j+1) (i/2) (Kv j (i/2) p[j] x) zaa zaa (by have:=QS j (i/2) p[j] x;omega)
   rw[show((j+1:Nat):Int)=(j:Int)+1 from by omega] at ih;rw[if_pos hc]
   refine tq ?_;rw[dH _ _ _ _ A8 A8];refine tq ?_
   refine(congrArg (Y E0) ?_).trans ih;rfl
  ·have ih:=MK p hm hn k (j+1) (i/2) (Kv j (i/2) x p[j]) zaa zaa (by have:=QS j (i/2) x p[j];omega)
   rw[show((j+1:Nat):Int)=(j:Int)+1 from by omega] at ih;rw[if_neg hc]
   refine tq ?_;rw[dH _ _ _ _ A8 A8];refine tq ?_
   refine(congrArg (Y E0) ?_).trans ih;rfl
theorem ww(l:List UInt8)(p:List (List UInt8))(hl:l.length<=1000000)(hm:∀ l∈p,l.length<=1000000):Y E0 (.call 107 [.sl .u8 l,.i i,.sl (.sl .u8) p] [])=some (.ret (.sl .u8 (JK l i p)) []):=by
 refine tq ?_
 rcases AY 3 (↑p.length) with hc0|hc0
 ·refine tq ?_
  unfold JK;(repeat(first|rw[if_pos zad]|rw[if_neg zad]));try simp only[NO]
 refine tq ?_
 rcases AY i 0 with hc1|hc1
 ·refine tq ?_
  unfold JK;(repeat(first|rw[if_pos zad]|rw[if_neg zad]));try simp only[NO]
 refine tq ?_;rw[BF,Rz zaa];refine tq ?_
 rcases DD (2^p.length) i with hc2|hc2
 ·refine tq ?_
  unfold JK;(repeat(first|rw[if_pos zad]|rw[if_neg zad]));try simp only[NO]
 refine tq ?_;rw[Hg _ A8];refine tq ?_
 have h8:=A6n (n:=p.length) zaa;have h0:=MK p hm zaa p.length 0 i l zaa zaa hl;rw[show((0:Nat):Int)=0 from rfl,List.drop_zero] at h0;rw[h0];refine tq ?_
 unfold JK;(repeat(first|rw[if_pos zad]|rw[if_neg zad]));try simp only[NO]
theorem A1H(hm:∀ l∈ls,l.length<=1000000)(hn:ls.length<=1000):Y E0 (.call 214 [.sl (.sl .u8) ls] [])=some (.ret (.sl .u8 (Kw ls)) []):=by
 by_cases h:Eo ls.length<0
 ·refine tq ?_;rw[QV _];refine tq ?_
  unfold Kw;(repeat(first|rw[if_pos zad]|rw[if_neg zad]));try simp only[NO]
 ·obtain⟨k,hk,hk2,hk3⟩:=OM ls.length h
  have hlv:=Zp k ls hk hk3 hm
  have hg:BZ (Qd k 0 ls) (k:Int)=some (VE k 0 ls):=by rw[Na];exact YD k 0 ls k (Nat.le_refl _)
  have hln:=U6 k 0 ls 0 hk3
  have hx:=We k 0 ls hm _ (List.getElem_mem (l:=VE k 0 ls) (n:=0) zaa)
  refine tq ?_;rw[BF,QV,hk2];refine tq ?_;rw[hlv];refine tq ?_;rw[hg];refine tq ?_;rw[E8 zaa];refine tq ?_
  unfold Kw;rw[hk2,if_neg zaa];simp[Aa,List.getD,hln]
theorem Qq:∀(k h:Nat) (ls:List (List UInt8)),k<=3->ls.length=2^k->(∀ l∈ls,l.length<=1000000)->h+k<=3->Y E0 (.loop 201 0 0 0 [(3,.sl (.sl .u8) ls),(4,.i h)] [])=some (.fin (.exit 0) 0 [(3,.sl (.sl .u8) (VE k h ls))] [])
 | 0,h,ls,hk,hl,hm,hs=>by
  rw[VE]
  exact tq rfl
 | k+1,h,ls,hk,hl,hm,hs=>by
  have hc':ls.length=2*2^k:=by rw[hl,Nat.pow_succ];omega
  have hk1:1<=2^k:=Nat.one_le_two_pow
  have hk2:2^k<=4:=by
   have:=Nat.pow_le_pow_right (n:=2) zaa (show k<=2 by omega);simpa using this
  have ih:=Qq k (h+1) (VD h 0 ls) zaa zaW (U5 h _ 0 ls (Nat.le_refl _)) zaa
  rw[show((h+1:Nat):Int)=(h:Int)+1 from by omega] at ih;rw[VE]
  refine tq ?_;rw[A3p _ _ A8 A8];refine tq ?_
  refine(congrArg (Y E0) ?_).trans ih;rfl
theorem A1I(hm:∀ l∈ls,l.length<=1000000)(hn:ls.length<=1000):Y E0 (.call 201 [.sl (.sl .u8) ls] [])=some (.ret (.sl .u8 (Kw ls)) []):=by
 by_cases h:Eo ls.length<0
 ·have hf:decide ((ls.length:Int)=1\/(ls.length:Int)=2\/(ls.length:Int)=4\/(ls.length:Int)=8)=false:=by
   unfold Eo at h;rw[decide_eq_false_iff_not];repeat' split at h
   all_goals omega
  refine tq ?_;rw[BF,Wp,hf];refine tq ?_
  unfold Kw;(repeat(first|rw[if_pos zad]|rw[if_neg zad]));try simp only[NO]
 ·obtain⟨k,hk,hk2,hk3⟩:=OM ls.length h
  have hf:decide ((ls.length:Int)=1\/(ls.length:Int)=2\/(ls.length:Int)=4\/(ls.length:Int)=8)=true:=by
   unfold Eo at h;rw[decide_eq_true_iff];repeat' split at h
   all_goals omega
  have h0:=Qq k 0 ls hk hk3 hm zaa
  rw[show((0:Nat):Int)=0 from rfl] at h0
  have hln:=U6 k 0 ls 0 hk3
  have hx:=We k 0 ls hm _ (List.getElem_mem (l:=VE k 0 ls) (n:=Int.toNat 0) (by rw[hln];decide))
  refine tq ?_;rw[BF,Wp,hf];refine tq ?_;rw[h0];refine tq ?_;rw[E8 zaa];refine tq ?_;rw[Hg _ (Nat.le_trans hx zal)];refine tq ?_
  unfold Kw;rw[hk2,if_neg zaa];simp[List.getD,hln]
end
section
attribute [local irreducible] Cj Dt D9 DT DK BH Du Ey Fh FD Et D7 CV Df DX and' Dk DU CG Ba Bl CJ CS BK BM BB BG Dv G7 Dw EM Dl Bh CO Bz C9 Bo BD Bi BO Be BZ Dx Bf DL Bd BI D6 Dy fits Dz Dn AZ Ap BL
theorem Qr(ls:List (List UInt8))(k:Nat)(hk:k<=3)(hl:ls.length=2^k)(hm:∀ l∈ls,l.length<=1000000)(i:Int)(hi:0<=i/\i<ls.length):∀(n j:Nat) (acc:List (List UInt8)),j+n=k->acc.length<=j ->
  Y E0 (.loop 170 0 0 1 [(0,.i i),(6,.nm 0),(27,.sl (.sl (.sl .u8)) ((Qd k 0 ls).take k)),(28,.i k),(29,.i j)] [(0,some (.row 22 (.sl .u8) acc))])=some (.fin (.exit 0) 0 [(6,.sl (.sl .u8) (acc++LD n j (i/2^j) (VE j 0 ls)))] [])
 | 0,j,acc,hj,ha=>by
  rw[LD,List.append_nil]
  rw[Ae];conv=>lhs;whnf
  rw[G8 zaa]
  conv=>lhs;whnf
 | n+1,j,acc,hj,ha=>by
  have hun:=U6 j 0 ls (n+1) (by rw[hl,<-hj])
  have hn2:2^(n+1)=2*2^n:=by rw[Nat.pow_succ];omega
  have hn1:1<=2^n:=Nat.one_le_two_pow
  have hn8:2^(n+1)<=8:=by
   have:=Nat.pow_le_pow_right (n:=2) zaa (show n+1<=3 by omega);simpa using this
  have hij:0<=i/2^j/\i/2^j<((2^(n+1):Nat):Int):=by
   refine⟨Int.ediv_nonneg hi.1 (Int.pow_nonneg zaa),Int.ediv_lt_of_lt_mul (Int.pow_pos zaa) ?_⟩
   have:(ls.length:Int)=((2^(n+1):Nat):Int)*2^j:=by rw[hl,<-hj,Nat.add_comm,Nat.pow_add];simp
   omega
  have hdd:i/2^(j+1)=i/2^j/2:=by rw[Int.pow_succ,Int.ediv_ediv_of_nonneg (Int.pow_nonneg zaa)]
  have hsh:CV i (Bh (j:Int)).toNat=i/2^j:=by rw[LJ,Jr zaa,IJ zaa];simp
  have hus:=YC j 0 ls
  rw[Int.zero_add] at hus
  have hg:BZ ((Qd k 0 ls).take k) (j:Int)=some (VE j 0 ls):=by rw[Na,List.getElem?_take_of_lt zaa];exact YD k 0 ls j zaa
  have hllen:((Qd k 0 ls).take k).length=k:=by rw[List.length_take,YE];omega
  have ih:=Qr ls k hk hl hm i hi n (j+1) (acc++[(VE j 0 ls).getD (Yq (i/2^j)).toNat []]) zaa zaC
  rw[hdd,hus,show((j+1:Nat):Int)=(j:Int)+1 from by omega] at ih
  simp only[List.append_assoc,List.cons_append,List.nil_append] at ih
  have hmu:=We j 0 ls hm
  generalize i/2^j=z at *
  generalize VE j 0 ls=us at *
  have hx:=uC (i:=z) zaa
  have hsb:0<=Yq z/\Yq z<us.length:=by unfold Yq;split<;>omega
  have hx1:=hmu _ (List.getElem_mem (l:=us) (n:=(Yq z).toNat) zaa)
  have hgd:us.getD (Yq z).toNat []=us[(Yq z).toNat]'zaa:=by simp[List.getD,show(Yq z).toNat<us.length by omega]
  rw[LD,hgd]
  rw[hgd] at ih
  rw[Ae];conv=>lhs;whnf
  rw[ET zaa]
  conv=>lhs;whnf
  rw[hg];conv=>lhs;whnf
  rw[hsh,hx];conv=>lhs;whnf
  rw[E8 zaa]
  conv=>lhs;whnf
  rw[DY zaa]
  conv=>lhs;whnf
  rw[DY za5]
  conv=>lhs;whnf
  rw[Aw zaa]
  refine(congrArg (Y E0) ?_).trans ih;(try simp only[Rq.loop.injEq,Rq.call.injEq,Rq.ops.injEq,List.cons.injEq,Prod.mk.injEq,AV.i.injEq,AV.sl.injEq,AV.st.injEq,AV.b.injEq,AV.u8.injEq,AV.nm.injEq,Option.some.injEq,Rs.row.injEq,Rs.var.injEq,heq_eq_eq,true_and,and_true]);(try(repeat' apply And.intro));all_goals first|(with_reducible rfl)|omega|(rw[Aw zaa];omega)|(rw[Ce zaa];omega)|(simp only[Aa,List.nil_append])
theorem A1J(hm:∀ l∈ls,l.length<=1000000)(hn:ls.length<=1000):Y E0 (.call 170 [.i i,.sl (.sl .u8) ls] [])=some (.ret (.sl (.sl .u8) (IL i ls)) []):=by
 by_cases h:Eo ls.length<0
 ·rw[Ae];conv=>lhs;whnf
  rw[AU]
  rw[BF,QV]
  conv=>lhs;whnf
  rw[ET zaa]
  conv=>lhs;whnf
  unfold IL;(repeat(first|rw[if_pos zad]|rw[if_neg zad]));try simp only[NO]
 ·obtain⟨k,hk,hk2,hk3⟩:=OM ls.length h
  have hlv:=Zp k ls hk hk3 hm
  have hll:=YE k 0 ls
  have hc:DL (Qd k 0 ls) 0 (k:Int)=some ((Qd k 0 ls).take k):=by rw[MG zaa];simp
  have hlt:Be ((Qd k 0 ls).take k)=(k:Int):=by rw[BF,List.length_take,hll];omega
  rw[Ae];conv=>lhs;whnf
  rw[AU]
  rw[BF,QV,hk2]
  conv=>lhs;whnf
  rw[G8 zaa]
  conv=>lhs;whnf
  rcases Bool.eq_false_or_eq_true (FD i 0) with hc0|hc0
  ·rw[hc0];replace hc0:=Iy hc0;try simp only[BF] at hc0
   conv=>lhs;whnf
   unfold IL;rw[hk2];(repeat(first|rw[if_pos zad]|rw[if_neg zad]));try rfl
  ·rw[hc0];replace hc0:=Iz hc0;try simp only[BF] at hc0
   conv=>lhs;whnf
   rcases Bool.eq_false_or_eq_true (Et (Be ls) i) with hc1|hc1
   ·rw[hc1];replace hc1:=iV hc1;try simp only[BF] at hc1
    conv=>lhs;whnf
    unfold IL;rw[hk2];(repeat(first|rw[if_pos zad]|rw[if_neg zad]));try rfl
   ·rw[hc1];replace hc1:=iW hc1;try simp only[BF] at hc1
    conv=>lhs;whnf
    rw[AU]
    rw[hlv]
    conv=>lhs;whnf
    rw[hc];conv=>lhs;whnf
    rw[EY]
    have h0:=Qr ls k hk hk3 hm i zaa k 0 [] zaa zao;rw[show((0:Nat):Int)=0 from rfl,Int.pow_zero,Int.ediv_one,VE,List.nil_append] at h0;rw[hlt,h0]
    conv=>lhs;whnf
    unfold IL;rw[hk2];(repeat(first|rw[if_pos zad]|rw[if_neg zad]));try rfl
theorem Qu:∀(k h:Nat) (i:Int) (ls acc:List (List UInt8)),k<=3->ls.length=2^k->(∀ l∈ls,l.length<=1000000)->h+k<=3->0<=i/\i<ls.length->acc.length<=h ->
  Y E0 (.loop 179 0 0 1 [(0,.i i),(5,.nm 0),(6,.sl (.sl .u8) ls),(7,.i h)] [(0,some (.row 22 (.sl .u8) acc))])=some (.fin (.exit 0) 0 [(5,.sl (.sl .u8) (acc++LD k h i ls))] [])
 | 0,h,i,ls,acc,hk,hl,hm,hs,hi,ha=>by
  rw[LD,List.append_nil]
  rw[Ae];conv=>lhs;whnf
  rw[G8 za5]
  conv=>lhs;whnf
 | k+1,h,i,ls,acc,hk,hl,hm,hs,hi,ha=>by
  have hc':ls.length=2*2^k:=by rw[hl,Nat.pow_succ];omega
  have hk1:1<=2^k:=Nat.one_le_two_pow
  have hk2:2^k<=4:=by
   have:=Nat.pow_le_pow_right (n:=2) zaa (show k<=2 by omega);simpa using this
  have hx:=uC (i:=i) zaa
  have hsb:0<=Yq i/\Yq i<ls.length:=by unfold Yq;split<;>omega
  have hx1:=hm _ (List.getElem_mem (l:=ls) (n:=(Yq i).toNat) zaa)
  have hgd:ls.getD (Yq i).toNat []=ls[(Yq i).toNat]'zaa:=by simp[List.getD,show(Yq i).toNat<ls.length by omega]
  have ih:=Qu k (h+1) (i/2) (VD h 0 ls) (acc++[ls.getD (Yq i).toNat []]) zaa zaW (U5 h _ 0 ls (Nat.le_refl _)) zaa zaW zaC
  rw[show((h+1:Nat):Int)=(h:Int)+1 from by omega] at ih
  simp only[List.append_assoc,List.cons_append,List.nil_append] at ih
  rw[LD,hgd]
  rw[hgd] at ih
  rw[Ae];conv=>lhs;whnf
  rw[ET za5]
  conv=>lhs;whnf
  rw[hx];conv=>lhs;whnf
  rw[E8 zaa]
  conv=>lhs;whnf
  rw[AU]
  rw[Hg _ zaa]
  conv=>lhs;whnf
  rw[DY za5]
  conv=>lhs;whnf
  rw[AU]
  rw[A3p _ _ zaa zaa]
  conv=>lhs;whnf
  rw[AA zaa]
  conv=>lhs;whnf
  rw[Ei zaa]
  rw[Aw zaa]
  refine(congrArg (Y E0) ?_).trans ih;(try simp only[Rq.loop.injEq,Rq.call.injEq,Rq.ops.injEq,List.cons.injEq,Prod.mk.injEq,AV.i.injEq,AV.sl.injEq,AV.st.injEq,AV.b.injEq,AV.u8.injEq,AV.nm.injEq,Option.some.injEq,Rs.row.injEq,Rs.var.injEq,heq_eq_eq,true_and,and_true]);(try(repeat' apply And.intro));all_goals first|(with_reducible rfl)|omega|(rw[Aw zaa];omega)|(rw[Ce zaa];omega)|(rw[Aa])
theorem A1K(hm:∀ l∈ls,l.length<=1000000)(hn:ls.length<=1000):Y E0 (.call 179 [.i i,.sl (.sl .u8) ls] [])=some (.ret (.sl (.sl .u8) (IL i ls)) []):=by
 by_cases h:Eo ls.length<0
 ·have hf:decide ((ls.length:Int)=1\/(ls.length:Int)=2\/(ls.length:Int)=4\/(ls.length:Int)=8)=false:=by
   unfold Eo at h;rw[decide_eq_false_iff_not];repeat' split at h
   all_goals omega
  rw[Ae];conv=>lhs;whnf
  rw[AU]
  rw[BF,Wp,hf]
  conv=>lhs;whnf
  rw[EN];conv=>lhs;whnf
  unfold IL;(repeat(first|rw[if_pos zad]|rw[if_neg zad]));try simp only[NO]
 ·obtain⟨k,hk,hk2,hk3⟩:=OM ls.length h
  have hf:decide ((ls.length:Int)=1\/(ls.length:Int)=2\/(ls.length:Int)=4\/(ls.length:Int)=8)=true:=by
   unfold Eo at h;rw[decide_eq_true_iff];repeat' split at h
   all_goals omega
  rw[Ae];conv=>lhs;whnf
  rw[AU]
  rw[BF,Wp,hf]
  conv=>lhs;whnf
  rw[EN];conv=>lhs;whnf
  rcases Bool.eq_false_or_eq_true (FD i 0) with hc0|hc0
  ·rw[hc0];replace hc0:=Iy hc0;try simp only[BF] at hc0
   conv=>lhs;whnf
   unfold IL;rw[hk2];(repeat(first|rw[if_pos zad]|rw[if_neg zad]));try rfl
  ·rw[hc0];replace hc0:=Iz hc0;try simp only[BF] at hc0
   conv=>lhs;whnf
   rcases Bool.eq_false_or_eq_true (Et (Be ls) i) with hc1|hc1
   ·rw[hc1];replace hc1:=iV hc1;try simp only[BF] at hc1
    conv=>lhs;whnf
    unfold IL;rw[hk2];(repeat(first|rw[if_pos zad]|rw[if_neg zad]));try rfl
   ·rw[hc1];replace hc1:=iW hc1;try simp only[BF] at hc1
    conv=>lhs;whnf
    rw[EY]
    have h0:=Qu k 0 i ls [] hk hk3 hm zaa zaa zao;rw[show((0:Nat):Int)=0 from rfl,List.nil_append] at h0;rw[h0]
    conv=>lhs;whnf
    unfold IL;rw[hk2];(repeat(first|rw[if_pos zad]|rw[if_neg zad]));try rfl
end
section
attribute [local irreducible] Cj Dt D9 DT DK BH Du Ey Fh FD Et D7 CV Df DX and' Dk DU CG Ba Bl CJ CS BK BM BB BG Dv G7 Dw EM Dl Bh CO Bz C9 Bo BD Bi BO Be BZ Dx Bf DL Bd BI D6 Dy fits Dz Dn AZ Ap BL
attribute [local irreducible] lsB Qe Ed Ej Gv Kt OI Kw IL JK Il
theorem Nq:Y E0 (.call 167 [.i h] [])=some (.ret (.b (decide (0<=h/\h<=3))) []):=by
 refine tq ?_
 rcases DD 0 h with hc0|hc0
 ·refine tq ?_;exact congrArg (fun b=>some (Rsp.ret (AV.b b) [])) (by rw[FB];apply decide_eq_decide.2;omega)
 refine tq ?_;rw[decide_eq_false zaa]
theorem jT(h:Int)(hs:seed.length<=1000000):Y E0 (.call 169 [.sl .u8 seed,.i h] [])=some (.ret (.sl .u8 (lsB seed h)) []):=by
 refine tq ?_;rw[show strOf {data := #[115,105,103,110,101,114]}=dA from rfl,JV _ _ _ _ zaa zal zao,F5];refine tq ?_
 (unfold lsB;rfl)
theorem Zq(h:Int)(hs:seed.length<=1000000):Y E0 (.call 178 [.sl .u8 seed,.i h] [])=some (.ret (.sl .u8 (lsB seed h)) []):=by
 refine tq ?_;rw[show strOf {data := #[115,105,103,110,101,114]}=dA from rfl,EZ _ _ _ _ zaa zal zao,F5];refine tq ?_
 (unfold lsB;rfl)
theorem Pg(seed:List UInt8)(k N:Nat)(hk:k<=3)(hN:N=2^k):∀(n j:Nat),j+n=N->Y E0 (.loop 171 0 0 1 [(5,.sl .u8 (lsB seed k)),(6,.nm 0),(13,.i (N:Int)),(14,.i (j:Int))] [(0,some (.row 22 (.sl .u8) ((Qe seed k).take j)))])=some (.fin (.exit 0) 0 [(6,.sl (.sl .u8) (Qe seed k))] [])
 | 0,j,hj=>by
  have hl:=GU seed k
  rw[List.take_of_length_le zaa]
  exact tq rfl
 | n+1,j,hj=>by
  have h8:=LM hk
  have hl:=GU seed k
  have ih:=Pg seed k N hk hN n (j+1) zaa
  have ht:(Qe seed k).take j++[Gv (lsB seed k) j]=(Qe seed k).take (j+1):=by
   have hg:=Wi (seed:=seed) (k:=k) (i:=j) zaa
   rw[List.getD,List.getElem?_eq_getElem zaa,Option.getD_some] at hg;rw[List.take_succ_eq_append_getElem zaa,hg]
  have hs:=J9 seed k
  refine tq ?_;rw[wo _ _ zaa];refine tq ?_
  refine(congrArg (Y E0) ?_).trans ih;(try simp only[Rq.loop.injEq,Rq.call.injEq,Rq.ops.injEq,List.cons.injEq,Prod.mk.injEq,AV.i.injEq,AV.sl.injEq,AV.st.injEq,AV.b.injEq,AV.u8.injEq,AV.nm.injEq,Option.some.injEq,Rs.row.injEq,Rs.var.injEq,heq_eq_eq,true_and,and_true]);(try(repeat' apply And.intro));all_goals first|(with_reducible rfl)|omega|(rw[Aw zaa];omega)|(rw[Ce zaa];omega)|(rw[Aa];exact ht)
theorem Zr(hk:k<=3)(hs:seed.length<=1000000):Y E0 (.call 171 [.sl .u8 seed,.i (k:Int)] [])=some (.ret (.sl (.sl .u8) (Qe seed k)) []):=by
 have hsh:D7 1 (Bh (k:Int)).toNat=((2^k:Nat):Int):=zbs
 have hl:=Pg seed k _ hk rfl (2^k) 0 zaa
 rw[List.take_zero,show((0:Nat):Int)=0 from rfl] at hl;refine tq ?_;rw[jT _ _ A8];refine tq ?_;rw[hsh,hl];exact tq rfl
theorem Oj(seed:List UInt8)(k N:Nat)(hk:k<=3)(hN:N=2^k):∀(n j:Nat),j+n=N->Y E0 (.loop 180 0 0 1 [(1,.i (k:Int)),(5,.nm 0),(6,.sl .u8 (lsB seed k)),(7,.i (j:Int))] [(0,some (.row 22 (.sl .u8) ((Qe seed k).take j)))])=some (.fin (.exit 0) 0 [(5,.sl (.sl .u8) (Qe seed k))] [])
 | 0,j,hj=>by
  have hl:=GU seed k
  have hsh:D7 1 (Bh (k:Int)).toNat=(N:Int):=by rw[Rz zaa,Gm,hN]
  rw[List.take_of_length_le zaa]
  rw[Ae];conv=>lhs;whnf
  rw[hsh];exact tq rfl
 | n+1,j,hj=>by
  have h8:=LM hk
  have hl:=GU seed k
  have hsh:D7 1 (Bh (k:Int)).toNat=(N:Int):=by rw[Rz zaa,Gm,hN]
  have ih:=Oj seed k N hk hN n (j+1) zaa
  have ht:(Qe seed k).take j++[Gv (lsB seed k) j]=(Qe seed k).take (j+1):=by
   have hg:=Wi (seed:=seed) (k:=k) (i:=j) zaa
   rw[List.getD,List.getElem?_eq_getElem zaa,Option.getD_some] at hg;rw[List.take_succ_eq_append_getElem zaa,hg]
  have hs:=J9 seed k
  rw[Ae];conv=>lhs;whnf
  rw[hsh];refine tq ?_;rw[nR _ _ zaa];refine tq ?_
  refine(congrArg (Y E0) ?_).trans ih;(try simp only[Rq.loop.injEq,Rq.call.injEq,Rq.ops.injEq,List.cons.injEq,Prod.mk.injEq,AV.i.injEq,AV.sl.injEq,AV.st.injEq,AV.b.injEq,AV.u8.injEq,AV.nm.injEq,Option.some.injEq,Rs.row.injEq,Rs.var.injEq,heq_eq_eq,true_and,and_true]);(try(repeat' apply And.intro));all_goals first|(with_reducible rfl)|omega|(rw[Aw zaa];omega)|(rw[Ce zaa];omega)|(rw[Aa];exact ht)
theorem YP(hk:k<=3)(hs:seed.length<=1000000):Y E0 (.call 180 [.sl .u8 seed,.i (k:Int)] [])=some (.ret (.sl (.sl .u8) (Qe seed k)) []):=by
 have hl:=Oj seed k _ hk rfl (2^k) 0 zaa
 rw[List.take_zero,show((0:Nat):Int)=0 from rfl] at hl;refine tq ?_;rw[Zq _ _ A8];refine tq ?_;rw[hl];exact tq rfl
theorem A31(h:Int)(hs:seed.length<=1000000):Y E0 (.call 162 [.sl .u8 seed,.i h] [])=some (.ret (.sl .u8 (Ed seed h)) []):=by
 by_cases hh:0<=h/\h<=3
 ·obtain⟨k,rfl⟩:∃ k:Nat,h=k:=⟨h.toNat,by omega⟩
  have hk:k<=3:=zaa
  have hr:=dB (seed:=seed) hk
  refine tq ?_;rw[Nq,decide_eq_true hh];refine tq ?_;rw[Zr _ _ hk hs];refine tq ?_;rw[A1H _ (Wh hk) (uF hk)];refine tq ?_
  (rw[Ed,if_pos hh,Int.toNat_natCast,Aa,F5];rfl)
 ·refine tq ?_;rw[Nq,decide_eq_false hh];refine tq ?_
  (rw[Ed,if_neg hh])
theorem jU(h:Int)(hs:seed.length<=1000000):Y E0 (.call 146 [.sl .u8 seed,.i h] [])=some (.ret (.nm 0) [some (.row 5 .u8 (Ed seed h))]):=by
 by_cases hh:0<=h/\h<=3
 ·obtain⟨k,rfl⟩:∃ k:Nat,h=k:=⟨h.toNat,by omega⟩
  have hk:k<=3:=zaa
  have hr:=dB (seed:=seed) hk
  refine tq ?_;rw[YP _ _ hk hs];refine tq ?_;rw[A1I _ (Wh hk) (uF hk)];refine tq ?_
  (rw[Ed,if_pos hh,Int.toNat_natCast,Aa,F5];rfl)
 ·refine tq ?_
  rcases AY h 0 with hc0|hc0
  ·refine tq ?_
   (rw[Ed,if_neg hh])
  refine tq ?_
  (rw[Ed,if_neg hh])
theorem Qv(P:List (List UInt8))(hP:∀ l∈P,l.length=16)(hn:P.length<=3):∀(n j:Nat) (acc:List UInt8),j+n=P.length->acc.length<=1000+16*j->Y E0 (.loop 105 0 0 1 [(9,.nm 0),(40,.sl (.sl .u8) P),(41,.i P.length),(42,.i (j:Int))] [(0,some (.row 5 .u8 acc))])=some (.fin (.exit 0) 0 [(9,.sl .u8 (acc++(P.drop j).flatten))] [])
 | 0,j,acc,hj,ha=>by
  rw[List.drop_eq_nil_of_le zaa,List.flatten_nil,List.append_nil]
  exact tq rfl
 | n+1,j,acc,hj,ha=>by
  have hx:=hP _ (List.getElem_mem (l:=P) (n:=j) zaa)
  have hg:BZ P (j:Int)=some (P[j]'zaa):=GY zaa
  have ih:=Qv P hP hn n (j+1) (acc++P[j]'zaa) zaa (by rw[List.length_append];omega)
  have hd:=List.drop_eq_getElem_cons (l:=P) (i:=j) zaa
  rw[List.append_assoc,<-List.flatten_cons,<-hd] at ih
  clear hd
  refine to ?_;rw[hg];refine tq ?_
  refine(congrArg (Y E0) ?_).trans ih;(try simp only[Rq.loop.injEq,Rq.call.injEq,Rq.ops.injEq,List.cons.injEq,Prod.mk.injEq,AV.i.injEq,AV.sl.injEq,AV.st.injEq,AV.b.injEq,AV.u8.injEq,AV.nm.injEq,Option.some.injEq,Rs.row.injEq,Rs.var.injEq,heq_eq_eq,true_and,and_true]);(try(repeat' apply And.intro));all_goals first|(with_reducible rfl)|omega|(rw[Aw zaa];omega)|(rw[Ce zaa];omega)|rw[Aa]
theorem A1L(h leaf:Int)(m:List UInt8)(hs:seed.length<=1000000)(hm:m.length<=1000000):Y E0 (.call 105 [.sl .u8 seed,.i h,.i leaf,.sl .u8 m] [])=some (.ret (.sl .u8 (Ej seed h leaf m)) []):=by
 by_cases hh:0<=h/\h<=3
 ·obtain⟨k,rfl⟩:∃ k:Nat,h=k:=⟨h.toNat,by omega⟩
  have hk:k<=3:=zaa
  have h8:=LM hk
  have hsh:D7 1 (Bh (k:Int)).toNat=((2^k:Nat):Int):=zbs
  have hl:=J9 seed k
  by_cases hc:0<=leaf/\leaf<((2^k:Nat):Int)
  ·have hsb:=Nk (seed:=lsB seed k) (m:=m) (leaf:=leaf) zaa
   obtain⟨p1,p2⟩:=Wj (seed:=seed) (k:=k) (i:=leaf) hk zaa (by rw[Gm];omega)
   have hlp:=Qv _ p2 zaa (IL leaf (Qe seed k)).length 0 (BI [EM leaf] (Kt (lsB seed k) leaf m)) zaa (by rw[Aa,List.length_append,hsb];simp)
   rw[List.drop_zero,show((0:Nat):Int)=0 from rfl] at hlp;refine tq ?_;rw[Nq,decide_eq_true hh]
   conv=>lhs;whnf
   rw[EN];conv=>lhs;whnf
   rw[G8 zaa]
   conv=>lhs;whnf
   rw[hsh];refine tq ?_;rw[jT _ _ A8];refine tq ?_;rw[A30 _ _ _ zaa zaa];refine tq ?_;rw[Zr _ _ hk hs];refine tq ?_;rw[A1J _ _ (Wh hk) (uF hk)];refine tq ?_;rw[BF,hlp];refine tq ?_
   (rw[Ej,if_pos ⟨hh,by rw[Int.toNat_natCast,Gm];exact hc⟩,Int.toNat_natCast,Aa,F5];rfl)
  ·refine tq ?_;rw[Nq,decide_eq_true hh];refine tq ?_
   rcases AY leaf 0 with hc0|hc0
   ·refine tq ?_
    (rw[Ej,if_neg zbl])
   rw[G8 zaa]
   conv=>lhs;whnf
   rw[hsh];refine tq ?_
   (rw[Ej,if_neg zbl])
 ·refine tq ?_;rw[Nq,decide_eq_false hh];refine tq ?_
  (rw[Ej,if_neg zaa])
theorem Ph(P:List (List UInt8))(hP:∀ l∈P,l.length=16)(hn:P.length<=3):∀(n j:Nat) (acc:List UInt8),j+n=P.length->acc.length<=1000+16*j->Y E0 (.loop 116 0 0 1 [(9,.nm 0),(10,.sl (.sl .u8) P),(11,.i (j:Int))] [(0,some (.row 5 .u8 acc))])=some (.fin (.exit 0) 1 [(9,.nm 0)] [(0,some (.row 5 .u8 (acc++(P.drop j).flatten)))])
 | 0,j,acc,hj,ha=>by
  rw[List.drop_eq_nil_of_le zaa,List.flatten_nil,List.append_nil]
  exact tq rfl
 | n+1,j,acc,hj,ha=>by
  have hx:=hP _ (List.getElem_mem (l:=P) (n:=j) zaa)
  have hg:BZ P (j:Int)=some (P[j]'zaa):=GY zaa
  have ih:=Ph P hP hn n (j+1) (acc++P[j]'zaa) zaa (by rw[List.length_append];omega)
  have hd:=List.drop_eq_getElem_cons (l:=P) (i:=j) zaa
  rw[List.append_assoc,<-List.flatten_cons,<-hd] at ih
  clear hd
  refine to ?_;rw[hg];refine tq ?_
  refine(congrArg (Y E0) ?_).trans ih;(try simp only[Rq.loop.injEq,Rq.call.injEq,Rq.ops.injEq,List.cons.injEq,Prod.mk.injEq,AV.i.injEq,AV.sl.injEq,AV.st.injEq,AV.b.injEq,AV.u8.injEq,AV.nm.injEq,Option.some.injEq,Rs.row.injEq,Rs.var.injEq,heq_eq_eq,true_and,and_true]);(try(repeat' apply And.intro));all_goals first|(with_reducible rfl)|omega|(rw[Aw zaa];omega)|(rw[Ce zaa];omega)|rw[Aa]
theorem VL(h leaf:Int)(m:List UInt8)(hs:seed.length<=1000000)(hm:m.length<=1000000):Y E0 (.call 116 [.sl .u8 seed,.i h,.i leaf,.sl .u8 m] [])=some (.ret (.nm 0) [some (.row 5 .u8 (Ej seed h leaf m))]):=by
 by_cases hh:0<=h/\h<=3
 ·obtain⟨k,rfl⟩:∃ k:Nat,h=k:=⟨h.toNat,by omega⟩
  have hk:k<=3:=zaa
  have h8:=LM hk
  have hsh:D7 1 (Bh (k:Int)).toNat=((2^k:Nat):Int):=zbs
  have hl:=J9 seed k
  by_cases hc:0<=leaf/\leaf<((2^k:Nat):Int)
  ·have hsb:=Nk (seed:=lsB seed k) (m:=m) (leaf:=leaf) zaa
   obtain⟨p1,p2⟩:=Wj (seed:=seed) (k:=k) (i:=leaf) hk zaa (by rw[Gm];omega)
   have hlp:=Ph _ p2 zaa (IL leaf (Qe seed k)).length 0 (BI [EM leaf] (Kt (lsB seed k) leaf m)) zaa (by rw[Aa,List.length_append,hsb];simp)
   rw[List.drop_zero,show((0:Nat):Int)=0 from rfl] at hlp;rw[Ae]
   conv=>lhs;whnf
   rw[G8 zaa]
   conv=>lhs;whnf
   rw[G8 zaa]
   conv=>lhs;whnf
   rw[G8 zaa]
   conv=>lhs;whnf
   rw[hsh];refine tq ?_;rw[Zq _ _ A8];refine tq ?_;rw[A1G _ _ _ zaa zaa];refine tq ?_;rw[YP _ _ hk hs];refine tq ?_;rw[A1K _ _ (Wh hk) (uF hk)];refine tq ?_;rw[hlp];refine tq ?_
   (rw[Ej,if_pos ⟨hh,by rw[Int.toNat_natCast,Gm];exact hc⟩,Int.toNat_natCast,Aa,F5];rfl)
  ·refine tq ?_
   rcases AY leaf 0 with hc0|hc0
   ·refine tq ?_
    (rw[Ej,if_neg zbl])
   rw[G8 zaa]
   conv=>lhs;whnf
   rw[hsh];refine tq ?_
   (rw[Ej,if_neg zbl])
 ·refine tq ?_
  rcases AY h 0 with hc0|hc0
  ·refine tq ?_
   (rw[Ej,if_neg zaa])
  refine tq ?_
  (rw[Ej,if_neg zaa])
theorem Qw(p s x:List UInt8)(i:Int)(k:Nat)(hk:k<=3)(hs:s.length=561+16*k):∀(n j:Nat) (acc:List (List UInt8)),j+n=k->acc.length=j->Y E0 (.loop 49 0 0 1 [(0,.sl .u8 p),(2,.sl .u8 s),(8,.i (k:Int)),(9,.i i),(10,.i (561+16*(j:Int))),(11,.sl .u8 x),(13,.nm 0),(14,.i (j:Int))] [(0,some (.row 22 (.sl .u8) acc))])=some (.fin (.exit 0) 0 [(0,.sl .u8 p),(9,.i i),(11,.sl .u8 x),(13,.sl (.sl .u8) (acc++Il n (s.drop (561+16*j))))] [])
 | 0,j,acc,hj,ha=>by
  unfold Il
  rw[List.append_nil]
  exact tq rfl
 | n+1,j,acc,hj,ha=>by
  have ih:=Qw p s x i k hk hs n (j+1) (acc++[(s.drop (561+16*j)).take 16]) zaa (by rw[List.length_append];simp;omega)
  unfold Il
  rw[List.append_assoc,List.singleton_append,show 561+16*(j+1)=(561+16*j)+16 from by omega,show List.drop (561+16*j+16) s=List.drop 16 (List.drop (561+16*j) s) from by rw[List.drop_drop],show((j+1:Nat):Int)=(j:Int)+1 from by omega] at ih
  have e1:List.take (561+16*(j:Int)+16-(561+16*(j:Int))).toNat (List.drop (561+16*(j:Int)).toNat s)=List.take 16 (List.drop (561+16*j) s):=by
   rw[show(561+16*(j:Int)+16-(561+16*(j:Int))).toNat=16 from by omega,show(561+16*(j:Int)).toNat=561+16*j from by omega]
  refine tq ?_
  refine(congrArg (Y E0) ?_).trans ih;(try simp only[Rq.loop.injEq,Rq.call.injEq,Rq.ops.injEq,List.cons.injEq,Prod.mk.injEq,AV.i.injEq,AV.sl.injEq,AV.st.injEq,AV.b.injEq,AV.u8.injEq,AV.nm.injEq,Option.some.injEq,Rs.row.injEq,Rs.var.injEq,heq_eq_eq,true_and,and_true]);(try(repeat' apply And.intro));all_goals first|(with_reducible rfl)|omega|(rw[Aw zaa];omega)|(rw[Ce zaa];omega)|(rw[Aa,e1])
theorem jV(p m s:List UInt8)(hm:m.length<=1000000):Y E0 (.call 49 [.sl .u8 p,.sl .u8 m,.sl .u8 s] [])=some (.ret (.tup [.i (Gf p m s).1,.b (Gf p m s).2]) []):=by
 by_cases hp:p.length=17
 ·obtain⟨a,p',rfl⟩:∃ a p',p=a::p':=by cases p with|nil=>simp at hp|cons a p'=>exact⟨a,p',rfl⟩
  have hgp:BZ (a::p') 0=some a:=JD zaa rfl
  obtain⟨k,hk⟩:∃ k:Nat,a.toNat=k:=⟨_,rfl⟩
  have hpk:G7 a=(k:Int):=by rw[V4,hk]
  by_cases hk3:k<=3
  ·by_cases hs:s.length=561+16*k
   ·obtain⟨b,s',rfl⟩:∃ b s',s=b::s':=by cases s with|nil=>(simp at hs;omega)|cons b s'=>exact⟨b,s',rfl⟩
    have hgs:BZ (b::s') 0=some b:=JD zaa rfl
    obtain⟨i,hi⟩:∃ i:Nat,b.toNat=i:=⟨_,rfl⟩
    have hsi:G7 b=(i:Int):=by rw[V4,hi]
    have h8:=LM hk3
    have hsh:D7 1 (Bh (k:Int)).toNat=((2^k:Nat):Int):=zbs
    by_cases hi2:i<2^k
    ·have hr2:=rec_2 (i:Int) m (((b::s').drop 1).take 560)
     rw[decide_eq_true ⟨by omega,by rw[List.length_take,List.length_drop,hs];omega⟩] at hr2
     have hrl:=A4h (i:Int) m (((b::s').drop 1).take 560)
     rw[wQ hk hi hp hk3 hs hi2]
     have hrr:=jS (i:Int) m (((b::s').drop 1).take 560) hm
     rw[hr2] at hrr
     replace hrr:Y E0 (.call 106 [.i (i:Int),.sl .u8 m,.sl .u8 (List.take ((561:Int)-1).toNat (List.drop (Int.toNat 1) (b::s')))] [])=_:=hrr
     have hcm:=Zl k ((b::s').drop 561)
     have hlp:=Qw (a::p') (b::s') (OI (i:Int) m (((b::s').drop 1).take 560)).1 (i:Int) k hk3 hs k 0 [] zaa rfl
     rw[List.nil_append,show 561+16*0=561 from rfl,show((0:Nat):Int)=0 from rfl,show(561:Int)+16*0=561 from rfl] at hlp
     have e8:List.take (Be (a::p')-1).toNat (List.drop (Int.toNat 1) (a::p'))=p':=List.take_of_length_le (by rw[BF];simp)
     generalize (OI (i:Int) m (((b::s').drop 1).take 560)).1=x at *
     rw[Ae]
     conv=>lhs;whnf
     rw[EC zaK]
     conv=>lhs;whnf
     rw[hgp]
     conv=>lhs;whnf
     rw[hpk]
     conv=>lhs;whnf
     rw[G8 zaa]
     conv=>lhs;whnf
     rw[hgp]
     conv=>lhs;whnf
     rw[GR zaa];rw[Aw zaa];rw[hpk]
     conv=>lhs;whnf
     rw[EC zaK]
     conv=>lhs;whnf
     rw[hgs]
     conv=>lhs;whnf
     rw[hsi]
     conv=>lhs;whnf
     rw[hsh]
     conv=>lhs;whnf
     rw[Ql zaa]
     conv=>lhs;whnf
     rw[hgs]
     conv=>lhs;whnf
     rw[Ae]
     conv=>lhs;whnf
     rw[hsi];refine tq ?_;rw[hrr];refine tq ?_;rw[hlp];refine tq ?_;rw[ww _ _ _ zaa hcm];refine tq ?_;rw[e8,CY _ _ (A0x zaa)];refine tq ?_
     rcases Decidable.em (JK x (↑i) (Il k (List.drop 561 (b::s')))=p') with hc0|hc0
     ·refine tq ?_;rw[if_pos hc0]
     refine tq ?_;rw[if_neg hc0]
    ·rw[Wl (fun h=>hi2 (by have h4:=h.2.2.2;change b.toNat<2^a.toNat at h4;rw[hk,hi] at h4;exact h4))]
     rw[Ae]
     conv=>lhs;whnf
     rw[EC zaK]
     conv=>lhs;whnf
     rw[hgp]
     conv=>lhs;whnf
     rw[hpk]
     conv=>lhs;whnf
     rw[G8 zaa]
     conv=>lhs;whnf
     rw[hgp]
     conv=>lhs;whnf
     rw[GR zaa];rw[Aw zaa];rw[hpk]
     conv=>lhs;whnf
     rw[EC zaK]
     conv=>lhs;whnf
     rw[hgs]
     conv=>lhs;whnf
     rw[hsi]
     conv=>lhs;whnf
     rw[hsh];exact tq rfl
   ·rw[Wl (fun h=>hs (by have h4:=h.2.2.1;change _=561+16*a.toNat at h4;rw[hk] at h4;exact h4))]
    rw[Ae]
    conv=>lhs;whnf
    rw[EC zaK]
    conv=>lhs;whnf
    rw[hgp]
    conv=>lhs;whnf
    rw[hpk]
    conv=>lhs;whnf
    rw[G8 zaa]
    conv=>lhs;whnf
    rw[hgp]
    conv=>lhs;whnf
    rw[GR zaa];rw[Aw zaa];rw[hpk];exact tq rfl
  ·rw[Wl (fun h=>hk3 (by have h4:=h.2.1;change a.toNat<=3 at h4;omega))]
   rw[Ae]
   conv=>lhs;whnf
   rw[EC zaK]
   conv=>lhs;whnf
   rw[hgp]
   conv=>lhs;whnf
   rw[hpk];exact tq rfl
 ·rw[Wl (fun h=>hp h.1)];exact tq rfl
end
end Go.Proofs.YtnhgnfdbdflhcaaGreatDoor
namespace Go.Proofs.YtnhgnfdbdflhcaaGreatDoor
open Go Go.Ax
variable (b:List UInt8)(p:Nat)(e n:Int)
section
attribute [local irreducible] Cj Dt D9 DT DK BH Du Ey Fh FD Et D7 CV Df DX and' Dk DU CG Ba Bl CJ CS BK BM BB BG Dv G7 Dw EM Dl Bh CO Bz C9 Bo BD Bi BO Be BZ Dx Bf DL Bd BI D6 Dy fits Dz Dn AZ Ap BL
theorem Pi(n:Int):∀(k:Nat) (i:Int) (acc:List UInt8),i=(k:Int)-1->k<=8->acc.length+k<=5000000000 ->
  Y E0 (.loop 113 0 0 1 [(2,.i n),(7,.nm 0),(8,.i i)] [(0,some (.row 5 .u8 acc))])=some (.fin (.exit 0) 1 [(7,.nm 0)] [(0,some (.row 5 .u8 (acc++QM k (UInt64.ofInt n))))])
 | 0,i,acc,hi,_,_=>by
  rw[Ae];conv=>lhs;whnf
  refine BQ ?_
  simp[QM]
 | k+1,i,acc,hi,hk,hl=>by
  rw[Ae];conv=>lhs;whnf
  rw[Gj zaa]
  conv=>lhs;whnf
  rw[DY zar]
  conv=>lhs;whnf
  try dsimp -iota -beta -eta -zeta only
  rw[Ce zaa]
  rw[Pi n k _ _ zab zab zab]
  refine BQ ?_
  simp only[Aa,Ti,QM,List.append_assoc,List.cons_append,List.nil_append];rw[A2V zaa,LJ,QL zaa,show(8*i).toNat=8*k from by omega]
theorem CQ(size n:Int)(hb:b.length<=4294967296):Y E0 (.call 113 [.sl .u8 b,.i size,.i n] [])=some (.ret (.nm 0) [some (.row 5 .u8 (CE b size n))]):=by
 rw[Ae]
 conv=>lhs;whnf
 rw[DY zar]
 conv=>lhs;whnf
 rcases AY size 1 with hc0|hc0
 ·
  refine BQ ?_
  unfold CE;(repeat(first|rw[if_pos zab]|rw[if_neg zab]));try simp only[NO]
 refine BQ ?_
 rcases AY 8 size with hc1|hc1
 ·
  refine BQ ?_
  unfold CE;(repeat(first|rw[if_pos zab]|rw[if_neg zab]));try simp only[NO]
 refine BQ ?_
 rw[Pi n size.toNat _ _ zab zab zab]
 refine BQ ?_
 unfold CE;(repeat(first|rw[if_pos zab]|rw[if_neg zab]));try simp only[NO]
theorem Fb(x:List UInt8)(hb:b.length<=4294900000):Y E0 (.call 114 [.sl .u8 b,.sl .u8 x] [])=some (.ret (.nm 0) [some (.row 5 .u8 (Jk b x))]):=by
 have h2:(x.take 65535).length<=65535:=za6
 have h1:=ZX b 2 (Be (x.take 65535))
 have hx:DL x 0 65535=some (x.take 65535)\/x.length<65535:=by
  rcases Nat.lt_or_ge x.length 65535 with h|h
  ·exact .inr h
  ·exact .inl (by rw[Jq zaa];rfl)
 by_cases h:65535<x.length
 ·have hx:DL x 0 65535=some (x.take 65535):=by rw[Jq zaa];rfl
  rw[Ae]
  conv=>lhs;whnf
  rw[ET zar]
  conv=>lhs;whnf
  rw[hx]
  refine BQ ?_
  rw[CQ _ _ _ DZ]
  conv=>lhs;whnf
  rw[DY zar]
  conv=>lhs;whnf
  rw[Aa,Jk,BF]
 ·rw[List.take_of_length_le zaa] at h1
  rw[Ae]
  conv=>lhs;whnf
  rw[G8 zar]
  conv=>lhs;whnf
  rw[Ae]
  conv=>lhs;whnf
  try dsimp -iota -beta -eta -zeta only
  rw[AU]
  rw[CQ _ _ _ DZ]
  conv=>lhs;whnf
  rw[DY zar]
  conv=>lhs;whnf
  rw[Aa,Jk,List.take_of_length_le zaa,BF]
theorem Pj:Y E0 (.call 39 [.sl .u8 b] [])=some (.ret (.pa 0 0) [some (.var [.sl .u8 b,.i 0,.i 0])]):=by
 exact BQ rfl
theorem JX(p e n:Int)(hb:b.length<=4294967296)(hp:0<=p/\p<=b.length)(he:e=0)(hn:p+n<=b.length):Y E0 (.call 100 [.pa 0 0,.i n] [.var [.sl .u8 b,.i p,.i e]])=some (.ret (.b true) [some (.var [.sl .u8 b,.i p,.i 0])]):=by
 subst he
 rw[Ae]
 conv=>lhs;whnf
 rw[ER zaa]
 conv=>lhs;whnf
 try dsimp -iota -beta -eta -zeta only
 rw[Ce zar]
 rw[drw zas];conv=>lhs;whnf
 rw[G8 zar]
 conv=>lhs;whnf
 rw[Ae]
 conv=>lhs;whnf
 rw[ER rfl]
theorem N9(p e n:Int)(hb:b.length<=4294967296)(hp:0<=p/\p<=b.length)(he:e=0)(hn:b.length<p+n):Y E0 (.call 100 [.pa 0 0,.i n] [.var [.sl .u8 b,.i p,.i e]])=some (.ret (.b false) [some (.var [.sl .u8 b,.i p,.i 2])]):=by
 subst he
 rw[Ae]
 conv=>lhs;whnf
 rw[ER zaa]
 conv=>lhs;whnf
 try dsimp -iota -beta -eta -zeta only
 rw[Ce zar]
 rw[drw zas];conv=>lhs;whnf
 rw[ET zar]
 conv=>lhs;whnf
 rw[Ae]
 conv=>lhs;whnf
 rw[AA zal]
theorem wz(hb:b.length<=4294967296)(hp:p<=b.length):Y E0 (.call 101 [.pa 0 0] [.var [.sl .u8 b,.i p,.i e]])=some (.ret (.i ((b.length-p:Nat):Int)) [some (.var [.sl .u8 b,.i p,.i e])]):=by
 rw[Ae]
 conv=>lhs;whnf
 try dsimp -iota -beta -eta -zeta only
 rw[Ce zar]
 rw[drw zas];conv=>lhs;whnf
 simp only[BF];congr 4;omega
theorem UC(hb:b.length<=4294967296)(hp:p<=b.length):Y E0 (.call 42 [.pa 0 0] [.var [.sl .u8 b,.i p,.i e]])=some (.ret (.i (WT b p e)) [some (.var [.sl .u8 b,.i p,.i e])]):=by
 refine BQ ?_
 rcases AL e 0 with hc0|hc0
 ·
  subst hc0
  refine BQ ?_
  rw[wz _ _ _ DZ DZ]
  refine BQ ?_
  rcases AY 0 (↑(b.length-p)) with hc1|hc1
  ·
   refine BQ ?_
   unfold WT;(repeat(first|rw[if_pos zab]|rw[if_neg zab]));try simp only[NO]
  refine BQ ?_
  unfold WT;(repeat(first|rw[if_pos zab]|rw[if_neg zab]));try simp only[NO]
 refine BQ ?_
 unfold WT;(repeat(first|rw[if_pos zab]|rw[if_neg zab]));try simp only[NO]
theorem YQ(hb:b.length<=4294967296)(hp:p<=b.length)(hn:n<=4294967296):Y E0 (.call 108 [.pa 0 0,.i n] [.var [.sl .u8 b,.i p,.i e]])=some (.ret (.sl .u8 (V5 b p e n).1) [some (.var [.sl .u8 b,.i (V5 b p e n).2.1,.i (V5 b p e n).2.2])]):=by
 by_cases h:b.length<(p:Int)+n
 ·refine BQ ?_
  rcases AL e 0 with hc0|hc0
  ·
   subst hc0
   refine BQ ?_
   rw[N9 _ _ _ _ DZ DZ DZ DZ]
   refine BQ ?_
   unfold V5;(repeat(first|rw[if_pos zab]|rw[if_neg zab]));try simp only[NO]
  refine BQ ?_
  unfold V5;(repeat(first|rw[if_pos zab]|rw[if_neg zab]));try simp only[NO]
 ·refine BQ ?_
  rcases AL e 0 with hc0|hc0
  ·
   subst hc0
   refine BQ ?_
   rcases AY n 0 with hc1|hc1
   ·
    refine BQ ?_
    unfold V5;(repeat(first|rw[if_pos zab]|rw[if_neg zab]));try simp only[NO]
   refine BQ ?_
   rw[JX _ _ _ _ DZ DZ DZ DZ]
   conv=>lhs;whnf
   rw[EN];conv=>lhs;whnf
   rw[Aw zaa]
   rw[Ce zaa]
   rw[Jq zaa]
   conv=>lhs;whnf
   rw[DY zar]
   conv=>lhs;whnf
   try dsimp -iota -beta -eta -zeta only
   rw[drw zas];conv=>lhs;whnf
   rw[show(p:Int)+n-n=p from by omega,show(p:Int)+n-p=n from by omega,show(p:Int)+n=((p+n.toNat:Nat):Int) from by omega];unfold V5;(repeat(first|rw[if_pos zab]|rw[if_neg zab]));simp only[Aa,List.nil_append,Int.toNat_natCast]
  refine BQ ?_
  unfold V5;(repeat(first|rw[if_pos zab]|rw[if_neg zab]));try simp only[NO]
end
section
attribute [local irreducible] Cj Dt D9 DT DK BH Du Ey Fh FD Et D7 CV Df DX and' Dk DU CG Ba Bl CJ CS BK BM BB BG Dv G7 Dw EM Dl Bh CO Bz C9 Bo BD Bi BO Be BZ Dx Bf DL Bd BI D6 Dy fits Dz Dn AZ Ap BL
theorem L8(b:List UInt8)(n p e:Int)(hb:b.length<=4294967296)(hp:0<=p)(h:p+n<=b.length)(hn:n<=8):∀(k:Nat) (acc:UInt64) (j:Int),j=n-k->0<=j ->
  Y E0 (.loop 40 0 1 1 [(0,.pa 0 0),(1,.i n),(5,.u64 acc),(6,.i j)] [(0,some (.var [.sl .u8 b,.i p,.i e]))])=some (.fin (.exit 0) 1 [(0,.pa 0 0),(1,.i n),(5,.u64 ((((b.drop p.toNat).take n.toNat).drop j.toNat).foldl (fun n x=>n<<<8|||x.toUInt64) acc))] [(0,some (.var [.sl .u8 b,.i p,.i e]))])
 | 0,acc,j,hj,hk=>by
  rw[Ae];conv=>lhs;whnf
  rw[G8 zaa]
  conv=>lhs;whnf
  rw[List.drop_eq_nil_of_le zaC];rfl
 | k+1,acc,j,hj,hk=>by
  have hlt:j.toNat<((b.drop p.toNat).take n.toNat).length:=zaC
  rw[Ae];conv=>lhs;whnf
  rw[ET zaa]
  conv=>lhs;whnf
  rw[Aw zaa]
  rw[E8 zaa]
  conv=>lhs;whnf
  rw[drw zas];conv=>lhs;whnf
  rw[Aw zaa]
  rw[L8 b n p e hb hp h hn k _ _ zaa zaa]
  conv=>lhs;whnf
  rw[show((b.drop p.toNat).take n.toNat).drop j.toNat=((b.drop p.toNat).take n.toNat)[j.toNat]::((b.drop p.toNat).take n.toNat).drop (j+1).toNat from by rw[List.drop_eq_getElem_cons hlt,show(j+1).toNat=j.toNat+1 from by omega],List.foldl_cons,A06,A05,wC zal];simp only[List.getElem_take,List.getElem_drop,show(p+j).toNat=p.toNat+j.toNat from by omega];rfl
theorem GM(hb:b.length<=4294967296)(hp:p<=b.length):Y E0 (.call 40 [.pa 0 0,.i n] [.var [.sl .u8 b,.i p,.i e]])=some (.ret (.i (J7 b p e n).1) [some (.var [.sl .u8 b,.i (J7 b p e n).2.1,.i (J7 b p e n).2.2])]):=by
 have hv:∀ l:List UInt8,(l.drop (0:Int).toNat).foldl (fun(n:UInt64) (x:UInt8)=>n<<<8|||x.toUInt64) (UInt64.ofNat 0)=beN l:=fun _=>rfl
 by_cases h4:(b.length:Int)<(p:Int)+n
 ·rw[Ae];conv=>lhs;whnf
  rcases Bool.eq_false_or_eq_true (Ey e 0) with hc0|hc0
  ·rw[hc0];replace hc0:=Xd hc0;try simp only[BF] at hc0
   subst hc0
   conv=>lhs;whnf
   rw[G8 zaa]
   conv=>lhs;whnf
   rcases Bool.eq_false_or_eq_true (FD 8 n) with hc1|hc1
   ·rw[hc1];replace hc1:=Iy hc1;try simp only[BF] at hc1
    conv=>lhs;whnf
    rw[Ae];conv=>lhs;whnf
    rw[Fa zaa]
    conv=>lhs;whnf
    unfold J7;(repeat(first|rw[if_pos zab]|rw[if_neg zab]));try simp only[NO]
   ·rw[hc1];replace hc1:=Iz hc1;try simp only[BF] at hc1
    conv=>lhs;whnf
    rw[Ae];conv=>lhs;whnf
    rw[EC zaa]
    conv=>lhs;whnf
    rw[AU]
    rw[N9 _ _ _ _ zaa zaa zaa zaa]
    conv=>lhs;whnf
    rw[EN];conv=>lhs;whnf
    unfold J7;(repeat(first|rw[if_pos zab]|rw[if_neg zab]));try simp only[NO]
  ·rw[hc0];replace hc0:=Xe hc0;try simp only[BF] at hc0
   conv=>lhs;whnf
   rw[Ae];conv=>lhs;whnf
   rw[Fa zaa]
   conv=>lhs;whnf
   unfold J7;(repeat(first|rw[if_pos zab]|rw[if_neg zab]));try simp only[NO]
 ·by_cases h5:9223372036854775807<(beN ((b.drop p).take n.toNat)).toNat
  ·have hg:BD .geq (beN ((b.drop p).take n.toNat)) (UInt64.ofNat 9223372036854775808)=true:=by rw[Hf,Gj za0]
   rw[Ae];conv=>lhs;whnf
   rcases Bool.eq_false_or_eq_true (Ey e 0) with hc0|hc0
   ·rw[hc0];replace hc0:=Xd hc0;try simp only[BF] at hc0
    subst hc0
    conv=>lhs;whnf
    rcases Bool.eq_false_or_eq_true (FD n 1) with hc1|hc1
    ·rw[hc1];replace hc1:=Iy hc1;try simp only[BF] at hc1
     conv=>lhs;whnf
     rw[Ae];conv=>lhs;whnf
     rw[Fa zaa]
     conv=>lhs;whnf
     unfold J7;(repeat(first|rw[if_pos zab]|rw[if_neg zab]));try simp only[NO]
    ·rw[hc1];replace hc1:=Iz hc1;try simp only[BF] at hc1
     conv=>lhs;whnf
     rcases Bool.eq_false_or_eq_true (FD 8 n) with hc2|hc2
     ·rw[hc2];replace hc2:=Iy hc2;try simp only[BF] at hc2
      conv=>lhs;whnf
      rw[Ae];conv=>lhs;whnf
      rw[Fa zaa]
      conv=>lhs;whnf
      unfold J7;(repeat(first|rw[if_pos zab]|rw[if_neg zab]));try simp only[NO]
     ·rw[hc2];replace hc2:=Iz hc2;try simp only[BF] at hc2
      conv=>lhs;whnf
      rw[Ae];conv=>lhs;whnf
      rw[EC zaa]
      conv=>lhs;whnf
      rw[AU]
      rw[JX _ _ _ _ zaa zaa zaa zaa]
      conv=>lhs;whnf
      rw[EN];conv=>lhs;whnf
      rw[EY]
      rw[L8 b n p 0 hb zaa zaa zaa n.toNat _ 0 zaa zaa,hv,Int.toNat_natCast]
      conv=>lhs;whnf
      rw[hg];conv=>lhs;whnf
      unfold J7;(repeat(first|rw[if_pos zab]|rw[if_neg zab]));try simp only[NO]
   ·rw[hc0];replace hc0:=Xe hc0;try simp only[BF] at hc0
    conv=>lhs;whnf
    rw[Ae];conv=>lhs;whnf
    rw[Fa zaa]
    conv=>lhs;whnf
    unfold J7;(repeat(first|rw[if_pos zab]|rw[if_neg zab]));try simp only[NO]
  ·have hg:BD .geq (beN ((b.drop p).take n.toNat)) (UInt64.ofNat 9223372036854775808)=false:=by rw[Hf,Ql za0]
   rw[Ae];conv=>lhs;whnf
   rcases Bool.eq_false_or_eq_true (Ey e 0) with hc0|hc0
   ·rw[hc0];replace hc0:=Xd hc0;try simp only[BF] at hc0
    subst hc0
    conv=>lhs;whnf
    rcases Bool.eq_false_or_eq_true (FD n 1) with hc1|hc1
    ·rw[hc1];replace hc1:=Iy hc1;try simp only[BF] at hc1
     conv=>lhs;whnf
     rw[Ae];conv=>lhs;whnf
     rw[Fa zaa]
     conv=>lhs;whnf
     unfold J7;(repeat(first|rw[if_pos zab]|rw[if_neg zab]));try simp only[NO]
    ·rw[hc1];replace hc1:=Iz hc1;try simp only[BF] at hc1
     conv=>lhs;whnf
     rcases Bool.eq_false_or_eq_true (FD 8 n) with hc2|hc2
     ·rw[hc2];replace hc2:=Iy hc2;try simp only[BF] at hc2
      conv=>lhs;whnf
      rw[Ae];conv=>lhs;whnf
      rw[Fa zaa]
      conv=>lhs;whnf
      unfold J7;(repeat(first|rw[if_pos zab]|rw[if_neg zab]));try simp only[NO]
     ·rw[hc2];replace hc2:=Iz hc2;try simp only[BF] at hc2
      conv=>lhs;whnf
      rw[Ae];conv=>lhs;whnf
      rw[EC zaa]
      conv=>lhs;whnf
      rw[AU]
      rw[JX _ _ _ _ zaa zaa zaa zaa]
      conv=>lhs;whnf
      rw[EN];conv=>lhs;whnf
      rw[EY]
      rw[L8 b n p 0 hb zaa zaa zaa n.toNat _ 0 zaa zaa,hv,Int.toNat_natCast]
      conv=>lhs;whnf
      rw[hg];conv=>lhs;whnf
      rw[QK zaa]
      rw[Aw zaa]
      rw[show(p:Int)+n=((p+n.toNat:Nat):Int) from by omega];unfold J7;(repeat(first|rw[if_pos zab]|rw[if_neg zab]))
   ·rw[hc0];replace hc0:=Xe hc0;try simp only[BF] at hc0
    conv=>lhs;whnf
    rw[Ae];conv=>lhs;whnf
    rw[Fa zaa]
    conv=>lhs;whnf
    unfold J7;(repeat(first|rw[if_pos zab]|rw[if_neg zab]));try simp only[NO]
theorem Hm(hb:b.length<=4294967296)(hp:p<=b.length):Y E0 (.call 41 [.pa 0 0,.i n] [.var [.sl .u8 b,.i p,.i e]])=some (.ret (.sl .u8 (Js b p e n).1) [some (.var [.sl .u8 b,.i (Js b p e n).2.1,.i (Js b p e n).2.2])]):=by
 by_cases h2:(b.length:Int)<(p:Int)+2
 ·rw[Ae];conv=>lhs;whnf
  rcases Bool.eq_false_or_eq_true (Fh e 0) with hc0|hc0
  ·rw[hc0];replace hc0:=Xf hc0;try simp only[BF] at hc0
   conv=>lhs;whnf
   unfold Js;(repeat(first|rw[if_pos zab]|rw[if_neg zab]));try simp only[NO]
  ·rw[hc0];replace hc0:=Xg hc0;try simp only[BF] at hc0
   subst hc0
   conv=>lhs;whnf
   rw[AU]
   rw[N9 _ _ _ _ zaa zaa zaa zaa]
   conv=>lhs;whnf
   rw[EN];conv=>lhs;whnf
   unfold Js;(repeat(first|rw[if_pos zab]|rw[if_neg zab]));try simp only[NO]
 ·have hv:BH .or (D7 (G7 (b[p]'zaa)) (UInt64.ofNat 8).toNat) (G7 (b[((p:Int)+1).toNat]'zaa))=(Gz b p:Int):=by
   rw[show(UInt64.ofNat 8).toNat=8 from rfl,V4,V4,A5C,A4F,A07,Gz]
   simp only[List.getD,List.getElem?_eq_getElem (show p<b.length by omega),List.getElem?_eq_getElem (show p+1<b.length by omega),show((p:Int)+1).toNat=p+1 from by omega,Option.getD_some]
  have hx:=(b.getD p 0).toNat_lt
  have hy:=(b.getD (p+1) 0).toNat_lt
  have hl:Gz b p<=65535:=by rw[Gz];omega
  by_cases h4:(b.length:Int)<(p:Int)+2+Gz b p
  ·rw[Ae];conv=>lhs;whnf
   rcases Bool.eq_false_or_eq_true (Fh e 0) with hc0|hc0
   ·rw[hc0];replace hc0:=Xf hc0;try simp only[BF] at hc0
    conv=>lhs;whnf
    unfold Js;(repeat(first|rw[if_pos zab]|rw[if_neg zab]));try simp only[NO]
   ·rw[hc0];replace hc0:=Xg hc0;try simp only[BF] at hc0
    subst hc0
    conv=>lhs;whnf
    rw[AU]
    rw[JX _ _ _ _ zaa zaa zaa zaa]
    conv=>lhs;whnf
    rw[EN];conv=>lhs;whnf
    rw[GY zaa]
    conv=>lhs;whnf
    rw[Aw zaa]
    rw[E8 zaa]
    conv=>lhs;whnf
    rw[hv];conv=>lhs;whnf
    rw[drw zas];conv=>lhs;whnf
    rcases Bool.eq_false_or_eq_true (FD n ↑(Gz b p)) with hc1|hc1
    ·rw[hc1];replace hc1:=Iy hc1;try simp only[BF] at hc1
     conv=>lhs;whnf
     unfold Js;(repeat(first|rw[if_pos zab]|rw[if_neg zab]));try simp only[NO]
    ·rw[hc1];replace hc1:=Iz hc1;try simp only[BF] at hc1
     conv=>lhs;whnf
     rw[Aw zaa]
     rw[AU]
     rw[N9 _ _ _ _ zaa zaa zaa zaa]
     conv=>lhs;whnf
     rw[EN];conv=>lhs;whnf
     unfold Js;(repeat(first|rw[if_pos zab]|rw[if_neg zab]));try simp only[NO]
  ·rw[Ae];conv=>lhs;whnf
   rcases Bool.eq_false_or_eq_true (Fh e 0) with hc0|hc0
   ·rw[hc0];replace hc0:=Xf hc0;try simp only[BF] at hc0
    conv=>lhs;whnf
    unfold Js;(repeat(first|rw[if_pos zab]|rw[if_neg zab]));try simp only[NO]
   ·rw[hc0];replace hc0:=Xg hc0;try simp only[BF] at hc0
    subst hc0
    conv=>lhs;whnf
    rw[AU]
    rw[JX _ _ _ _ zaa zaa zaa zaa]
    conv=>lhs;whnf
    rw[EN];conv=>lhs;whnf
    rw[GY zaa]
    conv=>lhs;whnf
    rw[Aw zaa]
    rw[E8 zaa]
    conv=>lhs;whnf
    rw[hv];conv=>lhs;whnf
    rw[drw zas];conv=>lhs;whnf
    rcases Bool.eq_false_or_eq_true (FD n ↑(Gz b p)) with hc1|hc1
    ·rw[hc1];replace hc1:=Iy hc1;try simp only[BF] at hc1
     conv=>lhs;whnf
     unfold Js;(repeat(first|rw[if_pos zab]|rw[if_neg zab]));try simp only[NO]
    ·rw[hc1];replace hc1:=Iz hc1;try simp only[BF] at hc1
     conv=>lhs;whnf
     rw[Aw zaa]
     rw[AU]
     rw[JX _ _ _ _ zaa zaa zaa zaa]
     conv=>lhs;whnf
     rw[EN];conv=>lhs;whnf
     rw[Aw (a:=2) (b:=↑(Gz b p)) zaa]
     rw[Aw zaa]
     rw[Ce zaa]
     rw[Jq zaa]
     conv=>lhs;whnf
     rw[DY zar]
     conv=>lhs;whnf
     rw[drw zas];conv=>lhs;whnf
     unfold Js;(repeat(first|rw[if_pos zab]|rw[if_neg zab]));simp only[Aa,List.nil_append,show(p:Int)+(2+(Gz b p:Int))-(Gz b p:Int)=((p+2:Nat):Int) from by omega,show(p:Int)+(2+(Gz b p:Int))-((p+2:Nat):Int)=Gz b p from by omega,Int.toNat_natCast];rw[show(p:Int)+(2+(Gz b p:Int))=((p+2+Gz b p:Nat):Int) from by omega]
end
section
attribute [local irreducible] Cj Dt D9 DT DK BH Du Ey Fh FD Et D7 CV Df DX and' Dk DU CG Ba Bl CJ CS BK BM BB BG Dv G7 Dw EM Dl Bh CO Bz C9 Bo BD Bi BO Be BZ Dx Bf DL Bd BI D6 Dy fits Dz Dn AZ Ap BL
theorem UD(n:Int):∀(k:Nat) (i:Int) (acc:List UInt8),i=(k:Int)-1->k<=8->acc.length+k<=5000000000 ->
  Y E0 (.loop 102 0 0 1 [(2,.i n),(7,.nm 0),(8,.i i)] [(0,some (.row 5 .u8 acc))])=some (.fin (.exit 0) 1 [(7,.nm 0)] [(0,some (.row 5 .u8 (acc++QM k (UInt64.ofInt n))))])
 | 0,i,acc,hi,_,_=>by
  rw[Ae];conv=>lhs;whnf
  refine BQ ?_
  simp[QM]
 | k+1,i,acc,hi,hk,hl=>by
  rw[Ae];conv=>lhs;whnf
  rw[Gj zaa]
  conv=>lhs;whnf
  rw[GR zaa]
  rw[DY zar]
  conv=>lhs;whnf
  try dsimp -iota -beta -eta -zeta only
  rw[Ce zaa]
  rw[UD n k _ _ zab zab zab]
  refine BQ ?_
  simp only[Aa,Ti,LJ,QM,List.append_assoc,List.cons_append,List.nil_append];rw[Jr zaa,QL zaa,show(8*i).toNat=8*k from by omega]
theorem Ho(size n:Int)(hb:b.length<=4294967296):Y E0 (.call 102 [.sl .u8 b,.i size,.i n] [])=some (.ret (.nm 0) [some (.row 5 .u8 (CE b size n))]):=by
 refine BQ ?_
 rcases AY size 1 with hc0|hc0
 ·
  refine BQ ?_
  unfold CE;(repeat(first|rw[if_pos zab]|rw[if_neg zab]));try simp only[NO]
 refine BQ ?_
 rcases AY 8 size with hc1|hc1
 ·
  refine BQ ?_
  unfold CE;(repeat(first|rw[if_pos zab]|rw[if_neg zab]));try simp only[NO]
 refine BQ ?_
 rw[UD n size.toNat _ _ zab zab zab]
 refine BQ ?_
 unfold CE;(repeat(first|rw[if_pos zab]|rw[if_neg zab]));try simp only[NO]
theorem QW(x:List UInt8)(hb:b.length<=4294900000):Y E0 (.call 98 [.sl .u8 b,.sl .u8 x] [])=some (.ret (.nm 0) [some (.row 5 .u8 (Jk b x))]):=by
 have hx:DL x 0 (min (Be x) 65535)=some (x.take 65535):=by
  rw[Jq (by rw[BF];omega)]
  congr 1
  simp only[BF,Int.toNat_zero,List.drop_zero]
  rw[List.take_eq_take_iff];omega
 have h2:(x.take 65535).length<=65535:=za6
 have:=ZX b 2 (Be (x.take 65535))
 refine BQ ?_
 rw[hx]
 refine BQ ?_
 rw[Ho _ _ _ DZ]
 conv=>lhs;whnf
 rw[DY zar]
 conv=>lhs;whnf
 rw[Aa,Jk,BF]
end
end Go.Proofs.YtnhgnfdbdflhcaaGreatDoor
namespace Go.Proofs.YtnhgnfdbdflhcaaGreatDoor
open Go Go.Ax Go.Eng
variable (n kind attr height:Int)(policy unique:List UInt8)
section
attribute [local irreducible] Cj Dt D9 DT DK BH Du Ey Fh FD Et D7 CV Df DX and' Dk DU CG Ba Bl CJ CS BK BM BB BG Dv G7 Dw EM Dl Bh CO Bz C9 Bo BD Bi BO Be BZ Dx Bf DL Bd BI D6 Dy fits Dz Dn AZ Ap BL
theorem Hz(k:Int):Y E0 (.call 161 [.i k] [])=some (.ret (.i (uniq k)) []):=by
 refine tq ?_
 rcases AL k 2 with hc0|hc0
 ·subst hc0;refine tq ?_
  unfold uniq;(repeat(first|rw[if_pos zae]|rw[if_neg zae]));try simp only[NO]
 refine tq ?_
 unfold uniq;(repeat(first|rw[if_pos zae]|rw[if_neg zae]));try simp only[NO]
theorem F6(k:Int):Y E0 (.call 57 [.i k] [])=some (.ret (.i (uniq k)) []):=by
 refine tq ?_
 rcases AL k 2 with hc0|hc0
 ·subst hc0;refine tq ?_
  unfold uniq;(repeat(first|rw[if_pos zae]|rw[if_neg zae]));try simp only[NO]
 refine tq ?_
 unfold uniq;(repeat(first|rw[if_pos zae]|rw[if_neg zae]));try simp only[NO]
theorem Zt:Y E0 (.call 95 [.agg [.i kind,.i attr,.i height,.sl .u8 policy,.sl .u8 unique]] [])=some (.ret (.i (Bv ⟨kind,attr,height,policy,unique⟩)) []):=by
 refine tq ?_
 rcases AY kind 1 with hc0|hc0
 ·refine tq ?_
  (try simp only[Af] at *);unfold Bv;dsimp only;(repeat(first|rw[if_pos zaa]|rw[if_neg zaa]));done
 refine tq ?_
 rcases AY 3 kind with hc1|hc1
 ·refine tq ?_
  (try simp only[Af] at *);unfold Bv;dsimp only;(repeat(first|rw[if_pos zaa]|rw[if_neg zaa]));done
 refine tq ?_
 rcases AY attr 0 with hc2|hc2
 ·refine tq ?_
  (try simp only[Af] at *);unfold Bv;dsimp only;(repeat(first|rw[if_pos zaa]|rw[if_neg zaa]));done
 refine tq ?_
 rcases AY 7 attr with hc3|hc3
 ·refine tq ?_
  (try simp only[Af] at *);unfold Bv;dsimp only;(repeat(first|rw[if_pos zaa]|rw[if_neg zaa]));done
 refine tq ?_
 rcases AX (BH BinOp.and attr 4) 0 with hc4|hc4
 ·refine tq ?_
  rcases AL kind 2 with hc5|hc5
  ·subst hc5;refine tq ?_
   rcases AL (BH BinOp.and attr 1) 0 with hc6|hc6
   ·refine tq ?_
    rcases AL (↑policy.length) 0 with hc7|hc7
    ·rw[ER zaG]
     conv=>lhs;whnf
     rw[Ae]
     conv=>lhs;whnf
     (try simp only[Af] at *);unfold Bv;dsimp only;(repeat(first|rw[if_pos zaa]|rw[if_neg zaa]));done
    refine tq ?_
    rcases AY height 0 with hc8|hc8
    ·refine tq ?_
     (try simp only[Af] at *);unfold Bv;dsimp only;(repeat(first|rw[if_pos zaa]|rw[if_neg zaa]));done
    rw[G8 zaa]
    conv=>lhs;whnf
    rw[Ae]
    conv=>lhs;whnf
    rcases AY 3 height with hc9|hc9
    ·refine tq ?_
     (try simp only[Af] at *);unfold Bv;dsimp only;(repeat(first|rw[if_pos zaa]|rw[if_neg zaa]));done
    refine tq ?_
    rcases AX height 0 with hc10|hc10
    ·refine tq ?_
     rcases AX (↑policy.length) 32 with hc11|hc11
     ·refine tq ?_
      (try simp only[Af] at *);unfold Bv;dsimp only;(repeat(first|rw[if_pos zaa]|rw[if_neg zaa]));done
     refine tq ?_;rw[Hz _];refine tq ?_
     rcases AX (↑unique.length) (uniq 2) with hc12|hc12
     ·refine tq ?_
      (try simp only[Af] at *);unfold Bv;dsimp only;(repeat(first|rw[if_pos zaa]|rw[if_neg zaa]));done
     refine tq ?_
     (try simp only[Af] at *);unfold Bv;dsimp only;(repeat(first|rw[if_pos zaa]|rw[if_neg zaa]));done
    subst hc10;refine tq ?_
    rcases AX (↑policy.length) 32 with hc13|hc13
    ·refine tq ?_
     (try simp only[Af] at *);unfold Bv;dsimp only;(repeat(first|rw[if_pos zaa]|rw[if_neg zaa]));done
    refine tq ?_;rw[Hz _];refine tq ?_
    rcases AX (↑unique.length) (uniq 2) with hc14|hc14
    ·refine tq ?_
     (try simp only[Af] at *);unfold Bv;dsimp only;(repeat(first|rw[if_pos zaa]|rw[if_neg zaa]));done
    refine tq ?_
    (try simp only[Af] at *);unfold Bv;dsimp only;(repeat(first|rw[if_pos zaa]|rw[if_neg zaa]));done
   refine tq ?_
   rcases AY height 0 with hc15|hc15
   ·rw[ET zaa]
    conv=>lhs;whnf
    rw[Ae]
    conv=>lhs;whnf
    (try simp only[Af] at *);unfold Bv;dsimp only;(repeat(first|rw[if_pos zaa]|rw[if_neg zaa]));done
   rw[G8 zaa]
   conv=>lhs;whnf
   rw[Ae]
   conv=>lhs;whnf
   rcases AY 3 height with hc16|hc16
   ·refine tq ?_
    (try simp only[Af] at *);unfold Bv;dsimp only;(repeat(first|rw[if_pos zaa]|rw[if_neg zaa]));done
   refine tq ?_
   rcases AX height 0 with hc17|hc17
   ·refine tq ?_
    rcases AX (↑policy.length) 0 with hc18|hc18
    ·refine tq ?_
     rcases AX (↑policy.length) 32 with hc19|hc19
     ·refine tq ?_
      (try simp only[Af] at *);unfold Bv;dsimp only;(repeat(first|rw[if_pos zaa]|rw[if_neg zaa]));done
     refine tq ?_;rw[Hz _];refine tq ?_
     rcases AX (↑unique.length) (uniq 2) with hc20|hc20
     ·refine tq ?_
      (try simp only[Af] at *);unfold Bv;dsimp only;(repeat(first|rw[if_pos zaa]|rw[if_neg zaa]));done
     refine tq ?_
     (try simp only[Af] at *);unfold Bv;dsimp only;(repeat(first|rw[if_pos zaa]|rw[if_neg zaa]));done
    refine tq ?_;rw[Hz _];refine tq ?_
    rcases AX (↑unique.length) (uniq 2) with hc21|hc21
    ·refine tq ?_
     (try simp only[Af] at *);unfold Bv;dsimp only;(repeat(first|rw[if_pos zaa]|rw[if_neg zaa]));done
    refine tq ?_
    (try simp only[Af] at *);unfold Bv;dsimp only;(repeat(first|rw[if_pos zaa]|rw[if_neg zaa]));done
   subst hc17;refine tq ?_
   rcases AX (↑policy.length) 0 with hc22|hc22
   ·refine tq ?_
    rcases AX (↑policy.length) 32 with hc23|hc23
    ·refine tq ?_
     (try simp only[Af] at *);unfold Bv;dsimp only;(repeat(first|rw[if_pos zaa]|rw[if_neg zaa]));done
    refine tq ?_;rw[Hz _];refine tq ?_
    rcases AX (↑unique.length) (uniq 2) with hc24|hc24
    ·refine tq ?_
     (try simp only[Af] at *);unfold Bv;dsimp only;(repeat(first|rw[if_pos zaa]|rw[if_neg zaa]));done
    refine tq ?_
    (try simp only[Af] at *);unfold Bv;dsimp only;(repeat(first|rw[if_pos zaa]|rw[if_neg zaa]));done
   refine tq ?_;rw[Hz _];refine tq ?_
   rcases AX (↑unique.length) (uniq 2) with hc25|hc25
   ·refine tq ?_
    (try simp only[Af] at *);unfold Bv;dsimp only;(repeat(first|rw[if_pos zaa]|rw[if_neg zaa]));done
   refine tq ?_
   (try simp only[Af] at *);unfold Bv;dsimp only;(repeat(first|rw[if_pos zaa]|rw[if_neg zaa]));done
  refine tq ?_
  (try simp only[Af] at *);unfold Bv;dsimp only;(repeat(first|rw[if_pos zaa]|rw[if_neg zaa]));done
 refine tq ?_
 rcases AL (BH BinOp.and attr 1) 0 with hc26|hc26
 ·refine tq ?_
  rcases AL (↑policy.length) 0 with hc27|hc27
  ·refine tq ?_
   (try simp only[Af] at *);unfold Bv;dsimp only;(repeat(first|rw[if_pos zaa]|rw[if_neg zaa]));done
  refine tq ?_
  rcases AY height 0 with hc28|hc28
  ·refine tq ?_
   (try simp only[Af] at *);unfold Bv;dsimp only;(repeat(first|rw[if_pos zaa]|rw[if_neg zaa]));done
  rw[G8 zaa]
  conv=>lhs;whnf
  rw[Ae]
  conv=>lhs;whnf
  rcases AY 3 height with hc29|hc29
  ·refine tq ?_
   (try simp only[Af] at *);unfold Bv;dsimp only;(repeat(first|rw[if_pos zaa]|rw[if_neg zaa]));done
  refine tq ?_
  rcases AX height 0 with hc30|hc30
  ·refine tq ?_
   rcases AL kind 2 with hc31|hc31
   ·subst hc31;refine tq ?_
    rcases AX (↑policy.length) 32 with hc32|hc32
    ·refine tq ?_
     (try simp only[Af] at *);unfold Bv;dsimp only;(repeat(first|rw[if_pos zaa]|rw[if_neg zaa]));done
    refine tq ?_;rw[Hz _];refine tq ?_
    rcases AX (↑unique.length) (uniq 2) with hc33|hc33
    ·refine tq ?_
     (try simp only[Af] at *);unfold Bv;dsimp only;(repeat(first|rw[if_pos zaa]|rw[if_neg zaa]));done
    refine tq ?_
    (try simp only[Af] at *);unfold Bv;dsimp only;(repeat(first|rw[if_pos zaa]|rw[if_neg zaa]));done
   refine tq ?_
   (try simp only[Af] at *);unfold Bv;dsimp only;(repeat(first|rw[if_pos zaa]|rw[if_neg zaa]));done
  subst hc30;refine tq ?_
  rcases AX (↑policy.length) 32 with hc34|hc34
  ·refine tq ?_
   (try simp only[Af] at *);unfold Bv;dsimp only;(repeat(first|rw[if_pos zaa]|rw[if_neg zaa]));done
  refine tq ?_;rw[Hz _];refine tq ?_
  rcases AX (↑unique.length) (uniq kind) with hc35|hc35
  ·refine tq ?_
   (try simp only[Af] at *);unfold Bv;dsimp only;(repeat(first|rw[if_pos zaa]|rw[if_neg zaa]));done
  refine tq ?_
  (try simp only[Af] at *);unfold Bv;dsimp only;(repeat(first|rw[if_pos zaa]|rw[if_neg zaa]));done
 refine tq ?_
 rcases AY height 0 with hc36|hc36
 ·rw[ET zaa]
  conv=>lhs;whnf
  rw[Ae]
  conv=>lhs;whnf
  (try simp only[Af] at *);unfold Bv;dsimp only;(repeat(first|rw[if_pos zaa]|rw[if_neg zaa]));done
 refine tq ?_
 rcases AY 3 height with hc37|hc37
 ·refine tq ?_
  (try simp only[Af] at *);unfold Bv;dsimp only;(repeat(first|rw[if_pos zaa]|rw[if_neg zaa]));done
 refine tq ?_
 rcases AX height 0 with hc38|hc38
 ·refine tq ?_
  rcases AL kind 2 with hc39|hc39
  ·subst hc39;refine tq ?_
   rcases AX (↑policy.length) 0 with hc40|hc40
   ·refine tq ?_
    rcases AX (↑policy.length) 32 with hc41|hc41
    ·refine tq ?_
     (try simp only[Af] at *);unfold Bv;dsimp only;(repeat(first|rw[if_pos zaa]|rw[if_neg zaa]));done
    refine tq ?_;rw[Hz _];refine tq ?_
    rcases AX (↑unique.length) (uniq 2) with hc42|hc42
    ·refine tq ?_
     (try simp only[Af] at *);unfold Bv;dsimp only;(repeat(first|rw[if_pos zaa]|rw[if_neg zaa]));done
    refine tq ?_
    (try simp only[Af] at *);unfold Bv;dsimp only;(repeat(first|rw[if_pos zaa]|rw[if_neg zaa]));done
   refine tq ?_;rw[Hz _];refine tq ?_
   rcases AX (↑unique.length) (uniq 2) with hc43|hc43
   ·refine tq ?_
    (try simp only[Af] at *);unfold Bv;dsimp only;(repeat(first|rw[if_pos zaa]|rw[if_neg zaa]));done
   refine tq ?_
   (try simp only[Af] at *);unfold Bv;dsimp only;(repeat(first|rw[if_pos zaa]|rw[if_neg zaa]));done
  refine tq ?_
  (try simp only[Af] at *);unfold Bv;dsimp only;(repeat(first|rw[if_pos zaa]|rw[if_neg zaa]));done
 subst hc38;refine tq ?_
 rcases AX (↑policy.length) 0 with hc44|hc44
 ·refine tq ?_
  rcases AX (↑policy.length) 32 with hc45|hc45
  ·refine tq ?_
   (try simp only[Af] at *);unfold Bv;dsimp only;(repeat(first|rw[if_pos zaa]|rw[if_neg zaa]));done
  refine tq ?_;rw[Hz _];refine tq ?_
  rcases AX (↑unique.length) (uniq kind) with hc46|hc46
  ·refine tq ?_
   (try simp only[Af] at *);unfold Bv;dsimp only;(repeat(first|rw[if_pos zaa]|rw[if_neg zaa]));done
  refine tq ?_
  (try simp only[Af] at *);unfold Bv;dsimp only;(repeat(first|rw[if_pos zaa]|rw[if_neg zaa]));done
 refine tq ?_;rw[Hz _];refine tq ?_
 rcases AX (↑unique.length) (uniq kind) with hc47|hc47
 ·refine tq ?_
  (try simp only[Af] at *);unfold Bv;dsimp only;(repeat(first|rw[if_pos zaa]|rw[if_neg zaa]));done
 refine tq ?_
 (try simp only[Af] at *);unfold Bv;dsimp only;(repeat(first|rw[if_pos zaa]|rw[if_neg zaa]));done
theorem JY:Y E0 (.call 43 [.agg [.i kind,.i attr,.i height,.sl .u8 policy,.sl .u8 unique]] [])=some (.ret (.i (Bv ⟨kind,attr,height,policy,unique⟩)) []):=by
 refine tq ?_
 rcases AY kind 1 with hc0|hc0
 ·refine tq ?_
  (try simp only[Af] at *);unfold Bv;dsimp only;(repeat(first|rw[if_pos zaa]|rw[if_neg zaa]));done
 refine tq ?_
 rcases AY 3 kind with hc1|hc1
 ·refine tq ?_
  (try simp only[Af] at *);unfold Bv;dsimp only;(repeat(first|rw[if_pos zaa]|rw[if_neg zaa]));done
 refine tq ?_
 rcases AY attr 0 with hc2|hc2
 ·refine tq ?_
  (try simp only[Af] at *);unfold Bv;dsimp only;(repeat(first|rw[if_pos zaa]|rw[if_neg zaa]));done
 refine tq ?_
 rcases AY 7 attr with hc3|hc3
 ·refine tq ?_
  (try simp only[Af] at *);unfold Bv;dsimp only;(repeat(first|rw[if_pos zaa]|rw[if_neg zaa]));done
 refine tq ?_
 rcases AX (BH BinOp.and attr 4) 0 with hc4|hc4
 ·refine tq ?_
  rcases AX kind 2 with hc5|hc5
  ·refine tq ?_
   (try simp only[Af] at *);unfold Bv;dsimp only;(repeat(first|rw[if_pos zaa]|rw[if_neg zaa]));done
  subst hc5;refine tq ?_
  rcases AL (BH BinOp.and attr 1) 0 with hc6|hc6
  ·refine tq ?_
   rcases AL (↑policy.length) 0 with hc7|hc7
   ·refine tq ?_
    (try simp only[Af] at *);unfold Bv;dsimp only;(repeat(first|rw[if_pos zaa]|rw[if_neg zaa]));done
   refine tq ?_
   rcases AY height 0 with hc8|hc8
   ·refine tq ?_
    (try simp only[Af] at *);unfold Bv;dsimp only;(repeat(first|rw[if_pos zaa]|rw[if_neg zaa]));done
   refine tq ?_
   rcases AY 3 height with hc9|hc9
   ·refine tq ?_
    (try simp only[Af] at *);unfold Bv;dsimp only;(repeat(first|rw[if_pos zaa]|rw[if_neg zaa]));done
   refine tq ?_
   rcases AX height 0 with hc10|hc10
   ·refine tq ?_
    rcases AX (↑policy.length) 32 with hc11|hc11
    ·refine tq ?_
     (try simp only[Af] at *);unfold Bv;dsimp only;(repeat(first|rw[if_pos zaa]|rw[if_neg zaa]));done
    refine tq ?_;rw[F6 _];refine tq ?_
    rcases AX (↑unique.length) (uniq 2) with hc12|hc12
    ·refine tq ?_
     (try simp only[Af] at *);unfold Bv;dsimp only;(repeat(first|rw[if_pos zaa]|rw[if_neg zaa]));done
    refine tq ?_
    (try simp only[Af] at *);unfold Bv;dsimp only;(repeat(first|rw[if_pos zaa]|rw[if_neg zaa]));done
   subst hc10;refine tq ?_
   rcases AX (↑policy.length) 32 with hc13|hc13
   ·refine tq ?_
    (try simp only[Af] at *);unfold Bv;dsimp only;(repeat(first|rw[if_pos zaa]|rw[if_neg zaa]));done
   refine tq ?_;rw[F6 _]
   conv=>lhs;whnf
   try dsimp -iota -beta -eta -zeta only
   rw[drw zas];conv=>lhs;whnf
   rw[Ae]
   conv=>lhs;whnf
   rcases AX (↑unique.length) (uniq 2) with hc14|hc14
   ·refine tq ?_
    (try simp only[Af] at *);unfold Bv;dsimp only;(repeat(first|rw[if_pos zaa]|rw[if_neg zaa]));done
   refine tq ?_
   (try simp only[Af] at *);unfold Bv;dsimp only;(repeat(first|rw[if_pos zaa]|rw[if_neg zaa]));done
  refine tq ?_
  rcases AY height 0 with hc15|hc15
  ·refine tq ?_
   (try simp only[Af] at *);unfold Bv;dsimp only;(repeat(first|rw[if_pos zaa]|rw[if_neg zaa]));done
  refine tq ?_
  rcases AY 3 height with hc16|hc16
  ·refine tq ?_
   (try simp only[Af] at *);unfold Bv;dsimp only;(repeat(first|rw[if_pos zaa]|rw[if_neg zaa]));done
  refine tq ?_
  rcases AX height 0 with hc17|hc17
  ·refine tq ?_
   rcases AX (↑policy.length) 0 with hc18|hc18
   ·refine tq ?_
    rcases AX (↑policy.length) 32 with hc19|hc19
    ·refine tq ?_
     (try simp only[Af] at *);unfold Bv;dsimp only;(repeat(first|rw[if_pos zaa]|rw[if_neg zaa]));done
    refine tq ?_;rw[F6 _]
    conv=>lhs;whnf
    try dsimp -iota -beta -eta -zeta only
    rw[drw zas];conv=>lhs;whnf
    rw[Ae]
    conv=>lhs;whnf
    rcases AX (↑unique.length) (uniq 2) with hc20|hc20
    ·refine tq ?_
     (try simp only[Af] at *);unfold Bv;dsimp only;(repeat(first|rw[if_pos zaa]|rw[if_neg zaa]));done
    refine tq ?_
    (try simp only[Af] at *);unfold Bv;dsimp only;(repeat(first|rw[if_pos zaa]|rw[if_neg zaa]));done
   refine tq ?_;rw[F6 _];refine tq ?_
   rcases AX (↑unique.length) (uniq 2) with hc21|hc21
   ·refine tq ?_
    (try simp only[Af] at *);unfold Bv;dsimp only;(repeat(first|rw[if_pos zaa]|rw[if_neg zaa]));done
   refine tq ?_
   (try simp only[Af] at *);unfold Bv;dsimp only;(repeat(first|rw[if_pos zaa]|rw[if_neg zaa]));done
  subst hc17;refine tq ?_
  rcases AX (↑policy.length) 0 with hc22|hc22
  ·refine tq ?_
   rcases AX (↑policy.length) 32 with hc23|hc23
   ·refine tq ?_
    (try simp only[Af] at *);unfold Bv;dsimp only;(repeat(first|rw[if_pos zaa]|rw[if_neg zaa]));done
   refine tq ?_;rw[F6 _];refine tq ?_
   rcases AX (↑unique.length) (uniq 2) with hc24|hc24
   ·refine tq ?_
    (try simp only[Af] at *);unfold Bv;dsimp only;(repeat(first|rw[if_pos zaa]|rw[if_neg zaa]));done
   rw[EC zaG]
   conv=>lhs;whnf
   rw[Ae]
   conv=>lhs;whnf
   (try simp only[Af] at *);unfold Bv;dsimp only;(repeat(first|rw[if_pos zaa]|rw[if_neg zaa]));done
  refine tq ?_;rw[F6 _];refine tq ?_
  rcases AX (↑unique.length) (uniq 2) with hc25|hc25
  ·refine tq ?_
   (try simp only[Af] at *);unfold Bv;dsimp only;(repeat(first|rw[if_pos zaa]|rw[if_neg zaa]));done
  refine tq ?_
  (try simp only[Af] at *);unfold Bv;dsimp only;(repeat(first|rw[if_pos zaa]|rw[if_neg zaa]));done
 rw[EC zaa]
 conv=>lhs;whnf
 rw[Ae]
 conv=>lhs;whnf
 rcases AL (BH BinOp.and attr 1) 0 with hc26|hc26
 ·refine tq ?_
  rcases AL (↑policy.length) 0 with hc27|hc27
  ·refine tq ?_
   (try simp only[Af] at *);unfold Bv;dsimp only;(repeat(first|rw[if_pos zaa]|rw[if_neg zaa]));done
  refine tq ?_
  rcases AY height 0 with hc28|hc28
  ·refine tq ?_
   (try simp only[Af] at *);unfold Bv;dsimp only;(repeat(first|rw[if_pos zaa]|rw[if_neg zaa]));done
  refine tq ?_
  rcases AY 3 height with hc29|hc29
  ·refine tq ?_
   (try simp only[Af] at *);unfold Bv;dsimp only;(repeat(first|rw[if_pos zaa]|rw[if_neg zaa]));done
  refine tq ?_
  rcases AX height 0 with hc30|hc30
  ·refine tq ?_
   rcases AX kind 2 with hc31|hc31
   ·refine tq ?_
    (try simp only[Af] at *);unfold Bv;dsimp only;(repeat(first|rw[if_pos zaa]|rw[if_neg zaa]));done
   subst hc31;refine tq ?_
   rcases AX (↑policy.length) 32 with hc32|hc32
   ·refine tq ?_
    (try simp only[Af] at *);unfold Bv;dsimp only;(repeat(first|rw[if_pos zaa]|rw[if_neg zaa]));done
   refine tq ?_;rw[F6 _]
   conv=>lhs;whnf
   try dsimp -iota -beta -eta -zeta only
   rw[drw zas];conv=>lhs;whnf
   rw[Ae]
   conv=>lhs;whnf
   rcases AX (↑unique.length) (uniq 2) with hc33|hc33
   ·refine tq ?_
    (try simp only[Af] at *);unfold Bv;dsimp only;(repeat(first|rw[if_pos zaa]|rw[if_neg zaa]));done
   refine tq ?_
   (try simp only[Af] at *);unfold Bv;dsimp only;(repeat(first|rw[if_pos zaa]|rw[if_neg zaa]));done
  subst hc30;refine tq ?_
  rcases AX (↑policy.length) 32 with hc34|hc34
  ·refine tq ?_
   (try simp only[Af] at *);unfold Bv;dsimp only;(repeat(first|rw[if_pos zaa]|rw[if_neg zaa]));done
  refine tq ?_;rw[F6 _];refine tq ?_
  rcases AX (↑unique.length) (uniq kind) with hc35|hc35
  ·rw[Fa zaG]
   conv=>lhs;whnf
   rw[Ae]
   conv=>lhs;whnf
   (try simp only[Af] at *);unfold Bv;dsimp only;(repeat(first|rw[if_pos zaa]|rw[if_neg zaa]));done
  rw[EC zaG]
  conv=>lhs;whnf
  rw[Ae]
  conv=>lhs;whnf
  (try simp only[Af] at *);unfold Bv;dsimp only;(repeat(first|rw[if_pos zaa]|rw[if_neg zaa]));done
 refine tq ?_
 rcases AY height 0 with hc36|hc36
 ·refine tq ?_
  (try simp only[Af] at *);unfold Bv;dsimp only;(repeat(first|rw[if_pos zaa]|rw[if_neg zaa]));done
 refine tq ?_
 rcases AY 3 height with hc37|hc37
 ·refine tq ?_
  (try simp only[Af] at *);unfold Bv;dsimp only;(repeat(first|rw[if_pos zaa]|rw[if_neg zaa]));done
 refine tq ?_
 rcases AX height 0 with hc38|hc38
 ·rw[Fa zaa]
  conv=>lhs;whnf
  rcases AX kind 2 with hc39|hc39
  ·refine tq ?_
   (try simp only[Af] at *);unfold Bv;dsimp only;(repeat(first|rw[if_pos zaa]|rw[if_neg zaa]));done
  subst hc39;refine tq ?_
  rcases AX (↑policy.length) 0 with hc40|hc40
  ·refine tq ?_
   rcases AX (↑policy.length) 32 with hc41|hc41
   ·refine tq ?_
    (try simp only[Af] at *);unfold Bv;dsimp only;(repeat(first|rw[if_pos zaa]|rw[if_neg zaa]));done
   refine tq ?_;rw[F6 _];refine tq ?_
   rcases AX (↑unique.length) (uniq 2) with hc42|hc42
   ·refine tq ?_
    (try simp only[Af] at *);unfold Bv;dsimp only;(repeat(first|rw[if_pos zaa]|rw[if_neg zaa]));done
   rw[EC zaG]
   conv=>lhs;whnf
   rw[Ae]
   conv=>lhs;whnf
   (try simp only[Af] at *);unfold Bv;dsimp only;(repeat(first|rw[if_pos zaa]|rw[if_neg zaa]));done
  refine tq ?_;rw[F6 _];refine tq ?_
  rcases AX (↑unique.length) (uniq 2) with hc43|hc43
  ·refine tq ?_
   (try simp only[Af] at *);unfold Bv;dsimp only;(repeat(first|rw[if_pos zaa]|rw[if_neg zaa]));done
  refine tq ?_
  (try simp only[Af] at *);unfold Bv;dsimp only;(repeat(first|rw[if_pos zaa]|rw[if_neg zaa]));done
 subst hc38;refine tq ?_
 rcases AX (↑policy.length) 0 with hc44|hc44
 ·refine tq ?_
  rcases AX (↑policy.length) 32 with hc45|hc45
  ·refine tq ?_
   (try simp only[Af] at *);unfold Bv;dsimp only;(repeat(first|rw[if_pos zaa]|rw[if_neg zaa]));done
  refine tq ?_;rw[F6 _];refine tq ?_
  rcases AX (↑unique.length) (uniq kind) with hc46|hc46
  ·refine tq ?_
   (try simp only[Af] at *);unfold Bv;dsimp only;(repeat(first|rw[if_pos zaa]|rw[if_neg zaa]));done
  refine tq ?_
  (try simp only[Af] at *);unfold Bv;dsimp only;(repeat(first|rw[if_pos zaa]|rw[if_neg zaa]));done
 refine tq ?_;rw[F6 _];refine tq ?_
 rcases AX (↑unique.length) (uniq kind) with hc47|hc47
 ·refine tq ?_
  (try simp only[Af] at *);unfold Bv;dsimp only;(repeat(first|rw[if_pos zaa]|rw[if_neg zaa]));done
 refine tq ?_
 (try simp only[Af] at *);unfold Bv;dsimp only;(repeat(first|rw[if_pos zaa]|rw[if_neg zaa]));done
theorem uO(hp:policy.length<=1000000)(hu:unique.length<=1000000):Y E0 (.call 37 [.agg [.i kind,.i attr,.i height,.sl .u8 policy,.sl .u8 unique]] [])=some (.ret (.sl .u8 (ES ⟨kind,attr,height,policy,unique⟩)) []):=by
 refine tq ?_;rw[QW _ _ A8];refine tq ?_;rw[QW _ _ A8];refine tq ?_
 (simp only[F5];rfl)
theorem I8(hp:policy.length<=1000000)(hu:unique.length<=1000000):Y E0 (.call 111 [.agg [.i kind,.i attr,.i height,.sl .u8 policy,.sl .u8 unique]] [])=some (.ret (.nm 0) [some (.row 5 .u8 (ES ⟨kind,attr,height,policy,unique⟩))]):=by
 refine tq ?_;rw[Fb _ _ A8];refine tq ?_;rw[Fb _ _ A8];refine tq ?_
 (simp only[F5];rfl)
theorem VM(b:List UInt8)(hb:b.length<=4294967296):Y E0 (.call 11 [.sl .u8 b] [])=some (.ret (.tup [.agg (Yu (Fe b).1),.i (Fe b).2]) []):=by
 refine tq ?_;rw[Pj _];refine tq ?_;rw[show Y E0 (.call 40 [.pa 0 0,.i 1] [.var [.sl .u8 b,.i 0,.i 0]])=_ from GM b 0 0 1 hb (Nat.zero_le _)];generalize g0:J7 b 0 0 1=x0;obtain⟨v0,p0,er0⟩:=x0;have k0:p0<=b.length:=(by have:=Jt (b:=b) (at':=0) (e:=0) (size:=1) (Nat.zero_le _);rw[g0] at this;exact this)
 refine tq ?_;rw[GM b p0 er0 1 hb k0];generalize g1:J7 b p0 er0 1=x1;obtain⟨v1,p1,er1⟩:=x1;have k1:p1<=b.length:=(by have:=Jt (b:=b) (at':=p0) (e:=er0) (size:=1) k0;rw[g1] at this;exact this)
 refine tq ?_;rw[GM b p1 er1 1 hb k1];generalize g2:J7 b p1 er1 1=x2;obtain⟨v2,p2,er2⟩:=x2;have k2:p2<=b.length:=(by have:=Jt (b:=b) (at':=p1) (e:=er1) (size:=1) k1;rw[g2] at this;exact this)
 refine tq ?_;rw[Hm b p2 er2 32 hb k2];generalize g3:Js b p2 er2 32=x3;obtain⟨v3,p3,er3⟩:=x3;have k3:p3<=b.length:=(by have:=MF (b:=b) (at':=p2) (e:=er2) (most:=32) k2;rw[g3] at this;exact this);have l3:v3.length<=b.length:=(by have:=J8 (b:=b) (at':=p2) (e:=er2) (most:=32);rw[g3] at this;exact this);have m3:v3.length<=32:=(by have:=J3 (b:=b) (at':=p2) (e:=er2) (most:=32) zal;rw[g3] at this;simp only at this;omega)
 refine tq ?_;rw[Hm b p3 er3 32 hb k3];generalize g4:Js b p3 er3 32=x4;obtain⟨v4,p4,er4⟩:=x4;have k4:p4<=b.length:=(by have:=MF (b:=b) (at':=p3) (e:=er3) (most:=32) k3;rw[g4] at this;exact this);have l4:v4.length<=b.length:=(by have:=J8 (b:=b) (at':=p3) (e:=er3) (most:=32);rw[g4] at this;exact this);have m4:v4.length<=32:=(by have:=J3 (b:=b) (at':=p3) (e:=er3) (most:=32) zal;rw[g4] at this;simp only at this;omega)
 refine tq ?_;rw[UC _ _ _ A8 A8];refine tq ?_
 rcases AL (WT b p4 er4) 0 with hc0|hc0
 ·refine tq ?_;rw[JY ..];refine tq ?_
  rcases AX (Bv {kind:=v0,attr:=v1,height:=v2,policy:=v3,unique:=v4}) 0 with hc1|hc1
  ·refine tq ?_
   rw[dF g0 g1 g2 g3 g4];(repeat(first|rw[if_pos zae]|rw[if_neg zae]));rfl
  refine tq ?_
  rw[dF g0 g1 g2 g3 g4];(repeat(first|rw[if_pos zae]|rw[if_neg zae]));done
 refine tq ?_
 rw[dF g0 g1 g2 g3 g4];(repeat(first|rw[if_pos zae]|rw[if_neg zae]));rfl
theorem A4r(m:Int)(hm:1<=m/\m<=1000000000):Y E0 (.call 20 [.i n,.i m] [])=some (.ret (.i (n%m)) []):=by
 have hb:=Wn n hm.1
 refine tq ?_
 rcases AY (DK n m) 0 with hc0|hc0
 ·refine tp ?_;rw[Aw zaa,jJ hm.1 zaa]
 refine tq ?_;rw[jI hm.1 zaa]
theorem jW(hp:policy.length<=60000)(hu:unique.length<=60000):Y E0 (.call 38 [.agg [.i kind,.i attr,.i height,.sl .u8 policy,.sl .u8 unique]] [])=some (.ret (.sl .u8 (nameB ⟨kind,attr,height,policy,unique⟩)) []):=by
 have hl:=Jh (p:=⟨kind,attr,height,policy,unique⟩) (Nat.le_trans hp zal) (Nat.le_trans hu zal)
 refine tq ?_;rw[uO _ _ _ _ _ A8 A8];refine tq ?_;rw[IR _ _ A8 A8];refine tq ?_
 rfl
theorem Ff(hp:policy.length<=60000)(hu:unique.length<=60000):Y E0 (.call 51 [.agg [.i kind,.i attr,.i height,.sl .u8 policy,.sl .u8 unique]] [])=some (.ret (.sl .u8 (nameB ⟨kind,attr,height,policy,unique⟩)) []):=by
 have hl:=Jh (p:=⟨kind,attr,height,policy,unique⟩) (Nat.le_trans hp zal) (Nat.le_trans hu zal)
 refine tq ?_;rw[I8 _ _ _ _ _ A8 A8];refine tq ?_;rw[F8 _ _ A8 A8];refine tq ?_
 rfl
theorem YR(size:Int)(policy auth:List UInt8)(written:Bool)(data:List UInt8):Y E0 (.call 306 [.agg [.i n,.i kind,.i attr,.i size,.sl .u8 policy,.sl .u8 auth,.b written,.sl .u8 data]] [])=some (.ret (.sl .u8 (A2y ⟨n,kind,attr,size,policy,auth,written,data⟩)) []):=by
 cases written
 ·refine tq ?_;rw[CQ _ _ _ A8];refine tq ?_
  (simp only[Aa,F5];rfl)
 ·refine tq ?_;rw[CQ _ _ _ A8];refine tq ?_
  (simp only[Aa,F5];rfl)
theorem Zu(size:Int)(policy auth:List UInt8)(written:Bool)(data:List UInt8)(hp:policy.length<=1000000):Y E0 (.call 275 [.agg [.i n,.i kind,.i attr,.i size,.sl .u8 policy,.sl .u8 auth,.b written,.sl .u8 data]] [])=some (.ret (.sl .u8 (U8 ⟨n,kind,attr,size,policy,auth,written,data⟩)) []):=by
 cases written
 ·refine tq ?_;rw[YR ..];refine tq ?_;rw[F8 _ _ A8 A8];refine tq ?_
  rfl
 ·refine tq ?_;rw[YR ..];refine tq ?_;rw[F8 _ _ A8 A8];refine tq ?_
  rfl
theorem nS(h:Int):Y E0 (.call 276 [.i h] [])=some (.ret (.sl .u8 (YK h)) []):=by
 refine tq ?_
 rcases AY h 0 with hc0|hc0
 ·refine tq ?_
  unfold YK;(repeat(first|rw[if_pos zae]|rw[if_neg zae]));try simp only[NO]
 refine tq ?_
 rcases AY 3 h with hc1|hc1
 ·refine tq ?_
  unfold YK;(repeat(first|rw[if_pos zae]|rw[if_neg zae]));try simp only[NO]
 refine tq ?_;rw[F8 _ _ A8 A8];refine tq ?_
 (rw[YK,if_neg zaa,<-F5])
end
end Go.Proofs.YtnhgnfdbdflhcaaGreatDoor
