/-
  Own texts, laid together for this claim: contracts of functions of the program and its references, used by the statements of this seat.
-/
import Derived.Test.YtanagnimhaemgaaGreatDoorQtac
import Derived.Test.YtanagnimhaemgaaGreatDoorQtah
import Derived.Test.YtanagnimhaemgaaGreatDoorQtak
set_option linter.all false
set_option maxHeartbeats 40000000
set_option maxRecDepth 100000
namespace Go.Proofs.YtanagnimhaemgaaGreatDoor
open Go Go.Ax Go.Eng
variable (leaf c:Int)(seed:List UInt8)
section
attribute [local irreducible] Bl CQ CS Bo Bg Ar CU Dw EN Dy EC Bf BU Bv Bz and' C9 CB BK Au BA BL BN Aa Ad AP AZ CV Dq CW DI CE BP BM BF BG BB AU BC Ae Ap Ai CX BH Bh Ba BO CG CY CJ fits CZ CO A8 AA Ac
theorem kS(l:Int):Y E0 (.call 326 [.i l] [])=some (.ret (.b (decide (0<=l/\l<=255))) []):=by
 refine tq ?_
 rcases ZV 0 l with hc0|hc0
 ·refine tq ?_
  (congr 3;simp only[J3,Jo,Jd,Jp,DF,IB,AC];first|rfl|(rw[decide_eq_decide];omega)|(simp;omega))
 refine tq ?_
 (rw[decide_eq_false zaa])
theorem A8h(hx:seed.length<=1000000):Y E0 (.call 363 [.i c,.pa 0 0,.pa 1 0] [.var [.sl .u8 seed],.var [.i leaf]])=some (.ret (.sl .u8 (Hg seed leaf c)) [some (.var [.sl .u8 seed]),some (.var [.i leaf])]):=by
 refine tq ?_;rw[kR _ _ _ Aq];exact tq rfl
theorem A8i(hx:seed.length<=1000000):Y E0 (.call 354 [.i c,.pa 0 0,.pa 1 0] [.var [.sl .u8 seed],.var [.i leaf]])=some (.ret (.sl .u8 (Hg seed leaf c)) [some (.var [.sl .u8 seed]),some (.var [.i leaf])]):=by
 refine tq ?_;rw[kR _ _ _ Aq];exact tq rfl
theorem A8j:Y E0 (.call 364 [.i c] [])=some (.ret (.i 0) []):=by
 exact tq rfl
theorem A3E:Y E0 (.call 365 [.i c] [])=some (.ret (.i 15) []):=by
 exact tq rfl
theorem A8k:Y E0 (.call 356 [.i c] [])=some (.ret (.i 0) []):=by
 exact tq rfl
theorem A3F(c:Nat)(d:List Int)(hc:c<d.length):Y E0 (.call 357 [.i c,.pa 0 0] [.var [.sl .i64 d]])=some (.ret (.i d[c]) [some (.var [.sl .i64 d])]):=by
 exact tq rfl
theorem Ti(leaf:Int)(seed:List UInt8)(hx:seed.length<=1000000)(acc:List UInt8)(c:Nat)(hc:c<35)(ha:acc.length<=1000):∀(k:Nat) (q:Int) (x:List UInt8),0<=q->((15:Int)-q).toNat=k->x.length<=1000000 ->
  Y E0 (.loop 330 1 2 3 [(0,.i leaf),(1,AV.fn 363 [] [.pa 0 0,.pa 1 0]),(2,AV.fn 364 [] []),(3,AV.fn 365 [] []),(9,.nm 2),(10,.i c),(11,.sl .u8 x),(12,.i q),(13,.i c)] [(0,some (Rs.var [.sl .u8 seed])),(1,some (Rs.var [.i leaf])),(2,some (.row 5 .u8 acc))])=some (.fin (.exit 2) 3 [(0,.i leaf),(1,AV.fn 363 [] [.pa 0 0,.pa 1 0]),(2,AV.fn 364 [] []),(3,AV.fn 365 [] []),(9,.nm 2),(11,.sl .u8 (GM k leaf c q x)),(13,.i c)] [(0,some (Rs.var [.sl .u8 seed])),(1,some (Rs.var [.i leaf])),(2,some (.row 5 .u8 acc))])
 | 0,q,x,h0,hk,hx'=>by
  refine tq ?_;rw[A3E _];refine tq ?_
  rfl
 | k+1,q,x,h0,hk,hx'=>by
  have ih:=Ti leaf seed hx acc c hc ha k (q+1) (Vb leaf c q x) zaa zaa (by rw[E8];omega)
  refine tq ?_;rw[A3E _];refine tq ?_;rw[wW _ _ _ _ Aq];refine tq ?_
  refine(congrArg (Y E0) ?_).trans ih;(try simp only[Rq.loop.injEq,Rq.call.injEq,Rq.ops.injEq,List.cons.injEq,Prod.mk.injEq,AV.i.injEq,AV.sl.injEq,AV.st.injEq,AV.b.injEq,AV.u8.injEq,AV.nm.injEq,Option.some.injEq,Rs.row.injEq,Rs.var.injEq,heq_eq_eq,true_and,and_true]);(try(repeat' apply And.intro));all_goals first|(with_reducible rfl)|omega|(rw[Bc zaa];omega)|(rw[DU zaa];omega)
theorem PQ(leaf:Int)(seed:List UInt8)(hx:seed.length<=1000000):∀(k c:Nat) (acc:List UInt8),c+k=35->acc=Jf leaf (fun c=>Hg seed leaf c) (fun c=>(0:Int)) (fun c=>(15:Int)) c->acc.length<=16*c ->
  Y E0 (.loop 330 0 2 3 [(0,.i leaf),(1,AV.fn 363 [] [.pa 0 0,.pa 1 0]),(2,AV.fn 364 [] []),(3,AV.fn 365 [] []),(9,.nm 2),(13,.i c)] [(0,some (Rs.var [.sl .u8 seed])),(1,some (Rs.var [.i leaf])),(2,some (.row 5 .u8 acc))])=some (.fin (.exit 0) 2 [(9,.sl .u8 (Jf leaf (fun c=>Hg seed leaf c) (fun c=>(0:Int)) (fun c=>(15:Int)) 35))] [(0,some (Rs.var [.sl .u8 seed])),(1,some (Rs.var [.i leaf]))])
 | 0,c,acc,hc,he,ha=>by
  obtain rfl:c=35:=zaa
  rw[<-he]
  exact tq rfl
 | k+1,c,acc,hc,he,ha=>by
  have hin:=Ti leaf seed hx acc c zaa zaa
  have hst:(Hg seed leaf c).length=16:=by exact DN _ _ _
  have hsl:=La ((15:Int)-(0:Int)).toNat leaf c ((0:Int)) _ hst
  have ih:=PQ leaf seed hx k (c+1) (acc++GM ((15:Int)-(0:Int)).toNat leaf c ((0:Int)) (Hg seed leaf c)) zaa (by rw[Ib,<-he]) zbd
  rw[show((c+1:Nat):Int)=(c:Int)+1 from by omega] at ih
  refine tq ?_;rw[A8h _ _ _ Aq];refine tq ?_;rw[A8j _];refine tq ?_;rw[hin _ _ _ zaa rfl zaa];refine tq ?_
  refine(congrArg (Y E0) ?_).trans ih;(try simp only[Rq.loop.injEq,Rq.call.injEq,Rq.ops.injEq,List.cons.injEq,Prod.mk.injEq,AV.i.injEq,AV.sl.injEq,AV.st.injEq,AV.b.injEq,AV.u8.injEq,AV.nm.injEq,Option.some.injEq,Rs.row.injEq,Rs.var.injEq,heq_eq_eq,true_and,and_true]);(try(repeat' apply And.intro));all_goals first|(with_reducible rfl)|omega|(rw[Bc zaa];omega)|(rw[DU zaa];omega)|(rw[Am];done)|(rw[Am];rfl)
theorem zL(hx:seed.length<=1000000):Y E0 (.call 330 [.i leaf,AV.fn 363 [] [.pa 0 0,.pa 1 0],AV.fn 364 [] [],AV.fn 365 [] []] [Rs.var [.sl .u8 seed],Rs.var [.i leaf]])=some (.ret (.sl .u8 (Jf leaf (fun c=>Hg seed leaf c) (fun c=>(0:Int)) (fun c=>(15:Int)) 35)) [some (Rs.var [.sl .u8 seed]),some (Rs.var [.i leaf])]):=by
 have h0:=PQ leaf seed hx 35 0 [] zaa rfl zak
 rw[show((0:Nat):Int)=0 from rfl] at h0;refine tq ?_;exact h0▸rfl
theorem Tj(leaf:Int)(seed:List UInt8)(d:List Int)(hx:seed.length<=1000000)(hd:d.length=35)(hdb:∀ x∈d,0<=x/\x<=15)(acc:List UInt8)(c:Nat)(hc:c<35)(ha:acc.length<=1000):∀(k:Nat) (q:Int) (x:List UInt8),0<=q->(d.getD c 0-q).toNat=k->x.length<=1000000 ->
  Y E0 (.loop 330 1 3 4 [(0,.i leaf),(1,AV.fn 354 [] [.pa 0 0,.pa 1 0]),(2,AV.fn 356 [] []),(3,AV.fn 357 [] [.pa 2 0]),(9,.nm 3),(10,.i c),(11,.sl .u8 x),(12,.i q),(13,.i c)] [(0,some (Rs.var [.sl .u8 seed])),(1,some (Rs.var [.i leaf])),(2,some (Rs.var [.sl .i64 d])),(3,some (.row 5 .u8 acc))])=some (.fin (.exit 2) 4 [(0,.i leaf),(1,AV.fn 354 [] [.pa 0 0,.pa 1 0]),(2,AV.fn 356 [] []),(3,AV.fn 357 [] [.pa 2 0]),(9,.nm 3),(11,.sl .u8 (GM k leaf c q x)),(13,.i c)] [(0,some (Rs.var [.sl .u8 seed])),(1,some (Rs.var [.i leaf])),(2,some (Rs.var [.sl .i64 d])),(3,some (.row 5 .u8 acc))])
 | 0,q,x,h0,hk,hx'=>by
  have hdc:=hdb _ (List.getElem_mem (l:=d) (n:=c) zaa)
  have hgd:d.getD c 0=d[c]'zaa:=zaW
  refine tq ?_;rw[A3F _ _ Aq];refine tq ?_
  rfl
 | k+1,q,x,h0,hk,hx'=>by
  have hdc:=hdb _ (List.getElem_mem (l:=d) (n:=c) zaa)
  have hgd:d.getD c 0=d[c]'zaa:=zaW
  have ih:=Tj leaf seed d hx hd hdb acc c hc ha k (q+1) (Vb leaf c q x) zaa zaa (by rw[E8];omega)
  refine tq ?_;rw[A3F _ _ Aq];refine tq ?_;rw[wW _ _ _ _ Aq];refine tq ?_
  refine(congrArg (Y E0) ?_).trans ih;(try simp only[Rq.loop.injEq,Rq.call.injEq,Rq.ops.injEq,List.cons.injEq,Prod.mk.injEq,AV.i.injEq,AV.sl.injEq,AV.st.injEq,AV.b.injEq,AV.u8.injEq,AV.nm.injEq,Option.some.injEq,Rs.row.injEq,Rs.var.injEq,heq_eq_eq,true_and,and_true]);(try(repeat' apply And.intro));all_goals first|(with_reducible rfl)|omega|(rw[Bc zaa];omega)|(rw[DU zaa];omega)
theorem PR(leaf:Int)(seed:List UInt8)(d:List Int)(hx:seed.length<=1000000)(hd:d.length=35)(hdb:∀ x∈d,0<=x/\x<=15):∀(k c:Nat) (acc:List UInt8),c+k=35->acc=Jf leaf (fun c=>Hg seed leaf c) (fun c=>(0:Int)) (fun c=>d.getD c 0) c->acc.length<=16*c ->
  Y E0 (.loop 330 0 3 4 [(0,.i leaf),(1,AV.fn 354 [] [.pa 0 0,.pa 1 0]),(2,AV.fn 356 [] []),(3,AV.fn 357 [] [.pa 2 0]),(9,.nm 3),(13,.i c)] [(0,some (Rs.var [.sl .u8 seed])),(1,some (Rs.var [.i leaf])),(2,some (Rs.var [.sl .i64 d])),(3,some (.row 5 .u8 acc))])=some (.fin (.exit 0) 3 [(9,.sl .u8 (Jf leaf (fun c=>Hg seed leaf c) (fun c=>(0:Int)) (fun c=>d.getD c 0) 35))] [(0,some (Rs.var [.sl .u8 seed])),(1,some (Rs.var [.i leaf])),(2,some (Rs.var [.sl .i64 d]))])
 | 0,c,acc,hc,he,ha=>by
  obtain rfl:c=35:=zaa
  rw[<-he]
  exact tq rfl
 | k+1,c,acc,hc,he,ha=>by
  have hdc:=hdb _ (List.getElem_mem (l:=d) (n:=c) zaa)
  have hgd:d.getD c 0=d[c]'zaa:=zaW
  have hin:=Tj leaf seed d hx hd hdb acc c zaa zaa
  have hst:(Hg seed leaf c).length=16:=by exact DN _ _ _
  have hsl:=La (d.getD c 0-(0:Int)).toNat leaf c ((0:Int)) _ hst
  have ih:=PR leaf seed d hx hd hdb k (c+1) (acc++GM (d.getD c 0-(0:Int)).toNat leaf c ((0:Int)) (Hg seed leaf c)) zaa (by rw[Ib,<-he]) zbd
  rw[show((c+1:Nat):Int)=(c:Int)+1 from by omega] at ih
  refine tq ?_;rw[A8i _ _ _ Aq];refine tq ?_;rw[A8k _];refine tq ?_;rw[hin _ _ _ zaa rfl zaa];refine tq ?_
  refine(congrArg (Y E0) ?_).trans ih;(try simp only[Rq.loop.injEq,Rq.call.injEq,Rq.ops.injEq,List.cons.injEq,Prod.mk.injEq,AV.i.injEq,AV.sl.injEq,AV.st.injEq,AV.b.injEq,AV.u8.injEq,AV.nm.injEq,Option.some.injEq,Rs.row.injEq,Rs.var.injEq,heq_eq_eq,true_and,and_true]);(try(repeat' apply And.intro));all_goals first|(with_reducible rfl)|omega|(rw[Bc zaa];omega)|(rw[DU zaa];omega)|(rw[Am];done)|(rw[Am];rfl)
theorem zM(d:List Int)(hx:seed.length<=1000000)(hd:d.length=35)(hdb:∀ x∈d,0<=x/\x<=15):Y E0 (.call 330 [.i leaf,AV.fn 354 [] [.pa 0 0,.pa 1 0],AV.fn 356 [] [],AV.fn 357 [] [.pa 2 0]] [Rs.var [.sl .u8 seed],Rs.var [.i leaf],Rs.var [.sl .i64 d]])=some (.ret (.sl .u8 (Jf leaf (fun c=>Hg seed leaf c) (fun c=>(0:Int)) (fun c=>d.getD c 0) 35)) [some (Rs.var [.sl .u8 seed]),some (Rs.var [.i leaf]),some (Rs.var [.sl .i64 d])]):=by
 have h0:=PR leaf seed d hx hd hdb 35 0 [] zaa rfl zak
 rw[show((0:Nat):Int)=0 from rfl] at h0;refine tq ?_;exact h0▸rfl
theorem zN(hx:seed.length<=1000000):Y E0 (.call 360 [.sl .u8 seed,.i leaf] [])=some (.ret (.sl .u8 (Ir seed leaf)) []):=by
 refine tq ?_;rw[kS _];refine tq ?_
 rcases Decidable.em (0<=leaf/\leaf<=255) with hc0|hc0
 ·refine tq ?_;rw[zL _ _ Aq]
  conv=>lhs;whnf
  rw[KU (by rfl)];conv=>lhs;whnf
  try dsimp -iota -beta -eta -zeta only
  rw[Ak];rw[A3D _ _ (by rw[Lc _ _ _ _ 35 (fun c _=>DN _ _ _) 35 (Nat.le_refl _)];omega)]
  refine tq ?_
  unfold Ir;(repeat(first|rw[if_pos zae]|rw[if_neg zae]));try simp only[NO]
 refine tq ?_
 unfold Ir;(repeat(first|rw[if_pos zae]|rw[if_neg zae]));try simp only[NO]
theorem A68(m:List UInt8)(hx:seed.length<=1000000)(hm:m.length<=1000000):Y E0 (.call 342 [.sl .u8 seed,.i leaf,.sl .u8 m] [])=some (.ret (.sl .u8 (Ob seed leaf m)) []):=by
 refine tq ?_;rw[kS _];refine tq ?_
 rcases Decidable.em (0<=leaf/\leaf<=255) with hc0|hc0
 ·refine tq ?_;rw[zI _ Aq];refine tq ?_;rw[zM leaf seed (H7 m) hx (Xt m) (Xu m)]
  conv=>lhs;whnf
  rw[KU (by rfl)];conv=>lhs;whnf
  unfold Ob;(repeat(first|rw[if_pos zae]|rw[if_neg zae]));try simp only[NO]
 refine tq ?_
 unfold Ob;(repeat(first|rw[if_pos zae]|rw[if_neg zae]));try simp only[NO]
theorem Nu(leaf:Int)(sig:List UInt8)(d:List Int)(hx:sig.length=560)(hd:d.length=35)(hdb:∀ x∈d,0<=x/\x<=15):∀(k c:Nat) (acc:List UInt8),c+k=35->acc=Jf leaf (fun c=>(sig.drop (16*c)).take 16) (fun c=>d.getD c 0) (fun c=>(15:Int)) c->acc.length<=16*c ->
  Y E0 (.loop 104 0 0 1 [(0,.i leaf),(2,.sl .u8 sig),(8,.sl .i64 d),(9,.nm 0),(10,.i c)] [(0,some (.row 5 .u8 acc))])=some (.fin (.exit 0) 0 [(0,.i leaf),(9,.sl .u8 (Jf leaf (fun c=>(sig.drop (16*c)).take 16) (fun c=>d.getD c 0) (fun c=>(15:Int)) 35))] [])
 | 0,c,acc,hc,he,ha=>by
  obtain rfl:c=35:=zaa
  rw[<-he]
  exact tq rfl
 | k+1,c,acc,hc,he,ha=>by
  have hdc:=hdb _ (List.getElem_mem (l:=d) (n:=c) zaa)
  have hgd:d.getD c 0=d[c]'zaa:=zaW
  have hct:Bh sig (16*(c:Int)) (16*(c:Int)+16)=some ((sig.drop (16*c)).take 16):=by
   rw[Jm zaa,show(16*(c:Int)).toNat=16*c from by omega,show(16*(c:Int)+16-16*(c:Int)).toNat=16 from by omega]
  have hst:((sig.drop (16*c)).take 16).length=16:=zat
  have hsl:=La ((15:Int)-d.getD c 0).toNat leaf c (d.getD c 0) _ hst
  have ih:=Nu leaf sig d hx hd hdb k (c+1) (acc++GM ((15:Int)-d.getD c 0).toNat leaf c (d.getD c 0) ((sig.drop (16*c)).take 16)) zaa (by rw[Ib,<-he]) zbd
  rw[show((c+1:Nat):Int)=(c:Int)+1 from by omega] at ih;rw[hgd] at ih hsl
  rw[AO];conv=>lhs;whnf
  rw[Dp zaa]
  conv=>lhs;whnf
  rw[IC zaa]
  conv=>lhs;whnf
  rw[JA zaa];rw[Bc zaa];rw[hct];refine tq ?_;rw[zK _ _ _ _ _ zaa zaa zaa];refine tq ?_
  refine(congrArg (Y E0) ?_).trans ih;(try simp only[Rq.loop.injEq,Rq.call.injEq,Rq.ops.injEq,List.cons.injEq,Prod.mk.injEq,AV.i.injEq,AV.sl.injEq,AV.st.injEq,AV.b.injEq,AV.u8.injEq,AV.nm.injEq,Option.some.injEq,Rs.row.injEq,Rs.var.injEq,heq_eq_eq,true_and,and_true]);(try(repeat' apply And.intro));all_goals first|(with_reducible rfl)|omega|(rw[Bc zaa];omega)|(rw[DU zaa];omega)|(rw[Am];done)|(rw[Am];rfl)
theorem kT(m s:List UInt8)(hx:m.length<=1000000):Y E0 (.call 104 [.i leaf,.sl .u8 m,.sl .u8 s] [])=some (.ret (.tup [.sl .u8 (OO leaf m s).1,.b (OO leaf m s).2]) []):=by
 have h0:=fun h=>Nu leaf s (H7 m) h (Xt m) (Xu m) 35 0 [] zaa rfl zak
 rw[show((0:Nat):Int)=0 from rfl] at h0;refine tq ?_
 rcases D7 leaf 0 with hc0|hc0
 ·refine tq ?_
  unfold OO;(repeat(first|rw[if_pos zae]|rw[if_neg zae]));try simp only[NO]
 refine tq ?_
 rcases D7 255 leaf with hc1|hc1
 ·refine tq ?_
  unfold OO;(repeat(first|rw[if_pos zae]|rw[if_neg zae]));try simp only[NO]
 refine tq ?_
 rcases Bj (↑s.length) 560 with hc2|hc2
 ·refine tq ?_
  unfold OO;(repeat(first|rw[if_pos zae]|rw[if_neg zae]));try simp only[NO]
 refine tq ?_;rw[rG _ Aq];refine tq ?_;rw[h0 zaa];refine tq ?_;rw[zJ _ _ (by rw[Lc _ _ _ _ 35 (fun c hc=>by simp;omega) 35 (Nat.le_refl _)];omega)]
 refine tq ?_
 unfold OO;(repeat(first|rw[if_pos zae]|rw[if_neg zae]));try simp only[NO]
end
end Go.Proofs.YtanagnimhaemgaaGreatDoor
