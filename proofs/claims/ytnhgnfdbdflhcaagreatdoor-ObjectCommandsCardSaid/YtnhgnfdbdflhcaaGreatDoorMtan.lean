/-
  Own texts, laid together for this claim: contracts of functions of the program and its references, used by the statements of this seat.
-/
import Derived.Test.YtnhgnfdbdflhcaaGreatDoorMtab
import Derived.Test.YtnhgnfdbdflhcaaGreatDoorMtad
import Derived.Test.YtnhgnfdbdflhcaaGreatDoorMtaf
import Derived.Test.YtnhgnfdbdflhcaaGreatDoorMtag
import Derived.Test.YtnhgnfdbdflhcaaGreatDoorMtah
import Derived.Test.YtnhgnfdbdflhcaaGreatDoorMtai
import Derived.Test.YtnhgnfdbdflhcaaGreatDoorMtaj
import Derived.Test.YtnhgnfdbdflhcaaGreatDoorMtak
import Derived.Test.YtnhgnfdbdflhcaaGreatDoorMtal
import Derived.Test.YtnhgnfdbdflhcaaGreatDoorMtam
set_option linter.all false
set_option maxHeartbeats 40000000
set_option maxRecDepth 100000
namespace Go.Proofs.YtnhgnfdbdflhcaaGreatDoor
open Go Go.Ax Go.Eng
variable (seed:List UInt8)(h:Int)
section
attribute [local irreducible] Cc Dn D7 DU DD BA Dp F7 FY FD Ez Ci CS DK DV and' DW DL C9 BR Bh CB CG BG BI Aw BC Dq Fh Dt ER DX Bl CE Bv Bz Bi Az Bg BK Bj BO Du Bc DF BZ BM Cj Di fits Dv Dk Ac Am BH
attribute [local irreducible] lsB SL En Eg Ht LZ P8 Ld Io Jk JI
theorem OY:Y E0 (.call 167 [.i h] [])=some (.ret (.b (decide (0<=h/\h<=3))) []):=by
 refine tq ?_
 rcases DJ 0 h with hc0|hc0
 ·refine tq ?_;exact congrArg (fun b=>some (Rsp.ret (AV.b b) [])) (by rw[EU];apply decide_eq_decide.2;omega)
 refine tq ?_;rw[decide_eq_false zaa]
theorem nG(hs:seed.length<=1000000):Y E0 (.call 169 [.sl .u8 seed,.i h] [])=some (.ret (.sl .u8 (lsB seed h)) []):=by
 refine tq ?_;rw[show strOf {data := #[115,105,103,110,101,114]}=iU from rfl,H7 _ _ _ _ zaa zal zam,FP];refine tq ?_
 (unfold lsB;rfl)
theorem dX(hs:seed.length<=1000000):Y E0 (.call 178 [.sl .u8 seed,.i h] [])=some (.ret (.sl .u8 (lsB seed h)) []):=by
 refine tq ?_;rw[show strOf {data := #[115,105,103,110,101,114]}=iU from rfl,Es _ _ _ _ zaa zal zam,FP];refine tq ?_
 (unfold lsB;rfl)
theorem Qa(seed:List UInt8)(k N:Nat)(hk:k<=3)(hN:N=2^k):∀(n j:Nat),j+n=N->Y E0 (.loop 171 0 0 1 [(5,.sl .u8 (lsB seed k)),(6,.nm 0),(13,.i (N:Int)),(14,.i (j:Int))] [(0,some (.row 22 (.sl .u8) ((SL seed k).take j)))])=some (.fin (.exit 0) 0 [(6,.sl (.sl .u8) (SL seed k))] [])
 | 0,j,hj=>by
  have hl:=Gu seed k
  rw[List.take_of_length_le zaa]
  exact tq rfl
 | n+1,j,hj=>by
  have h8:=MI hk
  have hl:=Gu seed k
  have ih:=Qa seed k N hk hN n (j+1) zaa
  have ht:(SL seed k).take j++[Ht (lsB seed k) j]=(SL seed k).take (j+1):=by
   have hg:=YI (seed:=seed) (k:=k) (i:=j) zaa
   rw[List.getD,List.getElem?_eq_getElem zaa,Option.getD_some] at hg;rw[List.take_succ_eq_append_getElem zaa,hg]
  have hs:=JY seed k
  refine tq ?_;rw[A0Q _ _ zaa];refine tq ?_
  refine(congrArg (Y E0) ?_).trans ih;(try simp only[Rq.loop.injEq,Rq.call.injEq,Rq.ops.injEq,List.cons.injEq,Prod.mk.injEq,AV.i.injEq,AV.sl.injEq,AV.st.injEq,AV.b.injEq,AV.u8.injEq,AV.nm.injEq,Option.some.injEq,Rs.row.injEq,Rs.var.injEq,heq_eq_eq,true_and,and_true]);(try(repeat' apply And.intro));all_goals first|(with_reducible rfl)|omega|(rw[Au zaa];omega)|(rw[CY zaa];omega)|(rw[Ag];exact ht)
theorem dY(k:Nat)(hk:k<=3)(hs:seed.length<=1000000):Y E0 (.call 171 [.sl .u8 seed,.i (k:Int)] [])=some (.ret (.sl (.sl .u8) (SL seed k)) []):=by
 have hsh:Ci 1 (Bl (k:Int)).toNat=((2^k:Nat):Int):=zbS
 have hl:=Qa seed k _ hk rfl (2^k) 0 zaa
 rw[List.take_zero,show((0:Nat):Int)=0 from rfl] at hl;refine tq ?_;rw[nG _ _ A7];refine tq ?_;rw[hsh,hl];exact tq rfl
theorem Pi(seed:List UInt8)(k N:Nat)(hk:k<=3)(hN:N=2^k):∀(n j:Nat),j+n=N->Y E0 (.loop 180 0 0 1 [(1,.i (k:Int)),(5,.nm 0),(6,.sl .u8 (lsB seed k)),(7,.i (j:Int))] [(0,some (.row 22 (.sl .u8) ((SL seed k).take j)))])=some (.fin (.exit 0) 0 [(5,.sl (.sl .u8) (SL seed k))] [])
 | 0,j,hj=>by
  have hl:=Gu seed k
  have hsh:Ci 1 (Bl (k:Int)).toNat=(N:Int):=by rw[U3 zaa,He,hN]
  rw[List.take_of_length_le zaa]
  rw[Ad];conv=>lhs;whnf
  rw[hsh];exact tq rfl
 | n+1,j,hj=>by
  have h8:=MI hk
  have hl:=Gu seed k
  have hsh:Ci 1 (Bl (k:Int)).toNat=(N:Int):=by rw[U3 zaa,He,hN]
  have ih:=Pi seed k N hk hN n (j+1) zaa
  have ht:(SL seed k).take j++[Ht (lsB seed k) j]=(SL seed k).take (j+1):=by
   have hg:=YI (seed:=seed) (k:=k) (i:=j) zaa
   rw[List.getD,List.getElem?_eq_getElem zaa,Option.getD_some] at hg;rw[List.take_succ_eq_append_getElem zaa,hg]
  have hs:=JY seed k
  rw[Ad];conv=>lhs;whnf
  rw[hsh];refine tq ?_;rw[tC _ _ zaa];refine tq ?_
  refine(congrArg (Y E0) ?_).trans ih;(try simp only[Rq.loop.injEq,Rq.call.injEq,Rq.ops.injEq,List.cons.injEq,Prod.mk.injEq,AV.i.injEq,AV.sl.injEq,AV.st.injEq,AV.b.injEq,AV.u8.injEq,AV.nm.injEq,Option.some.injEq,Rs.row.injEq,Rs.var.injEq,heq_eq_eq,true_and,and_true]);(try(repeat' apply And.intro));all_goals first|(with_reducible rfl)|omega|(rw[Au zaa];omega)|(rw[CY zaa];omega)|(rw[Ag];exact ht)
theorem Zo(k:Nat)(hk:k<=3)(hs:seed.length<=1000000):Y E0 (.call 180 [.sl .u8 seed,.i (k:Int)] [])=some (.ret (.sl (.sl .u8) (SL seed k)) []):=by
 have hl:=Pi seed k _ hk rfl (2^k) 0 zaa
 rw[List.take_zero,show((0:Nat):Int)=0 from rfl] at hl;refine tq ?_;rw[dX _ _ A7];refine tq ?_;rw[hl];exact tq rfl
theorem A5S(hs:seed.length<=1000000):Y E0 (.call 162 [.sl .u8 seed,.i h] [])=some (.ret (.sl .u8 (En seed h)) []):=by
 by_cases hh:0<=h/\h<=3
 ·obtain⟨k,rfl⟩:∃ k:Nat,h=k:=⟨h.toNat,by omega⟩
  have hk:k<=3:=zaa
  have hr:=iV (seed:=seed) hk
  refine tq ?_;rw[OY,decide_eq_true hh];refine tq ?_;rw[dY _ _ hk hs];refine tq ?_;rw[A3c _ (YH hk) (yY hk)];refine tq ?_
  (rw[En,if_pos hh,Int.toNat_natCast,Ag,FP];rfl)
 ·refine tq ?_;rw[OY,decide_eq_false hh];refine tq ?_
  (rw[En,if_neg hh])
theorem nH(hs:seed.length<=1000000):Y E0 (.call 146 [.sl .u8 seed,.i h] [])=some (.ret (.nm 0) [some (.row 5 .u8 (En seed h))]):=by
 by_cases hh:0<=h/\h<=3
 ·obtain⟨k,rfl⟩:∃ k:Nat,h=k:=⟨h.toNat,by omega⟩
  have hk:k<=3:=zaa
  have hr:=iV (seed:=seed) hk
  refine tq ?_;rw[Zo _ _ hk hs];refine tq ?_;rw[A3d _ (YH hk) (yY hk)];refine tq ?_
  (rw[En,if_pos hh,Int.toNat_natCast,Ag,FP];rfl)
 ·refine tq ?_
  rcases AZ h 0 with hc0|hc0
  ·refine tq ?_
   (rw[En,if_neg hh])
  refine tq ?_
  (rw[En,if_neg hh])
theorem TC(P:List (List UInt8))(hP:∀ l∈P,l.length=16)(hn:P.length<=3):∀(n j:Nat) (acc:List UInt8),j+n=P.length->acc.length<=1000+16*j->Y E0 (.loop 105 0 0 1 [(9,.nm 0),(40,.sl (.sl .u8) P),(41,.i P.length),(42,.i (j:Int))] [(0,some (.row 5 .u8 acc))])=some (.fin (.exit 0) 0 [(9,.sl .u8 (acc++(P.drop j).flatten))] [])
 | 0,j,acc,hj,ha=>by
  rw[List.drop_eq_nil_of_le zaa,List.flatten_nil,List.append_nil]
  exact tq rfl
 | n+1,j,acc,hj,ha=>by
  have hx:=hP _ (List.getElem_mem (l:=P) (n:=j) zaa)
  have hg:BO P (j:Int)=some (P[j]'zaa):=Fe zaa
  have ih:=TC P hP hn n (j+1) (acc++P[j]'zaa) zaa (by rw[List.length_append];omega)
  have hd:=List.drop_eq_getElem_cons (l:=P) (i:=j) zaa
  rw[List.append_assoc,<-List.flatten_cons,<-hd] at ih
  clear hd
  refine to ?_;rw[hg];refine tq ?_
  refine(congrArg (Y E0) ?_).trans ih;(try simp only[Rq.loop.injEq,Rq.call.injEq,Rq.ops.injEq,List.cons.injEq,Prod.mk.injEq,AV.i.injEq,AV.sl.injEq,AV.st.injEq,AV.b.injEq,AV.u8.injEq,AV.nm.injEq,Option.some.injEq,Rs.row.injEq,Rs.var.injEq,heq_eq_eq,true_and,and_true]);(try(repeat' apply And.intro));all_goals first|(with_reducible rfl)|omega|(rw[Au zaa];omega)|(rw[CY zaa];omega)|rw[Ag]
theorem A3g(leaf:Int)(m:List UInt8)(hs:seed.length<=1000000)(hm:m.length<=1000000):Y E0 (.call 105 [.sl .u8 seed,.i h,.i leaf,.sl .u8 m] [])=some (.ret (.sl .u8 (Eg seed h leaf m)) []):=by
 by_cases hh:0<=h/\h<=3
 ·obtain⟨k,rfl⟩:∃ k:Nat,h=k:=⟨h.toNat,by omega⟩
  have hk:k<=3:=zaa
  have h8:=MI hk
  have hsh:Ci 1 (Bl (k:Int)).toNat=((2^k:Nat):Int):=zbS
  have hl:=JY seed k
  by_cases hc:0<=leaf/\leaf<((2^k:Nat):Int)
  ·have hsb:=OQ (seed:=lsB seed k) (m:=m) (leaf:=leaf) zaa
   obtain⟨p1,p2⟩:=YJ (seed:=seed) (k:=k) (i:=leaf) hk zaa (by rw[He];omega)
   have hlp:=TC _ p2 zaa (Io leaf (SL seed k)).length 0 (BM [ER leaf] (LZ (lsB seed k) leaf m)) zaa (by rw[Ag,List.length_append,hsb];simp)
   rw[List.drop_zero,show((0:Nat):Int)=0 from rfl] at hlp;refine tq ?_;rw[OY,decide_eq_true hh]
   conv=>lhs;whnf
   rw[DT];conv=>lhs;whnf
   rw[GL zaa]
   conv=>lhs;whnf
   rw[hsh];refine tq ?_;rw[nG _ _ A7];refine tq ?_;rw[A5R _ _ _ zaa zaa];refine tq ?_;rw[dY _ _ hk hs];refine tq ?_;rw[A3e _ _ (YH hk) (yY hk)];refine tq ?_;rw[BB,hlp];refine tq ?_
   (rw[Eg,if_pos ⟨hh,by rw[Int.toNat_natCast,He];exact hc⟩,Int.toNat_natCast,Ag,FP];rfl)
  ·refine tq ?_;rw[OY,decide_eq_true hh];refine tq ?_
   rcases AZ leaf 0 with hc0|hc0
   ·refine tq ?_
    (rw[Eg,if_neg zbI])
   rw[GL zaa]
   conv=>lhs;whnf
   rw[hsh];refine tq ?_
   (rw[Eg,if_neg zbI])
 ·refine tq ?_;rw[OY,decide_eq_false hh];refine tq ?_
  (rw[Eg,if_neg zaa])
theorem Qb(P:List (List UInt8))(hP:∀ l∈P,l.length=16)(hn:P.length<=3):∀(n j:Nat) (acc:List UInt8),j+n=P.length->acc.length<=1000+16*j->Y E0 (.loop 116 0 0 1 [(9,.nm 0),(10,.sl (.sl .u8) P),(11,.i (j:Int))] [(0,some (.row 5 .u8 acc))])=some (.fin (.exit 0) 1 [(9,.nm 0)] [(0,some (.row 5 .u8 (acc++(P.drop j).flatten)))])
 | 0,j,acc,hj,ha=>by
  rw[List.drop_eq_nil_of_le zaa,List.flatten_nil,List.append_nil]
  exact tq rfl
 | n+1,j,acc,hj,ha=>by
  have hx:=hP _ (List.getElem_mem (l:=P) (n:=j) zaa)
  have hg:BO P (j:Int)=some (P[j]'zaa):=Fe zaa
  have ih:=Qb P hP hn n (j+1) (acc++P[j]'zaa) zaa (by rw[List.length_append];omega)
  have hd:=List.drop_eq_getElem_cons (l:=P) (i:=j) zaa
  rw[List.append_assoc,<-List.flatten_cons,<-hd] at ih
  clear hd
  refine to ?_;rw[hg];refine tq ?_
  refine(congrArg (Y E0) ?_).trans ih;(try simp only[Rq.loop.injEq,Rq.call.injEq,Rq.ops.injEq,List.cons.injEq,Prod.mk.injEq,AV.i.injEq,AV.sl.injEq,AV.st.injEq,AV.b.injEq,AV.u8.injEq,AV.nm.injEq,Option.some.injEq,Rs.row.injEq,Rs.var.injEq,heq_eq_eq,true_and,and_true]);(try(repeat' apply And.intro));all_goals first|(with_reducible rfl)|omega|(rw[Au zaa];omega)|(rw[CY zaa];omega)|rw[Ag]
theorem X0(leaf:Int)(m:List UInt8)(hs:seed.length<=1000000)(hm:m.length<=1000000):Y E0 (.call 116 [.sl .u8 seed,.i h,.i leaf,.sl .u8 m] [])=some (.ret (.nm 0) [some (.row 5 .u8 (Eg seed h leaf m))]):=by
 by_cases hh:0<=h/\h<=3
 ·obtain⟨k,rfl⟩:∃ k:Nat,h=k:=⟨h.toNat,by omega⟩
  have hk:k<=3:=zaa
  have h8:=MI hk
  have hsh:Ci 1 (Bl (k:Int)).toNat=((2^k:Nat):Int):=zbS
  have hl:=JY seed k
  by_cases hc:0<=leaf/\leaf<((2^k:Nat):Int)
  ·have hsb:=OQ (seed:=lsB seed k) (m:=m) (leaf:=leaf) zaa
   obtain⟨p1,p2⟩:=YJ (seed:=seed) (k:=k) (i:=leaf) hk zaa (by rw[He];omega)
   have hlp:=Qb _ p2 zaa (Io leaf (SL seed k)).length 0 (BM [ER leaf] (LZ (lsB seed k) leaf m)) zaa (by rw[Ag,List.length_append,hsb];simp)
   rw[List.drop_zero,show((0:Nat):Int)=0 from rfl] at hlp;rw[Ad]
   conv=>lhs;whnf
   rw[GL zaa]
   conv=>lhs;whnf
   rw[GL zaa]
   conv=>lhs;whnf
   rw[GL zaa]
   conv=>lhs;whnf
   rw[hsh];refine tq ?_;rw[dX _ _ A7];refine tq ?_;rw[A3b _ _ _ zaa zaa];refine tq ?_;rw[Zo _ _ hk hs];refine tq ?_;rw[A3f _ _ (YH hk) (yY hk)];refine tq ?_;rw[hlp];refine tq ?_
   (rw[Eg,if_pos ⟨hh,by rw[Int.toNat_natCast,He];exact hc⟩,Int.toNat_natCast,Ag,FP];rfl)
  ·refine tq ?_
   rcases AZ leaf 0 with hc0|hc0
   ·refine tq ?_
    (rw[Eg,if_neg zbI])
   rw[GL zaa]
   conv=>lhs;whnf
   rw[hsh];refine tq ?_
   (rw[Eg,if_neg zbI])
 ·refine tq ?_
  rcases AZ h 0 with hc0|hc0
  ·refine tq ?_
   (rw[Eg,if_neg zaa])
  refine tq ?_
  (rw[Eg,if_neg zaa])
theorem TD(p s x:List UInt8)(i:Int)(k:Nat)(hk:k<=3)(hs:s.length=561+16*k):∀(n j:Nat) (acc:List (List UInt8)),j+n=k->acc.length=j->Y E0 (.loop 49 0 0 1 [(0,.sl .u8 p),(2,.sl .u8 s),(8,.i (k:Int)),(9,.i i),(10,.i (561+16*(j:Int))),(11,.sl .u8 x),(13,.nm 0),(14,.i (j:Int))] [(0,some (.row 22 (.sl .u8) acc))])=some (.fin (.exit 0) 0 [(0,.sl .u8 p),(9,.i i),(11,.sl .u8 x),(13,.sl (.sl .u8) (acc++JI n (s.drop (561+16*j))))] [])
 | 0,j,acc,hj,ha=>by
  unfold JI
  rw[List.append_nil]
  exact tq rfl
 | n+1,j,acc,hj,ha=>by
  have ih:=TD p s x i k hk hs n (j+1) (acc++[(s.drop (561+16*j)).take 16]) zaa (by rw[List.length_append];simp;omega)
  unfold JI
  rw[List.append_assoc,List.singleton_append,show 561+16*(j+1)=(561+16*j)+16 from by omega,show List.drop (561+16*j+16) s=List.drop 16 (List.drop (561+16*j) s) from by rw[List.drop_drop],show((j+1:Nat):Int)=(j:Int)+1 from by omega] at ih
  have e1:List.take (561+16*(j:Int)+16-(561+16*(j:Int))).toNat (List.drop (561+16*(j:Int)).toNat s)=List.take 16 (List.drop (561+16*j) s):=by
   rw[show(561+16*(j:Int)+16-(561+16*(j:Int))).toNat=16 from by omega,show(561+16*(j:Int)).toNat=561+16*j from by omega]
  refine tq ?_
  refine(congrArg (Y E0) ?_).trans ih;(try simp only[Rq.loop.injEq,Rq.call.injEq,Rq.ops.injEq,List.cons.injEq,Prod.mk.injEq,AV.i.injEq,AV.sl.injEq,AV.st.injEq,AV.b.injEq,AV.u8.injEq,AV.nm.injEq,Option.some.injEq,Rs.row.injEq,Rs.var.injEq,heq_eq_eq,true_and,and_true]);(try(repeat' apply And.intro));all_goals first|(with_reducible rfl)|omega|(rw[Au zaa];omega)|(rw[CY zaa];omega)|(rw[Ag,e1])
theorem nI(p m s:List UInt8)(hm:m.length<=1000000):Y E0 (.call 49 [.sl .u8 p,.sl .u8 m,.sl .u8 s] [])=some (.ret (.tup [.i (Fv p m s).1,.b (Fv p m s).2]) []):=by
 by_cases hp:p.length=17
 ·obtain⟨a,p',rfl⟩:∃ a p',p=a::p':=by cases p with|nil=>simp at hp|cons a p'=>exact⟨a,p',rfl⟩
  have hgp:BO (a::p') 0=some a:=Iu zaa rfl
  obtain⟨k,hk⟩:∃ k:Nat,a.toNat=k:=⟨_,rfl⟩
  have hpk:Fh a=(k:Int):=by rw[QI,hk]
  by_cases hk3:k<=3
  ·by_cases hs:s.length=561+16*k
   ·obtain⟨b,s',rfl⟩:∃ b s',s=b::s':=by cases s with|nil=>(simp at hs;omega)|cons b s'=>exact⟨b,s',rfl⟩
    have hgs:BO (b::s') 0=some b:=Iu zaa rfl
    obtain⟨i,hi⟩:∃ i:Nat,b.toNat=i:=⟨_,rfl⟩
    have hsi:Fh b=(i:Int):=by rw[QI,hi]
    have h8:=MI hk3
    have hsh:Ci 1 (Bl (k:Int)).toNat=((2^k:Nat):Int):=zbS
    by_cases hi2:i<2^k
    ·have hr2:=rec_2 (i:Int) m (((b::s').drop 1).take 560)
     rw[decide_eq_true ⟨by omega,by rw[List.length_take,List.length_drop,hs];omega⟩] at hr2
     have hrl:=A7D (i:Int) m (((b::s').drop 1).take 560)
     rw[A0K hk hi hp hk3 hs hi2]
     have hrr:=nD (i:Int) m (((b::s').drop 1).take 560) hm
     rw[hr2] at hrr
     replace hrr:Y E0 (.call 106 [.i (i:Int),.sl .u8 m,.sl .u8 (List.take ((561:Int)-1).toNat (List.drop (Int.toNat 1) (b::s')))] [])=_:=hrr
     have hcm:=dP k ((b::s').drop 561)
     have hlp:=TD (a::p') (b::s') (P8 (i:Int) m (((b::s').drop 1).take 560)).1 (i:Int) k hk3 hs k 0 [] zaa rfl
     rw[List.nil_append,show 561+16*0=561 from rfl,show((0:Nat):Int)=0 from rfl,show(561:Int)+16*0=561 from rfl] at hlp
     have e8:List.take (Bj (a::p')-1).toNat (List.drop (Int.toNat 1) (a::p'))=p':=List.take_of_length_le (by rw[BB];simp)
     generalize (P8 (i:Int) m (((b::s').drop 1).take 560)).1=x at *
     rw[Ad]
     conv=>lhs;whnf
     rw[Cf zaK]
     conv=>lhs;whnf
     rw[hgp]
     conv=>lhs;whnf
     rw[hpk]
     conv=>lhs;whnf
     rw[GL zaa]
     conv=>lhs;whnf
     rw[hgp]
     conv=>lhs;whnf
     rw[Gf zaa];rw[Au zaa];rw[hpk]
     conv=>lhs;whnf
     rw[Cf zaK]
     conv=>lhs;whnf
     rw[hgs]
     conv=>lhs;whnf
     rw[hsi]
     conv=>lhs;whnf
     rw[hsh]
     conv=>lhs;whnf
     rw[Si zaa]
     conv=>lhs;whnf
     rw[hgs]
     conv=>lhs;whnf
     rw[Ad]
     conv=>lhs;whnf
     rw[hsi];refine tq ?_;rw[hrr];refine tq ?_;rw[hlp];refine tq ?_;rw[A0S _ _ _ zaa hcm];refine tq ?_;rw[e8,Bq _ _ (A3I zaa)];refine tq ?_
     rcases Decidable.em (Jk x (↑i) (JI k (List.drop 561 (b::s')))=p') with hc0|hc0
     ·refine tq ?_;rw[if_pos hc0]
     refine tq ?_;rw[if_neg hc0]
    ·rw[YK (fun h=>hi2 (by have h4:=h.2.2.2;change b.toNat<2^a.toNat at h4;rw[hk,hi] at h4;exact h4))]
     rw[Ad]
     conv=>lhs;whnf
     rw[Cf zaK]
     conv=>lhs;whnf
     rw[hgp]
     conv=>lhs;whnf
     rw[hpk]
     conv=>lhs;whnf
     rw[GL zaa]
     conv=>lhs;whnf
     rw[hgp]
     conv=>lhs;whnf
     rw[Gf zaa];rw[Au zaa];rw[hpk]
     conv=>lhs;whnf
     rw[Cf zaK]
     conv=>lhs;whnf
     rw[hgs]
     conv=>lhs;whnf
     rw[hsi]
     conv=>lhs;whnf
     rw[hsh];exact tq rfl
   ·rw[YK (fun h=>hs (by have h4:=h.2.2.1;change _=561+16*a.toNat at h4;rw[hk] at h4;exact h4))]
    rw[Ad]
    conv=>lhs;whnf
    rw[Cf zaK]
    conv=>lhs;whnf
    rw[hgp]
    conv=>lhs;whnf
    rw[hpk]
    conv=>lhs;whnf
    rw[GL zaa]
    conv=>lhs;whnf
    rw[hgp]
    conv=>lhs;whnf
    rw[Gf zaa];rw[Au zaa];rw[hpk];exact tq rfl
  ·rw[YK (fun h=>hk3 (by have h4:=h.2.1;change a.toNat<=3 at h4;omega))]
   rw[Ad]
   conv=>lhs;whnf
   rw[Cf zaK]
   conv=>lhs;whnf
   rw[hgp]
   conv=>lhs;whnf
   rw[hpk];exact tq rfl
 ·rw[YK (fun h=>hp h.1)];exact tq rfl
end
end Go.Proofs.YtnhgnfdbdflhcaaGreatDoor
