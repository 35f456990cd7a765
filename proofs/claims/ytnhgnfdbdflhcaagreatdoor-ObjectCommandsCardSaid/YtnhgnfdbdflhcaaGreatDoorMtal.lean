/-
  Own texts, laid together for this claim: contracts of functions of the program and its references, used by the statements of this seat.
-/
import Derived.Test.YtnhgnfdbdflhcaaGreatDoorMtab
import Derived.Test.YtnhgnfdbdflhcaaGreatDoorMtad
import Derived.Test.YtnhgnfdbdflhcaaGreatDoorMtah
import Derived.Test.YtnhgnfdbdflhcaaGreatDoorMtaj
set_option linter.all false
set_option maxHeartbeats 40000000
set_option maxRecDepth 100000
namespace Go.Proofs.YtnhgnfdbdflhcaaGreatDoor
open Go Go.Ax Go.Eng
variable (h n:Int)(ls:List (List UInt8))(i:Int)(l:List UInt8)
section
attribute [local irreducible] Cc Dn D7 DU DD BA Dp F7 FY FD Ez Ci CS DK DV and' DW DL C9 BR Bh CB CG BG BI Aw BC Dq Fh Dt ER DX Bl CE Bv Bz Bi Az Bg BK Bj BO Du Bc DF BZ BM Cj Di fits Dv Dk Ac Am BH
theorem A0R(r:List UInt8)(hl:l.length<=1000000)(hr:r.length<=1000000):Y E0 (.call 267 [.i h,.i i,.sl .u8 l,.sl .u8 r] [])=some (.ret (.sl .u8 (Lc h i l r)) []):=by
 refine tq ?_;rw[I8 _ _ (by rw[Zb];simp;omega) zam]
 refine tq ?_;simp only[FP];rfl
theorem iq(r:List UInt8)(hl:l.length<=1000000)(hr:r.length<=1000000):Y E0 (.call 175 [.i h,.i i,.sl .u8 l,.sl .u8 r] [])=some (.ret (.sl .u8 (Lc h i l r)) []):=by
 refine tq ?_;rw[F5 _ _ (by rw[Zb];simp;omega) zam]
 refine tq ?_;simp only[FP];rfl
theorem QY:Y E0 (.loop 222 0 0 0 [(0,.i n),(3,.i 0)] [])=(if FK n<0 then some (.fin (.exit 0) 0 [] []) else some (.fin .ret 0 [(2,.i (FK n))] [])):=by
 unfold FK
 refine tq ?_;rw[show Ci 1 (Bl 0).toNat=1 from ZI zal];refine tq ?_
 rcases AL n 1 with hc0|hc0
 ·subst hc0;refine tq ?_
  simp[*]
 refine tq ?_;refine tq ?_;rw[show Ci 1 (Bl (0+1)).toNat=2 from ZI zal];refine tq ?_
 rcases AL n 2 with hc1|hc1
 ·subst hc1;refine tq ?_
  simp[*]
 refine tq ?_;refine tq ?_;rw[show Ci 1 (Bl (0+1+1)).toNat=4 from ZI zal];refine tq ?_
 rcases AL n 4 with hc2|hc2
 ·subst hc2;refine tq ?_
  simp[*]
 refine tq ?_;refine tq ?_;rw[show Ci 1 (Bl (0+1+1+1)).toNat=8 from ZI zal];refine tq ?_
 rcases AL n 8 with hc3|hc3
 ·subst hc3;refine tq ?_
  simp[*]
 refine tq ?_;refine tq ?_
 simp[*]
theorem Rz:Y E0 (.call 222 [.i n] [])=some (.ret (.i (FK n)) []):=by
 by_cases h:FK n<0
 ·have h1:FK n = -1:=by(unfold FK at *;(repeat' split at h)<;>first|omega|simp[*])
  refine tq ?_;rw[QY,if_pos h];refine tq ?_;rw[h1]
 ·refine tq ?_;rw[QY,if_neg h];exact tq rfl
theorem YN:Y E0 (.call 231 [.i n] [])=some (.ret (.b (decide (n=1\/n=2\/n=4\/n=8))) []):=by
 refine tq ?_
 rcases AL n 1 with hc0|hc0
 ·subst hc0;refine tq ?_
  rfl
 refine tq ?_
 rcases AL n 2 with hc1|hc1
 ·subst hc1;refine tq ?_
  rfl
 refine tq ?_
 rcases AL n 4 with hc2|hc2
 ·subst hc2;refine tq ?_
  rfl
 refine tq ?_
 (congr 3;simp only[Dz,WX,Jd,EU,DT,ND,BB];first|rfl|(rw[decide_eq_decide];omega)|(simp;omega))
theorem Zn(h:Int)(ls:List (List UInt8))(hm:∀ l∈ls,l.length<=1000000)(hn:ls.length<=1000):∀(k i:Nat) (acc:List (List UInt8)),2*i<=ls.length->ls.length<=2*i+2*k+1->acc.length<=i ->
  Y E0 (.loop 232 0 0 1 [(0,.i h),(1,.sl (.sl .u8) ls),(5,.nm 0),(6,.i i)] [(0,some (.row 22 (.sl .u8) acc))])=some (.fin (.exit 0) 0 [(5,.sl (.sl .u8) (acc++Wp h i (ls.drop (2*i))))] [])
 | k,i,acc,h0,hi,ha=>by
  by_cases hc:2*i+1<ls.length
  ·obtain⟨k,rfl⟩:∃ j,k=j+1:=⟨k-1,by omega⟩
   have h1:=hm _ (List.getElem_mem (l:=ls) (n:=2*i) zaa)
   have h2:=hm _ (List.getElem_mem (l:=ls) (n:=2*i+1) zaa)
   have ih:=Zn h ls hm hn k (i+1) (acc++[Lc h i ls[2*i] ls[2*i+1]]) zaa zaa zaC
   rw[drop2 hc,Wp];rw[List.append_assoc,List.singleton_append] at ih
   rw[Ad];conv=>lhs;whnf
   rw[Gf zaa];rw[Au zaa];rw[EZ zbj]
   conv=>lhs;whnf
   rw[Gf zaa];rw[DZ zaa]
   conv=>lhs;whnf
   rw[Gf zaa];rw[Au zaa];rw[DZ zaa]
   conv=>lhs;whnf
   try dsimp -iota -beta -eta -zeta only
   rw[AQ];rw[iq _ _ _ _ A7 A7];refine tq ?_
   refine(congrArg (Y E0) ?_).trans ih;(try simp only[Rq.loop.injEq,Rq.call.injEq,Rq.ops.injEq,List.cons.injEq,Prod.mk.injEq,AV.i.injEq,AV.sl.injEq,AV.st.injEq,AV.b.injEq,AV.u8.injEq,AV.nm.injEq,Option.some.injEq,Rs.row.injEq,Rs.var.injEq,heq_eq_eq,true_and,and_true]);(try(repeat' apply And.intro));all_goals first|(with_reducible rfl)|omega|(rw[Au zaa];omega)|(rw[CY zaa];omega)|(rw[Ag];rfl)
  ·rw[VA _ _ _ zaU,List.append_nil]
   exact tq rfl
theorem A6L(hm:∀ l∈ls,l.length<=1000000)(hn:ls.length<=1000):Y E0 (.call 232 [.i h,.sl (.sl .u8) ls] [])=some (.ret (.sl (.sl .u8) (Wp h 0 ls)) []):=by
 have h0:=Zn h ls hm hn ls.length 0 [] zaa zaa zam
 refine tq ?_;rw[show(0:Int)=((0:Nat):Int) from rfl,h0];refine tq ?_
 rfl
theorem Ph(O:List (List (List UInt8)))(h:Nat)(ls:List (List UInt8))(hO:O[h]?=some ls)(hOl:O.length<=10)(hm:∀ l∈ls,l.length<=1000000)(hn:ls.length<=1000):∀(k i:Nat) (acc:List (List UInt8)),ls.length=2*i+2*k->acc.length<=i ->
  Y E0 (.loop 223 1 0 2 [(3,.nm 0),(4,.i h),(5,.nm 1),(6,.i i)] [(0,some (.row 24 (.sl (.sl .u8)) O)),(1,some (.row 22 (.sl .u8) acc))])=some (.fin (.exit 2) 1 [(3,.nm 0),(4,.i h),(5,.sl (.sl .u8) (acc++Wp h i (ls.drop (2*i))))] [(0,some (.row 24 (.sl (.sl .u8)) O))])
 | k,i,acc,hi,ha=>by
  have hg:BO O (h:Int)=some ls:=by rw[OI];exact hO
  have hh:h<O.length:=(List.getElem?_eq_some_iff.1 hO).1
  by_cases hc:2*i+1<ls.length
  ·obtain⟨k,rfl⟩:∃ j,k=j+1:=⟨k-1,by omega⟩
   have h1:=hm _ (List.getElem_mem (l:=ls) (n:=2*i) zaa)
   have h2:=hm _ (List.getElem_mem (l:=ls) (n:=2*i+1) zaa)
   have ih:=Ph O h ls hO hOl hm hn k (i+1) (acc++[Lc h i ls[2*i] ls[2*i+1]]) zaa zaC
   rw[drop2 hc,Wp];rw[List.append_assoc,List.singleton_append] at ih
   rw[Ad];conv=>lhs;whnf
   rw[Gw zaa]
   conv=>lhs;whnf
   try dsimp -iota -beta -eta -zeta only
   rw[hg];refine to ?_;rw[hg]
   conv=>lhs;whnf
   rw[Gf zaa];rw[DZ zaa]
   conv=>lhs;whnf
   rw[Gw zaa]
   conv=>lhs;whnf
   try dsimp -iota -beta -eta -zeta only
   rw[hg]
   conv=>lhs;whnf
   rw[Gf zaa];rw[Au zaa];rw[DZ zaa]
   conv=>lhs;whnf
   try dsimp -iota -beta -eta -zeta only
   rw[AQ];rw[A0R _ _ _ _ A7 A7];refine tq ?_
   refine(congrArg (Y E0) ?_).trans ih;(try simp only[Rq.loop.injEq,Rq.call.injEq,Rq.ops.injEq,List.cons.injEq,Prod.mk.injEq,AV.i.injEq,AV.sl.injEq,AV.st.injEq,AV.b.injEq,AV.u8.injEq,AV.nm.injEq,Option.some.injEq,Rs.row.injEq,Rs.var.injEq,heq_eq_eq,true_and,and_true]);(try(repeat' apply And.intro));all_goals first|(with_reducible rfl)|omega|(rw[Au zaa];omega)|(rw[CY zaa];omega)|(rw[Ag];rfl)
  ·rw[VA _ _ _ zaU,List.append_nil]
   rw[Ad];conv=>lhs;whnf
   rw[Gw zaa]
   conv=>lhs;whnf
   try dsimp -iota -beta -eta -zeta only
   rw[hg];exact tq rfl
theorem QZ:∀(k h:Nat) (pre:List (List (List UInt8))) (cur:List (List UInt8)),k<=3->pre.length=h->h<=3->cur.length=2^k->(∀ l∈cur,l.length<=1000000)->h+k<=3->Y E0 (.loop 223 0 0 1 [(3,.nm 0),(4,.i h)] [(0,some (.row 24 (.sl (.sl .u8)) (pre++[cur])))])=some (.fin (.exit 0) 0 [(3,.sl (.sl (.sl .u8)) (pre++SK k h cur))] [])
 | 0,h,pre,cur,hk,hp,hh,hc,hm,hs=>by
  have hg:=dL pre cur h zaa
  have hpl:(pre++[cur]).length=h+1:=zaC
  rw[SK]
  refine to ?_;rw[hg];exact tq rfl
 | k+1,h,pre,cur,hk,hp,hh,hc,hm,hs=>by
  have hg:=dL pre cur h zaa
  have hpl:(pre++[cur]).length=h+1:=zaC
  have hc':cur.length=2*2^k:=by rw[hc,Nat.pow_succ];omega
  have hk1:1<=2^k:=Nat.one_le_two_pow
  have hk2:2^k<=4:=by
   have:=Nat.pow_le_pow_right (n:=2) zaa (show k<=2 by omega);simpa using this
  have h1:=Ph (pre++[cur]) h cur (by subst hp;simp) zaa hm zaa (2^k) 0 [] zaa zam
  have ih:=QZ k (h+1) (pre++[cur]) (Wp h 0 cur) zaa zaC zaa za8 (VB h _ 0 cur (Nat.le_refl _)) zaa
  rw[List.nil_append,Nat.mul_zero,List.drop_zero,show((0:Nat):Int)=0 from rfl] at h1;rw[SK];rw[show((h+1:Nat):Int)=(h:Int)+1 from by omega] at ih;simp only[List.append_assoc,List.cons_append,List.nil_append] at ih
  refine to ?_;rw[hg];refine tq ?_;rw[h1];refine tq ?_
  refine(congrArg (Y E0) ?_).trans ih;(try simp only[Rq.loop.injEq,Rq.call.injEq,Rq.ops.injEq,List.cons.injEq,Prod.mk.injEq,AV.i.injEq,AV.sl.injEq,AV.st.injEq,AV.b.injEq,AV.u8.injEq,AV.nm.injEq,Option.some.injEq,Rs.row.injEq,Rs.var.injEq,heq_eq_eq,true_and,and_true]);(try(repeat' apply And.intro));all_goals first|(with_reducible rfl)|omega|(rw[Au zaa];omega)|(rw[CY zaa];omega)|(rw[Ag,List.append_assoc];rfl)
theorem dW(k:Nat)(ls:List (List UInt8))(hk:k<=3)(hl:ls.length=2^k)(hm:∀ l∈ls,l.length<=1000000):Y E0 (.call 223 [.sl (.sl .u8) ls] [])=some (.ret (.sl (.sl (.sl .u8)) (SK k 0 ls)) []):=by
 have h0:=QZ k 0 [] ls hk rfl zaa hl hm zaa
 rw[List.nil_append,List.nil_append,show((0:Nat):Int)=0 from rfl] at h0;refine tq ?_;rw[h0];exact tq rfl
theorem A9K{n:Nat}(h:n<=3):(2:Int)^n<=8:=by
 have:=Nat.pow_le_pow_right (n:=2) zaa h
 exact_mod_cast this
theorem NK(p:List (List UInt8))(hm:∀ l∈p,l.length<=1000000)(hn:p.length<=1000):∀(k j:Nat) (i:Int) (x:List UInt8),j+k=p.length->0<=i/\i<=1000->x.length<=1000000 ->
  Y E0 (.loop 107 0 0 0 [(1,.i i),(2,.sl (.sl .u8) p),(7,.sl .u8 x),(8,.i j)] [])=some (.fin (.exit 0) 0 [(7,.sl .u8 (PD j i x (p.drop j)))] [])
 | 0,j,i,x,hj,hi,hx=>by
  rw[List.drop_eq_nil_of_le zaa,PD]
  exact tq rfl
 | k+1,j,i,x,hj,hi,hx=>by
  have h1:=hm _ (List.getElem_mem (l:=p) (n:=j) zaa)
  rw[List.drop_eq_getElem_cons zaa,PD]
  by_cases hc:i%2=1
  ·have ih:=NK p hm hn k (j+1) (i/2) (Lc j (i/2) p[j] x) zaa zaa (by have:=Ro j (i/2) p[j] x;omega)
   rw[show((j+1:Nat):Int)=(j:Int)+1 from by omega] at ih;rw[if_pos hc]
   refine tq ?_;rw[iq _ _ _ _ A7 A7];refine tq ?_
   refine(congrArg (Y E0) ?_).trans ih;rfl
  ·have ih:=NK p hm hn k (j+1) (i/2) (Lc j (i/2) x p[j]) zaa zaa (by have:=Ro j (i/2) x p[j];omega)
   rw[show((j+1:Nat):Int)=(j:Int)+1 from by omega] at ih;rw[if_neg hc]
   refine tq ?_;rw[iq _ _ _ _ A7 A7];refine tq ?_
   refine(congrArg (Y E0) ?_).trans ih;rfl
theorem A0S(p:List (List UInt8))(hl:l.length<=1000000)(hm:∀ l∈p,l.length<=1000000):Y E0 (.call 107 [.sl .u8 l,.i i,.sl (.sl .u8) p] [])=some (.ret (.sl .u8 (Jk l i p)) []):=by
 refine tq ?_
 rcases AZ 3 (↑p.length) with hc0|hc0
 ·refine tq ?_
  unfold Jk;(repeat(first|rw[if_pos zae]|rw[if_neg zae]));try simp only[NO]
 refine tq ?_
 rcases AZ i 0 with hc1|hc1
 ·refine tq ?_
  unfold Jk;(repeat(first|rw[if_pos zae]|rw[if_neg zae]));try simp only[NO]
 refine tq ?_;rw[BB,U3 zaa];refine tq ?_
 rcases DJ (2^p.length) i with hc2|hc2
 ·refine tq ?_
  unfold Jk;(repeat(first|rw[if_pos zae]|rw[if_neg zae]));try simp only[NO]
 refine tq ?_;rw[II _ A7];refine tq ?_
 have h8:=A9K (n:=p.length) zaa;have h0:=NK p hm zaa p.length 0 i l zaa zaa hl;rw[show((0:Nat):Int)=0 from rfl,List.drop_zero] at h0;rw[h0];refine tq ?_
 unfold Jk;(repeat(first|rw[if_pos zae]|rw[if_neg zae]));try simp only[NO]
theorem A3c(hm:∀ l∈ls,l.length<=1000000)(hn:ls.length<=1000):Y E0 (.call 214 [.sl (.sl .u8) ls] [])=some (.ret (.sl .u8 (Ld ls)) []):=by
 by_cases h:FK ls.length<0
 ·refine tq ?_;rw[Rz _];refine tq ?_
  unfold Ld;(repeat(first|rw[if_pos zae]|rw[if_neg zae]));try simp only[NO]
 ·obtain⟨k,hk,hk2,hk3⟩:=PE ls.length h
  have hlv:=dW k ls hk hk3 hm
  have hg:BO (SK k 0 ls) (k:Int)=some (Wq k 0 ls):=by rw[OI];exact Zd k 0 ls k (Nat.le_refl _)
  have hln:=VC k 0 ls 0 hk3
  have hx:=YG k 0 ls hm _ (List.getElem_mem (l:=Wq k 0 ls) (n:=0) zaa)
  refine tq ?_;rw[BB,Rz,hk2];refine tq ?_;rw[hlv];refine tq ?_;rw[hg];refine tq ?_;rw[DZ zaa];refine tq ?_
  unfold Ld;rw[hk2,if_neg zaa];simp[Ag,List.getD,hln]
theorem Sz:∀(k h:Nat) (ls:List (List UInt8)),k<=3->ls.length=2^k->(∀ l∈ls,l.length<=1000000)->h+k<=3->Y E0 (.loop 201 0 0 0 [(3,.sl (.sl .u8) ls),(4,.i h)] [])=some (.fin (.exit 0) 0 [(3,.sl (.sl .u8) (Wq k h ls))] [])
 | 0,h,ls,hk,hl,hm,hs=>by
  rw[Wq]
  exact tq rfl
 | k+1,h,ls,hk,hl,hm,hs=>by
  have hc':ls.length=2*2^k:=by rw[hl,Nat.pow_succ];omega
  have hk1:1<=2^k:=Nat.one_le_two_pow
  have hk2:2^k<=4:=by
   have:=Nat.pow_le_pow_right (n:=2) zaa (show k<=2 by omega);simpa using this
  have ih:=Sz k (h+1) (Wp h 0 ls) zaa za8 (VB h _ 0 ls (Nat.le_refl _)) zaa
  rw[show((h+1:Nat):Int)=(h:Int)+1 from by omega] at ih;rw[Wq]
  refine tq ?_;rw[A6L _ _ A7 A7];refine tq ?_
  refine(congrArg (Y E0) ?_).trans ih;rfl
theorem A3d(hm:∀ l∈ls,l.length<=1000000)(hn:ls.length<=1000):Y E0 (.call 201 [.sl (.sl .u8) ls] [])=some (.ret (.sl .u8 (Ld ls)) []):=by
 by_cases h:FK ls.length<0
 ·have hf:decide ((ls.length:Int)=1\/(ls.length:Int)=2\/(ls.length:Int)=4\/(ls.length:Int)=8)=false:=by
   unfold FK at h;rw[decide_eq_false_iff_not];repeat' split at h
   all_goals omega
  refine tq ?_;rw[BB,YN,hf];refine tq ?_
  unfold Ld;(repeat(first|rw[if_pos zae]|rw[if_neg zae]));try simp only[NO]
 ·obtain⟨k,hk,hk2,hk3⟩:=PE ls.length h
  have hf:decide ((ls.length:Int)=1\/(ls.length:Int)=2\/(ls.length:Int)=4\/(ls.length:Int)=8)=true:=by
   unfold FK at h;rw[decide_eq_true_iff];repeat' split at h
   all_goals omega
  have h0:=Sz k 0 ls hk hk3 hm zaa
  rw[show((0:Nat):Int)=0 from rfl] at h0
  have hln:=VC k 0 ls 0 hk3
  have hx:=YG k 0 ls hm _ (List.getElem_mem (l:=Wq k 0 ls) (n:=Int.toNat 0) (by rw[hln];decide))
  refine tq ?_;rw[BB,YN,hf];refine tq ?_;rw[h0];refine tq ?_;rw[DZ zaa];refine tq ?_;rw[II _ (Nat.le_trans hx zal)];refine tq ?_
  unfold Ld;rw[hk2,if_neg zaa];simp[List.getD,hln]
end
end Go.Proofs.YtnhgnfdbdflhcaaGreatDoor
