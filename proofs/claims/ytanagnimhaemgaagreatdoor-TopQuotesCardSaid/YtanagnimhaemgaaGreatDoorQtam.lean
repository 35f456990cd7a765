/-
  Own texts, laid together for this claim: contracts of functions of the program and its references, used by the statements of this seat.
-/
import Derived.Test.YtanagnimhaemgaaGreatDoorQtac
import Derived.Test.YtanagnimhaemgaaGreatDoorQtaf
import Derived.Test.YtanagnimhaemgaaGreatDoorQtai
import Derived.Test.YtanagnimhaemgaaGreatDoorQtak
set_option linter.all false
set_option maxHeartbeats 40000000
set_option maxRecDepth 100000
namespace Go.Proofs.YtanagnimhaemgaaGreatDoor
open Go Go.Ax Go.Eng
variable (i:Int)(ls:List (List UInt8))
section
attribute [local irreducible] Bl CQ CS Bo Bg Ar CU Dw EN Dy EC Bf BU Bv Bz and' C9 CB BK Au BA BL BN Aa Ad AP AZ CV Dq CW DI CE BP BM BF BG BB AU BC Ae Ap Ai CX BH Bh Ba BO CG CY CJ fits CZ CO A8 AA Ac
theorem zO(h i:Int)(l r:List UInt8)(hl:l.length<=1000000)(hr:r.length<=1000000):Y E0 (.call 333 [.i h,.i i,.sl .u8 l,.sl .u8 r] [])=some (.ret (.sl .u8 (L8 h i l r)) []):=by
 refine tq ?_;rw[Eu _ _ (by rw[Xx];simp;omega) zak]
 refine tq ?_;simp only[Dh];rfl
theorem wX(h i:Int)(l r:List UInt8)(hl:l.length<=1000000)(hr:r.length<=1000000):Y E0 (.call 143 [.i h,.i i,.sl .u8 l,.sl .u8 r] [])=some (.ret (.sl .u8 (L8 h i l r)) []):=by
 refine tq ?_;rw[HY _ _ (by rw[Xx];simp;omega) zak]
 refine tq ?_;simp only[Dh];rfl
theorem PS(n:Int):Y E0 (.loop 358 0 0 0 [(0,.i n),(3,.i 0)] [])=(if GH n<0 then some (.fin (.exit 0) 0 [] []) else some (.fin .ret 0 [(2,.i (GH n))] [])):=by
 unfold GH
 refine tq ?_;rw[show Bf 1 (BP 0).toNat=1 from ZT zad];refine tq ?_
 rcases FK n 1 with hc0|hc0
 ·subst hc0;refine tq ?_
  simp[*]
 refine tq ?_;refine tq ?_;rw[show Bf 1 (BP (0+1)).toNat=2 from ZT zad];refine tq ?_
 rcases FK n 2 with hc1|hc1
 ·subst hc1;refine tq ?_
  simp[*]
 refine tq ?_;refine tq ?_;rw[show Bf 1 (BP (0+1+1)).toNat=4 from ZT zad];refine tq ?_
 rcases FK n 4 with hc2|hc2
 ·subst hc2;refine tq ?_
  simp[*]
 refine tq ?_;refine tq ?_;rw[show Bf 1 (BP (0+1+1+1)).toNat=8 from ZT zad];refine tq ?_
 rcases FK n 8 with hc3|hc3
 ·subst hc3;refine tq ?_
  simp[*]
 refine tq ?_;refine tq ?_
 simp[*]
theorem QR(n:Int):Y E0 (.call 358 [.i n] [])=some (.ret (.i (GH n)) []):=by
 by_cases h:GH n<0
 ·have h1:GH n = -1:=by(unfold GH at *;(repeat' split at h)<;>first|omega|simp[*])
  refine tq ?_;rw[PS,if_pos h];refine tq ?_;rw[h1]
 ·refine tq ?_;rw[PS,if_neg h];exact tq rfl
theorem Oe(O:List (List (List UInt8)))(h:Nat)(ls:List (List UInt8))(hO:O[h]?=some ls)(hOl:O.length<=10)(hm:∀ l∈ls,l.length<=1000000)(hn:ls.length<=1000):∀(k i:Nat) (acc:List (List UInt8)),ls.length=2*i+2*k->acc.length<=i ->
  Y E0 (.loop 359 1 0 2 [(3,.nm 0),(4,.i h),(5,.nm 1),(6,.i i)] [(0,some (.row 24 (.sl (.sl .u8)) O)),(1,some (.row 22 (.sl .u8) acc))])=some (.fin (.exit 2) 1 [(3,.nm 0),(4,.i h),(5,.sl (.sl .u8) (acc++Yg h i (ls.drop (2*i))))] [(0,some (.row 24 (.sl (.sl .u8)) O))])
 | k,i,acc,hi,ha=>by
  have hg:Ai O (h:Int)=some ls:=by rw[DD];exact hO
  have hh:h<O.length:=(List.getElem?_eq_some_iff.1 hO).1
  by_cases hc:2*i+1<ls.length
  ·obtain⟨k,rfl⟩:∃ j,k=j+1:=⟨k-1,by omega⟩
   have h1:=hm _ (List.getElem_mem (l:=ls) (n:=2*i) zaa)
   have h2:=hm _ (List.getElem_mem (l:=ls) (n:=2*i+1) zaa)
   have ih:=Oe O h ls hO hOl hm hn k (i+1) (acc++[L8 h i ls[2*i] ls[2*i+1]]) zaa zat
   rw[drop2 hc,Yg];rw[List.append_assoc,List.singleton_append] at ih
   rw[AO];conv=>lhs;whnf
   rw[GL zaa]
   conv=>lhs;whnf
   try dsimp -iota -beta -eta -zeta only
   rw[hg];refine to ?_;rw[hg]
   conv=>lhs;whnf
   rw[JA zaa];rw[D8 zaa]
   conv=>lhs;whnf
   rw[GL zaa]
   conv=>lhs;whnf
   try dsimp -iota -beta -eta -zeta only
   rw[hg]
   conv=>lhs;whnf
   rw[JA zaa];rw[Bc zaa];rw[D8 zaa]
   conv=>lhs;whnf
   try dsimp -iota -beta -eta -zeta only
   rw[Ak];rw[zO _ _ _ _ Aq Aq];refine tq ?_
   refine(congrArg (Y E0) ?_).trans ih;(try simp only[Rq.loop.injEq,Rq.call.injEq,Rq.ops.injEq,List.cons.injEq,Prod.mk.injEq,AV.i.injEq,AV.sl.injEq,AV.st.injEq,AV.b.injEq,AV.u8.injEq,AV.nm.injEq,Option.some.injEq,Rs.row.injEq,Rs.var.injEq,heq_eq_eq,true_and,and_true]);(try(repeat' apply And.intro));all_goals first|(with_reducible rfl)|omega|(rw[Bc zaa];omega)|(rw[DU zaa];omega)|(rw[Am];rfl)
  ·rw[WV _ _ _ zaI,List.append_nil]
   rw[AO];conv=>lhs;whnf
   rw[GL zaa]
   conv=>lhs;whnf
   try dsimp -iota -beta -eta -zeta only
   rw[hg];exact tq rfl
theorem PT:∀(k h:Nat) (pre:List (List (List UInt8))) (cur:List (List UInt8)),k<=3->pre.length=h->h<=3->cur.length=2^k->(∀ l∈cur,l.length<=1000000)->h+k<=3->Y E0 (.loop 359 0 0 1 [(3,.nm 0),(4,.i h)] [(0,some (.row 24 (.sl (.sl .u8)) (pre++[cur])))])=some (.fin (.exit 0) 0 [(3,.sl (.sl (.sl .u8)) (pre++QZ k h cur))] [])
 | 0,h,pre,cur,hk,hp,hh,hc,hm,hs=>by
  have hg:=Zl pre cur h zaa
  have hpl:(pre++[cur]).length=h+1:=zat
  rw[QZ]
  refine to ?_;rw[hg];exact tq rfl
 | k+1,h,pre,cur,hk,hp,hh,hc,hm,hs=>by
  have hg:=Zl pre cur h zaa
  have hpl:(pre++[cur]).length=h+1:=zat
  have hc':cur.length=2*2^k:=by rw[hc,Nat.pow_succ];omega
  have hk1:1<=2^k:=Nat.one_le_two_pow
  have hk2:2^k<=4:=by
   have:=Nat.pow_le_pow_right (n:=2) zaa (show k<=2 by omega);simpa using this
  have h1:=Oe (pre++[cur]) h cur (by subst hp;simp) zaa hm zaa (2^k) 0 [] zaa zak
  have ih:=PT k (h+1) (pre++[cur]) (Yg h 0 cur) zaa zat zaa (by rw[Td _ _ _ _ (Nat.le_refl _)];omega) (dm h _ 0 cur (Nat.le_refl _)) zaa
  rw[List.nil_append,Nat.mul_zero,List.drop_zero,show((0:Nat):Int)=0 from rfl] at h1;rw[QZ];rw[show((h+1:Nat):Int)=(h:Int)+1 from by omega] at ih;simp only[List.append_assoc,List.cons_append,List.nil_append] at ih
  refine to ?_;rw[hg];refine tq ?_;rw[h1];refine tq ?_
  refine(congrArg (Y E0) ?_).trans ih;(try simp only[Rq.loop.injEq,Rq.call.injEq,Rq.ops.injEq,List.cons.injEq,Prod.mk.injEq,AV.i.injEq,AV.sl.injEq,AV.st.injEq,AV.b.injEq,AV.u8.injEq,AV.nm.injEq,Option.some.injEq,Rs.row.injEq,Rs.var.injEq,heq_eq_eq,true_and,and_true]);(try(repeat' apply And.intro));all_goals first|(with_reducible rfl)|omega|(rw[Bc zaa];omega)|(rw[DU zaa];omega)|(rw[Am,List.append_assoc];rfl)
theorem Zu(k:Nat)(ls:List (List UInt8))(hk:k<=3)(hl:ls.length=2^k)(hm:∀ l∈ls,l.length<=1000000):Y E0 (.call 359 [.sl (.sl .u8) ls] [])=some (.ret (.sl (.sl (.sl .u8)) (QZ k 0 ls)) []):=by
 have h0:=PT k 0 [] ls hk rfl zaa hl hm zaa
 rw[List.nil_append,List.nil_append,show((0:Nat):Int)=0 from rfl] at h0;refine tq ?_;rw[h0];exact tq rfl
theorem ACE{n:Nat}(h:n<=3):(2:Int)^n<=8:=by
 have:=Nat.pow_le_pow_right (n:=2) zaa h
 exact_mod_cast this
theorem MF(p:List (List UInt8))(hm:∀ l∈p,l.length<=1000000)(hn:p.length<=1000):∀(k j:Nat) (i:Int) (x:List UInt8),j+k=p.length->0<=i/\i<=1000->x.length<=1000000 ->
  Y E0 (.loop 105 0 0 0 [(1,.i i),(2,.sl (.sl .u8) p),(7,.sl .u8 x),(8,.i j)] [])=some (.fin (.exit 0) 0 [(7,.sl .u8 (OT j i x (p.drop j)))] [])
 | 0,j,i,x,hj,hi,hx=>by
  rw[List.drop_eq_nil_of_le zaa,OT]
  exact tq rfl
 | k+1,j,i,x,hj,hi,hx=>by
  have h1:=hm _ (List.getElem_mem (l:=p) (n:=j) zaa)
  rw[List.drop_eq_getElem_cons zaa,OT]
  by_cases hc:i%2=1
  ·have ih:=MF p hm hn k (j+1) (i/2) (L8 j (i/2) p[j] x) zaa zaa (by have:=QO j (i/2) p[j] x;omega)
   rw[show((j+1:Nat):Int)=(j:Int)+1 from by omega] at ih;rw[if_pos hc]
   refine tq ?_;rw[wX _ _ _ _ Aq Aq];refine tq ?_
   refine(congrArg (Y E0) ?_).trans ih;rfl
  ·have ih:=MF p hm hn k (j+1) (i/2) (L8 j (i/2) x p[j]) zaa zaa (by have:=QO j (i/2) x p[j];omega)
   rw[show((j+1:Nat):Int)=(j:Int)+1 from by omega] at ih;rw[if_neg hc]
   refine tq ?_;rw[wX _ _ _ _ Aq Aq];refine tq ?_
   refine(congrArg (Y E0) ?_).trans ih;rfl
theorem zQ(l:List UInt8)(p:List (List UInt8))(hl:l.length<=1000000)(hm:∀ l∈p,l.length<=1000000):Y E0 (.call 105 [.sl .u8 l,.i i,.sl (.sl .u8) p] [])=some (.ret (.sl .u8 (JG l i p)) []):=by
 refine tq ?_
 rcases D7 3 (↑p.length) with hc0|hc0
 ·refine tq ?_
  unfold JG;(repeat(first|rw[if_pos zah]|rw[if_neg zah]));try simp only[NO]
 refine tq ?_
 rcases D7 i 0 with hc1|hc1
 ·refine tq ?_
  unfold JG;(repeat(first|rw[if_pos zah]|rw[if_neg zah]));try simp only[NO]
 refine tq ?_;rw[AC,dY zaa];refine tq ?_
 rcases ZV (2^p.length) i with hc2|hc2
 ·refine tq ?_
  unfold JG;(repeat(first|rw[if_pos zah]|rw[if_neg zah]));try simp only[NO]
 refine tq ?_;rw[WT _ Aq];refine tq ?_
 have h8:=ACE (n:=p.length) zaa;have h0:=MF p hm zaa p.length 0 i l zaa zaa hl;rw[show((0:Nat):Int)=0 from rfl,List.drop_zero] at h0;rw[h0];refine tq ?_
 unfold JG;(repeat(first|rw[if_pos zah]|rw[if_neg zah]));try simp only[NO]
theorem A3G(hm:∀ l∈ls,l.length<=1000000)(hn:ls.length<=1000):Y E0 (.call 352 [.sl (.sl .u8) ls] [])=some (.ret (.sl .u8 (Me ls)) []):=by
 by_cases h:GH ls.length<0
 ·refine tq ?_;rw[QR _];refine tq ?_
  unfold Me;(repeat(first|rw[if_pos zah]|rw[if_neg zah]));try simp only[NO]
 ·obtain⟨k,hk,hk2,hk3⟩:=YB ls.length h
  have hlv:=Zu k ls hk hk3 hm
  have hg:Ai (QZ k 0 ls) (k:Int)=some (Xy k 0 ls):=by rw[DD];exact Y0 k 0 ls k (Nat.le_refl _)
  have hln:=WW k 0 ls 0 hk3
  have hx:=dn k 0 ls hm _ (List.getElem_mem (l:=Xy k 0 ls) (n:=0) zaa)
  refine tq ?_;rw[AC,QR,hk2];refine tq ?_;rw[hlv];refine tq ?_;rw[hg];refine tq ?_;rw[D8 zaa];refine tq ?_
  unfold Me;rw[hk2,if_neg zaa];simp[Am,List.getD,hln]
end
section
attribute [local irreducible] Bl CQ CS Bo Bg Ar CU Dw EN Dy EC Bf BU Bv Bz and' C9 CB BK Au BA BL BN Aa Ad AP AZ CV Dq CW DI CE BP BM BF BG BB AU BC Ae Ap Ai CX BH Bh Ba BO CG CY CJ fits CZ CO A8 AA Ac
theorem Qj(ls:List (List UInt8))(k:Nat)(hk:k<=3)(hl:ls.length=2^k)(hm:∀ l∈ls,l.length<=1000000)(i:Int)(hi:0<=i/\i<ls.length):∀(n j:Nat) (acc:List (List UInt8)),j+n=k->acc.length<=j ->
  Y E0 (.loop 344 0 0 1 [(0,.i i),(6,.nm 0),(27,.sl (.sl (.sl .u8)) ((QZ k 0 ls).take k)),(28,.i k),(29,.i j)] [(0,some (.row 22 (.sl .u8) acc))])=some (.fin (.exit 0) 0 [(6,.sl (.sl .u8) (acc++Ns n j (i/2^j) (Xy j 0 ls)))] [])
 | 0,j,acc,hj,ha=>by
  rw[Ns,List.append_nil]
  rw[AO];conv=>lhs;whnf
  rw[Gz zaa]
  conv=>lhs;whnf
 | n+1,j,acc,hj,ha=>by
  have hun:=WW j 0 ls (n+1) (by rw[hl,<-hj])
  have hn2:2^(n+1)=2*2^n:=by rw[Nat.pow_succ];omega
  have hn1:1<=2^n:=Nat.one_le_two_pow
  have hn8:2^(n+1)<=8:=by
   have:=Nat.pow_le_pow_right (n:=2) zaa (show n+1<=3 by omega);simpa using this
  have hij:0<=i/2^j/\i/2^j<((2^(n+1):Nat):Int):=by
   refine⟨Int.ediv_nonneg hi.1 (Int.pow_nonneg zaa),Int.ediv_lt_of_lt_mul (Int.pow_pos zaa) ?_⟩
   have:(ls.length:Int)=((2^(n+1):Nat):Int)*2^j:=by rw[hl,<-hj,Nat.add_comm,Nat.pow_add];simp
   omega
  have hdd:i/2^(j+1)=i/2^j/2:=by rw[Int.pow_succ,Int.ediv_ediv_of_nonneg (Int.pow_nonneg zaa)]
  have hsh:BU i (BP (j:Int)).toNat=i/2^j:=by rw[Ip,LP zaa,Hf zaa];simp
  have hus:=Xz j 0 ls
  rw[Int.zero_add] at hus
  have hg:Ai ((QZ k 0 ls).take k) (j:Int)=some (Xy j 0 ls):=by rw[DD,List.getElem?_take_of_lt zaa];exact Y0 k 0 ls j zaa
  have hllen:((QZ k 0 ls).take k).length=k:=by rw[List.length_take,YA];omega
  have ih:=Qj ls k hk hl hm i hi n (j+1) (acc++[(Xy j 0 ls).getD (wM (i/2^j)).toNat []]) zaa zat
  rw[hdd,hus,show((j+1:Nat):Int)=(j:Int)+1 from by omega] at ih
  simp only[List.append_assoc,List.cons_append,List.nil_append] at ih
  have hmu:=dn j 0 ls hm
  generalize i/2^j=z at *
  generalize Xy j 0 ls=us at *
  have hx:=A62 (i:=z) zaa
  have hsb:0<=wM z/\wM z<us.length:=by unfold wM;split<;>omega
  have hx1:=hmu _ (List.getElem_mem (l:=us) (n:=(wM z).toNat) zaa)
  have hgd:us.getD (wM z).toNat []=us[(wM z).toNat]'zaa:=by simp[List.getD,show(wM z).toNat<us.length by omega]
  rw[Ns,hgd]
  rw[hgd] at ih
  rw[AO];conv=>lhs;whnf
  rw[Dp zaa]
  conv=>lhs;whnf
  rw[hg];conv=>lhs;whnf
  rw[hsh,hx];conv=>lhs;whnf
  rw[D8 zaa]
  conv=>lhs;whnf
  rw[Dx zaa]
  conv=>lhs;whnf
  rw[Dx (by(simp only[A7,LL] at *<;>omega))]
  conv=>lhs;whnf
  rw[Bc zaa]
  refine(congrArg (Y E0) ?_).trans ih;(try simp only[Rq.loop.injEq,Rq.call.injEq,Rq.ops.injEq,List.cons.injEq,Prod.mk.injEq,AV.i.injEq,AV.sl.injEq,AV.st.injEq,AV.b.injEq,AV.u8.injEq,AV.nm.injEq,Option.some.injEq,Rs.row.injEq,Rs.var.injEq,heq_eq_eq,true_and,and_true]);(try(repeat' apply And.intro));all_goals first|(with_reducible rfl)|omega|(rw[Bc zaa];omega)|(rw[DU zaa];omega)|(simp only[Am,List.nil_append])
theorem A3H(hm:∀ l∈ls,l.length<=1000000)(hn:ls.length<=1000):Y E0 (.call 344 [.i i,.sl (.sl .u8) ls] [])=some (.ret (.sl (.sl .u8) (Ji i ls)) []):=by
 by_cases h:GH ls.length<0
 ·rw[AO];conv=>lhs;whnf
  rw[Ak]
  rw[AC,QR]
  conv=>lhs;whnf
  rw[Dp zaa]
  conv=>lhs;whnf
  unfold Ji;(repeat(first|rw[if_pos zah]|rw[if_neg zah]));try simp only[NO]
 ·obtain⟨k,hk,hk2,hk3⟩:=YB ls.length h
  have hlv:=Zu k ls hk hk3 hm
  have hll:=YA k 0 ls
  have hc:Bh (QZ k 0 ls) 0 (k:Int)=some ((QZ k 0 ls).take k):=by rw[PE zaa];simp
  have hlt:Ap ((QZ k 0 ls).take k)=(k:Int):=by rw[AC,List.length_take,hll];omega
  rw[AO];conv=>lhs;whnf
  rw[Ak]
  rw[AC,QR,hk2]
  conv=>lhs;whnf
  rw[Gz zaa]
  conv=>lhs;whnf
  rcases Bool.eq_false_or_eq_true (Dy i 0) with hc0|hc0
  ·rw[hc0];replace hc0:=J7 hc0;try simp only[AC] at hc0
   conv=>lhs;whnf
   unfold Ji;rw[hk2];(repeat(first|rw[if_pos zah]|rw[if_neg zah]));try rfl
  ·rw[hc0];replace hc0:=J8 hc0;try simp only[AC] at hc0
   conv=>lhs;whnf
   rcases Bool.eq_false_or_eq_true (EC (Ap ls) i) with hc1|hc1
   ·rw[hc1];replace hc1:=A24 hc1;try simp only[AC] at hc1
    conv=>lhs;whnf
    unfold Ji;rw[hk2];(repeat(first|rw[if_pos zah]|rw[if_neg zah]));try rfl
   ·rw[hc1];replace hc1:=A25 hc1;try simp only[AC] at hc1
    conv=>lhs;whnf
    rw[Ak]
    rw[hlv]
    conv=>lhs;whnf
    rw[hc];conv=>lhs;whnf
    rw[EQ]
    have h0:=Qj ls k hk hk3 hm i zaa k 0 [] zaa zak;rw[show((0:Nat):Int)=0 from rfl,Int.pow_zero,Int.ediv_one,Xy,List.nil_append] at h0;rw[hlt,h0]
    conv=>lhs;whnf
    unfold Ji;rw[hk2];(repeat(first|rw[if_pos zah]|rw[if_neg zah]));try rfl
end
end Go.Proofs.YtanagnimhaemgaaGreatDoor
