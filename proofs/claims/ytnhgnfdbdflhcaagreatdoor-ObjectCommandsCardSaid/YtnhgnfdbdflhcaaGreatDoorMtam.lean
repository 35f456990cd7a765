/-
  Own texts, laid together for this claim: contracts of functions of the program and its references, used by the statements of this seat.
-/
import Derived.Test.YtnhgnfdbdflhcaaGreatDoorMtab
import Derived.Test.YtnhgnfdbdflhcaaGreatDoorMtad
import Derived.Test.YtnhgnfdbdflhcaaGreatDoorMtah
import Derived.Test.YtnhgnfdbdflhcaaGreatDoorMtal
set_option linter.all false
set_option maxHeartbeats 40000000
set_option maxRecDepth 100000
namespace Go.Proofs.YtnhgnfdbdflhcaaGreatDoor
open Go Go.Ax Go.Eng
section
attribute [local irreducible] Cc Dn D7 DU DD BA Dp F7 FY FD Ez Ci CS DK DV and' DW DL C9 BR Bh CB CG BG BI Aw BC Dq Fh Dt ER DX Bl CE Bv Bz Bi Az Bg BK Bj BO Du Bc DF BZ BM Cj Di fits Dv Dk Ac Am BH
theorem TA(ls:List (List UInt8))(k:Nat)(hk:k<=3)(hl:ls.length=2^k)(hm:∀ l∈ls,l.length<=1000000)(i:Int)(hi:0<=i/\i<ls.length):∀(n j:Nat) (acc:List (List UInt8)),j+n=k->acc.length<=j ->
  Y E0 (.loop 170 0 0 1 [(0,.i i),(6,.nm 0),(27,.sl (.sl (.sl .u8)) ((SK k 0 ls).take k)),(28,.i k),(29,.i j)] [(0,some (.row 22 (.sl .u8) acc))])=some (.fin (.exit 0) 0 [(6,.sl (.sl .u8) (acc++MC n j (i/2^j) (Wq j 0 ls)))] [])
 | 0,j,acc,hj,ha=>by
  rw[MC,List.append_nil]
  rw[Ad];conv=>lhs;whnf
  rw[GL zaa]
  conv=>lhs;whnf
 | n+1,j,acc,hj,ha=>by
  have hun:=VC j 0 ls (n+1) (by rw[hl,<-hj])
  have hn2:2^(n+1)=2*2^n:=by rw[Nat.pow_succ];omega
  have hn1:1<=2^n:=Nat.one_le_two_pow
  have hn8:2^(n+1)<=8:=by
   have:=Nat.pow_le_pow_right (n:=2) zaa (show n+1<=3 by omega);simpa using this
  have hij:0<=i/2^j/\i/2^j<((2^(n+1):Nat):Int):=by
   refine⟨Int.ediv_nonneg hi.1 (Int.pow_nonneg zaa),Int.ediv_lt_of_lt_mul (Int.pow_pos zaa) ?_⟩
   have:(ls.length:Int)=((2^(n+1):Nat):Int)*2^j:=by rw[hl,<-hj,Nat.add_comm,Nat.pow_add];simp
   omega
  have hdd:i/2^(j+1)=i/2^j/2:=by rw[Int.pow_succ,Int.ediv_ediv_of_nonneg (Int.pow_nonneg zaa)]
  have hsh:CS i (Bl (j:Int)).toNat=i/2^j:=by rw[MH,KX zaa,Ik zaa];simp
  have hus:=Zc j 0 ls
  rw[Int.zero_add] at hus
  have hg:BO ((SK k 0 ls).take k) (j:Int)=some (Wq j 0 ls):=by rw[OI,List.getElem?_take_of_lt zaa];exact Zd k 0 ls j zaa
  have hllen:((SK k 0 ls).take k).length=k:=by rw[List.length_take,Ze];omega
  have ih:=TA ls k hk hl hm i hi n (j+1) (acc++[(Wq j 0 ls).getD (ah (i/2^j)).toNat []]) zaa zaC
  rw[hdd,hus,show((j+1:Nat):Int)=(j:Int)+1 from by omega] at ih
  simp only[List.append_assoc,List.cons_append,List.nil_append] at ih
  have hmu:=YG j 0 ls hm
  generalize i/2^j=z at *
  generalize Wq j 0 ls=us at *
  have hx:=yV (i:=z) zaa
  have hsb:0<=ah z/\ah z<us.length:=by unfold ah;split<;>omega
  have hx1:=hmu _ (List.getElem_mem (l:=us) (n:=(ah z).toNat) zaa)
  have hgd:us.getD (ah z).toNat []=us[(ah z).toNat]'zaa:=by simp[List.getD,show(ah z).toNat<us.length by omega]
  rw[MC,hgd]
  rw[hgd] at ih
  rw[Ad];conv=>lhs;whnf
  rw[EZ zaa]
  conv=>lhs;whnf
  rw[hg];conv=>lhs;whnf
  rw[hsh,hx];conv=>lhs;whnf
  rw[DZ zaa]
  conv=>lhs;whnf
  rw[Dy zaa]
  conv=>lhs;whnf
  rw[Dy zbj]
  conv=>lhs;whnf
  rw[Au zaa]
  refine(congrArg (Y E0) ?_).trans ih;(try simp only[Rq.loop.injEq,Rq.call.injEq,Rq.ops.injEq,List.cons.injEq,Prod.mk.injEq,AV.i.injEq,AV.sl.injEq,AV.st.injEq,AV.b.injEq,AV.u8.injEq,AV.nm.injEq,Option.some.injEq,Rs.row.injEq,Rs.var.injEq,heq_eq_eq,true_and,and_true]);(try(repeat' apply And.intro));all_goals first|(with_reducible rfl)|omega|(rw[Au zaa];omega)|(rw[CY zaa];omega)|(simp only[Ag,List.nil_append])
theorem A3e(i:Int)(ls:List (List UInt8))(hm:∀ l∈ls,l.length<=1000000)(hn:ls.length<=1000):Y E0 (.call 170 [.i i,.sl (.sl .u8) ls] [])=some (.ret (.sl (.sl .u8) (Io i ls)) []):=by
 by_cases h:FK ls.length<0
 ·rw[Ad];conv=>lhs;whnf
  rw[AQ]
  rw[BB,Rz]
  conv=>lhs;whnf
  rw[EZ zaa]
  conv=>lhs;whnf
  unfold Io;(repeat(first|rw[if_pos zae]|rw[if_neg zae]));try simp only[NO]
 ·obtain⟨k,hk,hk2,hk3⟩:=PE ls.length h
  have hlv:=dW k ls hk hk3 hm
  have hll:=Ze k 0 ls
  have hc:DF (SK k 0 ls) 0 (k:Int)=some ((SK k 0 ls).take k):=by rw[NF zaa];simp
  have hlt:Bj ((SK k 0 ls).take k)=(k:Int):=by rw[BB,List.length_take,hll];omega
  rw[Ad];conv=>lhs;whnf
  rw[AQ]
  rw[BB,Rz,hk2]
  conv=>lhs;whnf
  rw[GL zaa]
  conv=>lhs;whnf
  rcases Bool.eq_false_or_eq_true (FD i 0) with hc0|hc0
  ·rw[hc0];replace hc0:=JQ hc0;try simp only[BB] at hc0
   conv=>lhs;whnf
   unfold Io;rw[hk2];(repeat(first|rw[if_pos zae]|rw[if_neg zae]));try rfl
  ·rw[hc0];replace hc0:=JR hc0;try simp only[BB] at hc0
   conv=>lhs;whnf
   rcases Bool.eq_false_or_eq_true (Ez (Bj ls) i) with hc1|hc1
   ·rw[hc1];replace hc1:=lW hc1;try simp only[BB] at hc1
    conv=>lhs;whnf
    unfold Io;rw[hk2];(repeat(first|rw[if_pos zae]|rw[if_neg zae]));try rfl
   ·rw[hc1];replace hc1:=lX hc1;try simp only[BB] at hc1
    conv=>lhs;whnf
    rw[AQ]
    rw[hlv]
    conv=>lhs;whnf
    rw[hc];conv=>lhs;whnf
    rw[Ee]
    have h0:=TA ls k hk hk3 hm i zaa k 0 [] zaa zam;rw[show((0:Nat):Int)=0 from rfl,Int.pow_zero,Int.ediv_one,Wq,List.nil_append] at h0;rw[hlt,h0]
    conv=>lhs;whnf
    unfold Io;rw[hk2];(repeat(first|rw[if_pos zae]|rw[if_neg zae]));try rfl
theorem TB:∀(k h:Nat) (i:Int) (ls acc:List (List UInt8)),k<=3->ls.length=2^k->(∀ l∈ls,l.length<=1000000)->h+k<=3->0<=i/\i<ls.length->acc.length<=h ->
  Y E0 (.loop 179 0 0 1 [(0,.i i),(5,.nm 0),(6,.sl (.sl .u8) ls),(7,.i h)] [(0,some (.row 22 (.sl .u8) acc))])=some (.fin (.exit 0) 0 [(5,.sl (.sl .u8) (acc++MC k h i ls))] [])
 | 0,h,i,ls,acc,hk,hl,hm,hs,hi,ha=>by
  rw[MC,List.append_nil]
  rw[Ad];conv=>lhs;whnf
  rw[GL zbj]
  conv=>lhs;whnf
 | k+1,h,i,ls,acc,hk,hl,hm,hs,hi,ha=>by
  have hc':ls.length=2*2^k:=by rw[hl,Nat.pow_succ];omega
  have hk1:1<=2^k:=Nat.one_le_two_pow
  have hk2:2^k<=4:=by
   have:=Nat.pow_le_pow_right (n:=2) zaa (show k<=2 by omega);simpa using this
  have hx:=yV (i:=i) zaa
  have hsb:0<=ah i/\ah i<ls.length:=by unfold ah;split<;>omega
  have hx1:=hm _ (List.getElem_mem (l:=ls) (n:=(ah i).toNat) zaa)
  have hgd:ls.getD (ah i).toNat []=ls[(ah i).toNat]'zaa:=by simp[List.getD,show(ah i).toNat<ls.length by omega]
  have ih:=TB k (h+1) (i/2) (Wp h 0 ls) (acc++[ls.getD (ah i).toNat []]) zaa za8 (VB h _ 0 ls (Nat.le_refl _)) zaa za8 zaC
  rw[show((h+1:Nat):Int)=(h:Int)+1 from by omega] at ih
  simp only[List.append_assoc,List.cons_append,List.nil_append] at ih
  rw[MC,hgd]
  rw[hgd] at ih
  rw[Ad];conv=>lhs;whnf
  rw[EZ zbj]
  conv=>lhs;whnf
  rw[hx];conv=>lhs;whnf
  rw[DZ zaa]
  conv=>lhs;whnf
  rw[AQ]
  rw[II _ zaa]
  conv=>lhs;whnf
  rw[Dy zbj]
  conv=>lhs;whnf
  rw[AQ]
  rw[A6L _ _ zaa zaa]
  conv=>lhs;whnf
  rw[AA zaa]
  conv=>lhs;whnf
  rw[FC zaa]
  rw[Au zaa]
  refine(congrArg (Y E0) ?_).trans ih;(try simp only[Rq.loop.injEq,Rq.call.injEq,Rq.ops.injEq,List.cons.injEq,Prod.mk.injEq,AV.i.injEq,AV.sl.injEq,AV.st.injEq,AV.b.injEq,AV.u8.injEq,AV.nm.injEq,Option.some.injEq,Rs.row.injEq,Rs.var.injEq,heq_eq_eq,true_and,and_true]);(try(repeat' apply And.intro));all_goals first|(with_reducible rfl)|omega|(rw[Au zaa];omega)|(rw[CY zaa];omega)|(rw[Ag])
theorem A3f(i:Int)(ls:List (List UInt8))(hm:∀ l∈ls,l.length<=1000000)(hn:ls.length<=1000):Y E0 (.call 179 [.i i,.sl (.sl .u8) ls] [])=some (.ret (.sl (.sl .u8) (Io i ls)) []):=by
 by_cases h:FK ls.length<0
 ·have hf:decide ((ls.length:Int)=1\/(ls.length:Int)=2\/(ls.length:Int)=4\/(ls.length:Int)=8)=false:=by
   unfold FK at h;rw[decide_eq_false_iff_not];repeat' split at h
   all_goals omega
  rw[Ad];conv=>lhs;whnf
  rw[AQ]
  rw[BB,YN,hf]
  conv=>lhs;whnf
  rw[DT];conv=>lhs;whnf
  unfold Io;(repeat(first|rw[if_pos zae]|rw[if_neg zae]));try simp only[NO]
 ·obtain⟨k,hk,hk2,hk3⟩:=PE ls.length h
  have hf:decide ((ls.length:Int)=1\/(ls.length:Int)=2\/(ls.length:Int)=4\/(ls.length:Int)=8)=true:=by
   unfold FK at h;rw[decide_eq_true_iff];repeat' split at h
   all_goals omega
  rw[Ad];conv=>lhs;whnf
  rw[AQ]
  rw[BB,YN,hf]
  conv=>lhs;whnf
  rw[DT];conv=>lhs;whnf
  rcases Bool.eq_false_or_eq_true (FD i 0) with hc0|hc0
  ·rw[hc0];replace hc0:=JQ hc0;try simp only[BB] at hc0
   conv=>lhs;whnf
   unfold Io;rw[hk2];(repeat(first|rw[if_pos zae]|rw[if_neg zae]));try rfl
  ·rw[hc0];replace hc0:=JR hc0;try simp only[BB] at hc0
   conv=>lhs;whnf
   rcases Bool.eq_false_or_eq_true (Ez (Bj ls) i) with hc1|hc1
   ·rw[hc1];replace hc1:=lW hc1;try simp only[BB] at hc1
    conv=>lhs;whnf
    unfold Io;rw[hk2];(repeat(first|rw[if_pos zae]|rw[if_neg zae]));try rfl
   ·rw[hc1];replace hc1:=lX hc1;try simp only[BB] at hc1
    conv=>lhs;whnf
    rw[Ee]
    have h0:=TB k 0 i ls [] hk hk3 hm zaa zaa zam;rw[show((0:Nat):Int)=0 from rfl,List.nil_append] at h0;rw[h0]
    conv=>lhs;whnf
    unfold Io;rw[hk2];(repeat(first|rw[if_pos zae]|rw[if_neg zae]));try rfl
end
end Go.Proofs.YtnhgnfdbdflhcaaGreatDoor
