/-
  Own texts, laid together for this claim: contracts of functions of the program and its references, used by the statements of this seat.
-/
import Derived.Test.YtnhgnfdbdflhcaaGreatDoorMtab
import Derived.Test.YtnhgnfdbdflhcaaGreatDoorMtad
import Derived.Test.YtnhgnfdbdflhcaaGreatDoorMtae
import Derived.Test.YtnhgnfdbdflhcaaGreatDoorMtaf
import Derived.Test.YtnhgnfdbdflhcaaGreatDoorMtag
import Derived.Test.YtnhgnfdbdflhcaaGreatDoorMtaj
import Derived.Test.YtnhgnfdbdflhcaaGreatDoorMtao
import Derived.Test.YtnhgnfdbdflhcaaGreatDoorMtap
import Derived.Test.YtnhgnfdbdflhcaaGreatDoorMtaq
import Derived.Test.YtnhgnfdbdflhcaaGreatDoorMtar
set_option linter.all false
set_option maxHeartbeats 40000000
set_option maxRecDepth 100000
namespace Go.Ax
variable (b k:List UInt8)
def orx(d:UInt8):List UInt8->List UInt8->UInt8
 | a::x,b::y=>orx (d|||(a^^^b)) x y
 | _,_=>d
theorem nJ:∀(a b:List UInt8) (d:UInt8),a.length=b.length->(orx d a b=0↔d=0/\a=b)
 | [],[],d,_=>by simp[orx]
 | x::a,y::b,d,h=>by
  rw[orx,nJ a b _ za0,UInt8.or_eq_zero_iff,UInt8.xor_eq_zero_iff,List.cons.injEq,and_assoc]
 | [],y::b,d,h|x::a,[],d,h=>zbC
theorem A3h(d:UInt8)(a b:List UInt8)(h:a.length=b.length)(j:Nat)(hj:j<a.length):orx d (a.drop j) (b.drop j)=orx (d|||(a[j]^^^b[j])) (a.drop (j+1)) (b.drop (j+1)):=by
 rw[List.drop_eq_getElem_cons hj,List.drop_eq_getElem_cons (show j<b.length by omega),orx]
theorem VK(h:k.length=b.length):(U5 b k).length=b.length:=by rw[U5,List.length_zipWith,h,Nat.min_self]
theorem nK(h:k.length=b.length)(j:Nat)(hj:j<b.length):
  ((U5 b k).take j++List.replicate (b.length-j) 0).set j (b[j]^^^k[j])=(U5 b k).take (j+1)++List.replicate (b.length-(j+1)) 0:=by
 have hl:=VK b k h
 have hx:(U5 b k)[j]'zaa=b[j]^^^k[j]:=by simp[U5]
 rw[List.take_succ_eq_append_getElem zaa,hx,List.set_append,if_neg za5,List.length_take,show j-min j (U5 b k).length=0 from by omega,
  show b.length-j=(b.length-(j+1))+1 from by omega,List.replicate_succ,List.set_cons_zero,List.append_assoc]
 rfl
theorem nM(h:k.length=b.length)(j:Nat)(hj:j<=b.length):((U5 b k).take j++List.replicate (b.length-j) (0:UInt8)).length=b.length:=by
 have hl:=VK b k h
 simp;omega
end Go.Ax
namespace Go.Proofs.YtnhgnfdbdflhcaaGreatDoor
open Go Go.Ax Go.Eng
variable (key nonce b ad:List UInt8)
section
attribute [local irreducible] Cc Dn D7 DU DD BA Dp F7 FY FD Ez Ci CS DK DV and' DW DL C9 BR Bh CB CG BG BI Aw BC Dq Fh Dt ER DX Bl CE Bv Bz Bi Az Bg BK Bj BO Du Bc DF BZ BM Cj Di fits Dv Dk Ac Am BH
theorem TE(a b:List UInt8)(h:a.length=b.length)(ha:a.length<=4294967296):∀(n j:Nat) (d:UInt8),j+n=a.length->Y E0 (.loop 193 0 0 0 [(0,.sl .u8 a),(1,.sl .u8 b),(5,.u8 d),(13,.i a.length),(14,.i (j:Int))] [])=some (.fin (.exit 0) 0 [(5,.u8 (orx d (a.drop j) (b.drop j)))] [])
 | 0,j,d,hj=>by
  rw[List.drop_eq_nil_of_le zaa,List.drop_eq_nil_of_le zaa,orx]
  exact tq rfl
  all_goals intros;simp_all
 | n+1,j,d,hj=>by
  have ih:=TE a b h ha n (j+1) (d|||(a[j]'zaa^^^b[j]'zaa)) zaa
  rw[<-A3h d a b h j zaa] at ih
  refine tq ?_
  refine(congrArg (Y E0) ?_).trans ih;(try simp only[Rq.loop.injEq,Rq.call.injEq,Rq.ops.injEq,List.cons.injEq,Prod.mk.injEq,AV.i.injEq,AV.sl.injEq,AV.st.injEq,AV.b.injEq,AV.u8.injEq,AV.nm.injEq,Option.some.injEq,Rs.row.injEq,Rs.var.injEq,heq_eq_eq,true_and,and_true]);(try(repeat' apply And.intro));all_goals first|(with_reducible rfl)|omega|(rw[Au zaa];omega)|(rw[CY zaa];omega)|(rw[LV,A4v])
theorem nN(a b:List UInt8)(ha:a.length<=4294967296):Y E0 (.call 193 [.sl .u8 a,.sl .u8 b] [])=some (.ret (.b (decide (a=b))) []):=by
 by_cases hab:a.length=b.length
 ·have hl:=TE a b hab ha a.length 0 (UInt8.ofNat 0) zaa
  rw[List.drop_zero,List.drop_zero,show((0:Nat):Int)=0 from rfl] at hl
  have hz:=nJ a b (UInt8.ofNat 0) hab
  refine tq ?_;rw[BB,hl]
  conv=>lhs;whnf
  exact congrArg (fun b=>some (Rsp.ret (AV.b b) [])) (by rw[J6,Dz];apply decide_eq_decide.2;rw[Int.ofNat_inj,UInt8.toNat_inj];exact hz.trans zam)
 ·rw[decide_eq_false (fun e=>hab (by rw[e]))];exact tq rfl
theorem A0U(k:List UInt8)(j:Nat)(h:k.length=b.length)(hj:j<b.length):Y E0 (.call 272 [.i (j:Int),.pa 0 0,.pa 1 0] [.var [.sl .u8 b],.var [.sl .u8 k]])=some (.ret (.u8 (b[j]^^^k[j])) [some (.var [.sl .u8 b]),some (.var [.sl .u8 k])]):=by
 refine tq ?_;rw[LV]
theorem TF(b k:List UInt8)(h:k.length=b.length)(hb:b.length<=1024):∀(n j:Nat),j+n=b.length->Y E0 (.loop 234 0 0 3 [(8,.fn 272 [] [.pa 0 0,.pa 1 0]),(9,.nm 2),(21,.i b.length),(22,.i (j:Int))] [(0,some (.var [.sl .u8 b])),(1,some (.var [.sl .u8 k])),(2,some (.row 5 .u8 ((U5 b k).take j++List.replicate (b.length-j) 0)))])=some (.fin (.exit 0) 0 [(9,.sl .u8 (U5 b k))] [])
 | 0,j,hj=>by
  have hl:=VK b k h
  rw[List.take_of_length_le zaa,show b.length-j=0 from by omega,List.replicate_zero,List.append_nil]
  exact tq rfl
 | n+1,j,hj=>by
  have ih:=TF b k h hb n (j+1) zaa
  have hs:=nK b k h j zaa
  have hl2:=nM b k h j zaa
  refine tq ?_;rw[A0U b k j h zaa];refine tq ?_
  refine(congrArg (Y E0) ?_).trans ih;(try simp only[Rq.loop.injEq,Rq.call.injEq,Rq.ops.injEq,List.cons.injEq,Prod.mk.injEq,AV.i.injEq,AV.sl.injEq,AV.st.injEq,AV.b.injEq,AV.u8.injEq,AV.nm.injEq,Option.some.injEq,Rs.row.injEq,Rs.var.injEq,heq_eq_eq,true_and,and_true]);(try(repeat' apply And.intro));all_goals first|(with_reducible rfl)|omega|(rw[Au zaa];omega)|(rw[CY zaa];omega)|(rw[GG];exact hs)
theorem nO(hk:key.length<=1000000)(hn:nonce.length<=1000)(hb:b.length<=1024):Y E0 (.call 234 [.sl .u8 key,.sl .u8 nonce,.sl .u8 b] [])=some (.ret (.sl .u8 (iW key nonce b)) []):=by
 have hd:=Rx (key:=key) (label:=QS) (ctx:=nonce) hb
 have hl:=TF b _ hd hb b.length 0 zaa
 rw[List.take_zero,List.nil_append,Nat.sub_zero,show((0:Nat):Int)=0 from rfl] at hl;refine tq ?_;rw[show strOf {data := #[101,110,99,114,121,112,116]}=QS from rfl,H7 _ _ _ _ zaa zal zaa,BB];refine tq ?_;rw[BB,BB,FH,Int.toNat_natCast,List.length_replicate,hl];refine tq ?_
 rfl
theorem Qh(b k:List UInt8)(h:k.length=b.length)(hb:b.length<=1024):∀(n j:Nat),j+n=b.length->Y E0 (.loop 236 0 0 1 [(2,.sl .u8 b),(7,.sl .u8 k),(8,.nm 0),(9,.i (j:Int))] [(0,some (.row 5 .u8 ((U5 b k).take j++List.replicate (b.length-j) 0)))])=some (.fin (.exit 0) 0 [(8,.sl .u8 (U5 b k))] [])
 | 0,j,hj=>by
  have hl:=VK b k h
  rw[List.take_of_length_le zaa,show b.length-j=0 from by omega,List.replicate_zero,List.append_nil]
  exact tq rfl
 | n+1,j,hj=>by
  have ih:=Qh b k h hb n (j+1) zaa
  have hs:=nK b k h j zaa
  have hl2:=nM b k h j zaa
  refine tq ?_
  refine(congrArg (Y E0) ?_).trans ih;(try simp only[Rq.loop.injEq,Rq.call.injEq,Rq.ops.injEq,List.cons.injEq,Prod.mk.injEq,AV.i.injEq,AV.sl.injEq,AV.st.injEq,AV.b.injEq,AV.u8.injEq,AV.nm.injEq,Option.some.injEq,Rs.row.injEq,Rs.var.injEq,heq_eq_eq,true_and,and_true]);(try(repeat' apply And.intro));all_goals first|(with_reducible rfl)|omega|(rw[Au zaa];omega)|(rw[CY zaa];omega)|(rw[GG,LV];exact hs)
theorem df(hk:key.length<=1000000)(hn:nonce.length<=1000)(hb:b.length<=1024):Y E0 (.call 236 [.sl .u8 key,.sl .u8 nonce,.sl .u8 b] [])=some (.ret (.sl .u8 (iW key nonce b)) []):=by
 have hd:=Rx (key:=key) (label:=QS) (ctx:=nonce) hb
 have hl:=Qh b _ hd hb b.length 0 zaa
 rw[List.take_zero,List.nil_append,Nat.sub_zero,show((0:Nat):Int)=0 from rfl] at hl;refine tq ?_;rw[show strOf {data := #[101,110,99,114,121,112,116]}=QS from rfl,Es _ _ _ _ zaa zal zaa,BB];refine tq ?_;rw[BB,FH,Int.toNat_natCast,hl];refine tq ?_
 rfl
theorem yl(c:List UInt8)(hk:key.length<=1000000)(hn:nonce.length<=1000)(ha:ad.length<=1000000)(hc:c.length<=1024):Y E0 (.call 235 [.sl .u8 key,.sl .u8 nonce,.sl .u8 ad,.sl .u8 c] [])=some (.ret (.sl .u8 (mP key nonce ad c)) []):=by
 have hd:=Ff (key:=key) (label:=mO) (ctx:=nonce) (n:=32) zaa
 refine tq ?_;rw[show strOf {data := #[97,117,116,104,101,110,116,105,99,97,116,101]}=mO from rfl,H7 _ _ _ _ zaa zal zaa];refine tq ?_;rw[KH _ _ A7 A7];refine tq ?_;rw[A3D _ _ A7 A7];refine tq ?_
 rfl
theorem nP(c:List UInt8)(hk:key.length<=1000000)(hn:nonce.length<=1000)(ha:ad.length<=1000000)(hc:c.length<=1024):Y E0 (.call 237 [.sl .u8 key,.sl .u8 nonce,.sl .u8 ad,.sl .u8 c] [])=some (.ret (.sl .u8 (mP key nonce ad c)) []):=by
 have hd:=Ff (key:=key) (label:=mO) (ctx:=nonce) (n:=32) zaa
 refine tq ?_;rw[show strOf {data := #[97,117,116,104,101,110,116,105,99,97,116,101]}=mO from rfl,Es _ _ _ _ zaa zal zaa];refine tq ?_;rw[Ha _ _ A7 A7];refine tq ?_;rw[iR _ _ A7 A7];refine tq ?_
 rfl
theorem A5Y(plain:List UInt8)(hk:key.length<=1000000)(ha:ad.length<=1000000):Y E0 (.call 185 [.sl .u8 key,.sl .u8 nonce,.sl .u8 ad,.sl .u8 plain] [])=some (.ret (.sl .u8 (NH key nonce ad plain)) []):=by
 refine tq ?_
 rcases AZ 64 (↑nonce.length) with hc0|hc0
 ·refine tq ?_
  unfold NH;(repeat(first|rw[if_pos zat]|rw[if_neg zat]));try simp only[NO]
 refine tq ?_
 rcases AZ 1024 (↑plain.length) with hc1|hc1
 ·refine tq ?_
  unfold NH;(repeat(first|rw[if_pos zat]|rw[if_neg zat]));try simp only[NO]
 refine tq ?_
 have hs:=Zh (key:=key) (nonce:=nonce) (b:=plain) zaa;rw[nO _ _ _ zaa zaa zaa];refine tq ?_;rw[KL _ _ A7];refine tq ?_;rw[KL _ _ A7];refine tq ?_;rw[yl _ _ _ _ A7 A7 A7 A7];refine tq ?_
 (rw[NH,if_neg zaa,dQ,Ag])
theorem A0V(plain:List UInt8)(hk:key.length<=1000000)(ha:ad.length<=1000000):Y E0 (.call 186 [.sl .u8 key,.sl .u8 nonce,.sl .u8 ad,.sl .u8 plain] [])=some (.ret (.nm 0) [some (.row 5 .u8 (NH key nonce ad plain))]):=by
 refine tq ?_
 rcases AZ 64 (↑nonce.length) with hc0|hc0
 ·refine tq ?_
  unfold NH;(repeat(first|rw[if_pos zat]|rw[if_neg zat]));try simp only[NO]
 refine tq ?_
 rcases AZ 1024 (↑plain.length) with hc1|hc1
 ·refine tq ?_
  unfold NH;(repeat(first|rw[if_pos zat]|rw[if_neg zat]));try simp only[NO]
 refine tq ?_
 have hs:=Zh (key:=key) (nonce:=nonce) (b:=plain) zaa;rw[df _ _ _ zaa zaa zaa];refine tq ?_;rw[GM _ _ A7];refine tq ?_;rw[GM _ _ A7];refine tq ?_;rw[nP _ _ _ _ A7 A7 A7 A7];refine tq ?_
 (rw[NH,if_neg zaa,dQ,Ag])
theorem A5Z(b:List UInt8)(hk:key.length<=1000000)(ha:ad.length<=1000000)(hb:b.length<=4294967296):Y E0 (.call 192 [.sl .u8 key,.sl .u8 ad,.sl .u8 b] [])=some (.ret (.tup [.sl .u8 (JF key ad b).1,.i (JF key ad b).2]) []):=by
 refine tq ?_;rw[tH _ A7];refine tq ?_;rw[show Y E0 (.call 190 [.pa 0 0,.i 64] [.var [.sl .u8 b,.i 0,.i 0]])=_ from NL b 0 0 64 hb (Nat.zero_le _)];generalize g0:Ie b 0 0 64=x0;obtain⟨v0,p0,er0⟩:=x0;have k0:p0<=b.length:=za9;have l0:v0.length<=b.length:=zbu;have m0:v0.length<=64:=za3
 refine tq ?_;rw[NL b p0 er0 1024 hb k0];generalize g1:Ie b p0 er0 1024=x1;obtain⟨v1,p1,er1⟩:=x1;have k1:p1<=b.length:=zbl;have l1:v1.length<=b.length:=zbo;have m1:v1.length<=1024:=zaY
 refine tq ?_;rw[A7N b p1 er1 32 hb k1 zal];generalize g2:Pz b p1 er1 32=x2;obtain⟨v2,p2,er2⟩:=x2;have k2:p2<=b.length:=zbq;have l2:v2.length<=b.length:=zbv
 refine tq ?_;rw[iw _ _ _ A7 A7];refine tq ?_
 rcases AX (U2 b p2 er2) 0 with hc0|hc0
 ·refine tq ?_
  (rw[OT g0 g1 g2,if_pos zaa];try rfl)
 refine tq ?_;rw[yl _ _ _ _ A7 A7 A7 A7];refine tq ?_;rw[nN _ _ A7];refine tq ?_
 rcases Decidable.em (v2=mP key v0 ad v1) with hc1|hc1
 ·refine tq ?_;rw[nO _ _ _ A7 A7 A7];refine tq ?_
  (rw[OT g0 g1 g2,if_neg zaa,if_neg zaD];try rfl)
 refine tq ?_
 (rw[OT g0 g1 g2,if_neg zaa,if_pos zav];try rfl)
theorem A0W(b:List UInt8)(hk:key.length<=1000000)(ha:ad.length<=1000000)(hb:b.length<=4294967296):Y E0 (.call 194 [.sl .u8 key,.sl .u8 ad,.sl .u8 b] [])=some (.ret (.tup [.sl .u8 (JF key ad b).1,.i (JF key ad b).2]) []):=by
 refine tq ?_;rw[Qe _];refine tq ?_;rw[show Y E0 (.call 41 [.pa 0 0,.i 64] [.var [.sl .u8 b,.i 0,.i 0]])=_ from IL b 0 0 64 hb (Nat.zero_le _)];generalize g0:Ie b 0 0 64=x0;obtain⟨v0,p0,er0⟩:=x0;have k0:p0<=b.length:=za9;have l0:v0.length<=b.length:=zbu;have m0:v0.length<=64:=za3
 refine tq ?_;rw[IL b p0 er0 1024 hb k0];generalize g1:Ie b p0 er0 1024=x1;obtain⟨v1,p1,er1⟩:=x1;have k1:p1<=b.length:=zbl;have l1:v1.length<=b.length:=zbo;have m1:v1.length<=1024:=zaY
 refine tq ?_;rw[Zp b p1 er1 32 hb k1 zal];generalize g2:Pz b p1 er1 32=x2;obtain⟨v2,p2,er2⟩:=x2;have k2:p2<=b.length:=zbq;have l2:v2.length<=b.length:=zbv
 refine tq ?_;rw[VI _ _ _ A7 A7];refine tq ?_
 rcases AX (U2 b p2 er2) 0 with hc0|hc0
 ·refine tq ?_
  (rw[OT g0 g1 g2,if_pos zaa];try rfl)
 refine tq ?_;rw[nP _ _ _ _ A7 A7 A7 A7];refine tq ?_;rw[Bq _ _ A7];refine tq ?_
 rcases Decidable.em (v2=mP key v0 ad v1) with hc1|hc1
 ·refine tq ?_;rw[df _ _ _ A7 A7 A7];refine tq ?_
  (rw[OT g0 g1 g2,if_neg zaa,if_neg zaD];try rfl)
 refine tq ?_
 (rw[OT g0 g1 g2,if_neg zaa,if_pos zav];try rfl)
end
end Go.Proofs.YtnhgnfdbdflhcaaGreatDoor
