/-
  Own texts, laid together for this claim: contracts of functions of the program and its references, used by the statements of this seat.
-/
import Derived.Test.YtanagnimhaemgaaGreatDoorKtac
import Derived.Test.YtanagnimhaemgaaGreatDoorKtad
import Derived.Test.YtanagnimhaemgaaGreatDoorKtag
import Derived.Test.YtanagnimhaemgaaGreatDoorKtah
import Derived.Test.YtanagnimhaemgaaGreatDoorKtaj
import Derived.Test.YtanagnimhaemgaaGreatDoorKtak
import Derived.Test.YtanagnimhaemgaaGreatDoorKtal
set_option linter.all false
set_option maxHeartbeats 40000000
set_option maxRecDepth 100000
namespace Go.Ax
def orx(d:UInt8):List UInt8->List UInt8->UInt8
 | a::x,b::y=>orx (d|||(a^^^b)) x y
 | _,_=>d
theorem fF:∀(a b:List UInt8) (d:UInt8),a.length=b.length->(orx d a b=0↔d=0/\a=b)
 | [],[],d,_=>by simp[orx]
 | x::a,y::b,d,h=>by
  rw[orx,fF a b _ zaJ,UInt8.or_eq_zero_iff,UInt8.xor_eq_zero_iff,List.cons.injEq,and_assoc]
 | [],y::b,d,h|x::a,[],d,h=>zaY
theorem A0Z(d:UInt8)(a b:List UInt8)(h:a.length=b.length)(j:Nat)(hj:j<a.length):orx d (a.drop j) (b.drop j)=orx (d|||(a[j]^^^b[j])) (a.drop (j+1)) (b.drop (j+1)):=by
 rw[List.drop_eq_getElem_cons hj,List.drop_eq_getElem_cons (show j<b.length by omega),orx]
end Go.Ax
namespace Go.Proofs.YtanagnimhaemgaaGreatDoor
open Go Go.Ax Go.Eng
variable (seed:List UInt8)(h:Int)
section
attribute [local irreducible] Bl CS CU CJ Bh Ak CV Du EN E5 EH Be BN CE Bz and' CG CO BC Ag Ar BF BG AY Aa AP AX CW Dv CX DT C9 BJ BD BA BB Au AQ Az Ac Aw Ah CY BL Bi BR BI CB CZ CP fits Cb CQ A8 AA AZ
attribute [local irreducible] lsB eu JE I9 Ku A42 A6E SH A44 A06 WX
theorem YU:Y E0 (.call 288 [.i h] [])=some (.ret (.b (decide (0<=h/\h<=3))) []):=by
 refine tq ?_
 rcases dm 0 h with hc0|hc0
 ·refine tq ?_;exact congrArg (fun b=>some (Rsp.ret (AV.b b) [])) (by rw[JB];apply decide_eq_decide.2;omega)
 refine tq ?_;rw[decide_eq_false zaa]
theorem A0X(hs:seed.length<=1000000):Y E0 (.call 343 [.sl .u8 seed,.i h] [])=some (.ret (.sl .u8 (lsB seed h)) []):=by
 refine tq ?_;rw[show strOf {data := #[115,105,103,110,101,114]}=pK from rfl,FV _ _ _ _ zaa zac zan,EM];refine tq ?_
 (unfold lsB;rfl)
theorem P5(seed:List UInt8)(k N:Nat)(hk:k<=3)(hN:N=2^k):∀(n j:Nat),j+n=N->Y E0 (.loop 345 0 0 1 [(5,.sl .u8 (lsB seed k)),(6,.nm 0),(13,.i (N:Int)),(14,.i (j:Int))] [(0,some (.row 22 (.sl .u8) ((eu seed k).take j)))])=some (.fin (.exit 0) 0 [(6,.sl (.sl .u8) (eu seed k))] [])
 | 0,j,hj=>by
  have hl:=Pn seed k
  rw[List.take_of_length_le zaa]
  exact tq rfl
 | n+1,j,hj=>by
  have h8:=Zj hk
  have hl:=Pn seed k
  have ih:=P5 seed k N hk hN n (j+1) zaa
  have ht:(eu seed k).take j++[Ku (lsB seed k) j]=(eu seed k).take (j+1):=by
   have hg:=pR (seed:=seed) (k:=k) (i:=j) zaa
   rw[List.getD,List.getElem?_eq_getElem zaa,Option.getD_some] at hg;rw[List.take_succ_eq_append_getElem zaa,hg]
  have hs:=pO seed k
  refine tq ?_;rw[uY _ _ zaa];refine tq ?_
  refine(congrArg (Y E0) ?_).trans ih;(try simp only[Rq.loop.injEq,Rq.call.injEq,Rq.ops.injEq,List.cons.injEq,Prod.mk.injEq,AV.i.injEq,AV.sl.injEq,AV.st.injEq,AV.b.injEq,AV.u8.injEq,AV.nm.injEq,Option.some.injEq,Rs.row.injEq,Rs.var.injEq,heq_eq_eq,true_and,and_true]);(try(repeat' apply And.intro));all_goals first|(with_reducible rfl)|omega|(rw[D7 zaa];omega)|(rw[EI zaa];omega)|(rw[Ap];exact ht)
theorem ug(k:Nat)(hk:k<=3)(hs:seed.length<=1000000):Y E0 (.call 345 [.sl .u8 seed,.i (k:Int)] [])=some (.ret (.sl (.sl .u8) (eu seed k)) []):=by
 have hsh:Be 1 (BJ (k:Int)).toNat=((2^k:Nat):Int):=by rw[A4c zaa,A2t]
 have hl:=P5 seed k _ hk rfl (2^k) 0 zaa
 rw[List.take_zero,show((0:Nat):Int)=0 from rfl] at hl;refine tq ?_;rw[A0X _ _ Am];refine tq ?_;rw[hsh,hl];exact tq rfl
theorem A36(hs:seed.length<=1000000):Y E0 (.call 336 [.sl .u8 seed,.i h] [])=some (.ret (.sl .u8 (JE seed h)) []):=by
 by_cases hh:0<=h/\h<=3
 ·obtain⟨k,rfl⟩:∃ k:Nat,h=k:=⟨h.toNat,by omega⟩
  have hk:k<=3:=zaa
  have hr:=pU (seed:=seed) hk
  refine tq ?_;rw[YU,decide_eq_true hh];refine tq ?_;rw[ug _ _ hk hs];refine tq ?_;rw[A0W _ (A2u hk) (A6H hk)];refine tq ?_
  (rw[JE,if_pos hh,Int.toNat_natCast,Ap,EM];rfl)
 ·refine tq ?_;rw[YU,decide_eq_false hh];refine tq ?_
  (rw[JE,if_neg hh])
end
end Go.Proofs.YtanagnimhaemgaaGreatDoor
namespace Go.Proofs.YtanagnimhaemgaaGreatDoor
open Go Go.Ax
variable (b:List UInt8)
section
attribute [local irreducible] Bl CS CU CJ Bh Ak CV Du EN E5 EH Be BN CE Bz and' CG CO BC Ag Ar BF BG AY Aa AP AX CW Dv CX DT C9 BJ BD BA BB Au AQ Az Ac Aw Ah CY BL Bi BR BI CB CZ CP fits Cb CQ A8 AA AZ
theorem P6(n:Int):∀(k:Nat) (i:Int) (acc:List UInt8),i=(k:Int)-1->k<=8->acc.length+k<=5000000000 ->
  Y E0 (.loop 41 0 0 1 [(2,.i n),(7,.nm 0),(8,.i i)] [(0,some (.row 5 .u8 acc))])=some (.fin (.exit 0) 1 [(7,.nm 0)] [(0,some (.row 5 .u8 (acc++Rh k (UInt64.ofInt n))))])
 | 0,i,acc,hi,_,_=>by
  rw[AU];conv=>lhs;whnf
  refine BM ?_
  simp[Rh]
 | k+1,i,acc,hi,hk,hl=>by
  rw[AU];conv=>lhs;whnf
  rw[Fh zaa]
  conv=>lhs;whnf
  rw[EF zak]
  conv=>lhs;whnf
  try dsimp -iota -beta -eta -zeta only
  rw[EI zaa]
  rw[P6 n k _ _ zab zab zab]
  refine BM ?_
  simp only[Ap,Rf,Rh,List.append_assoc,List.cons_append,List.nil_append];rw[A2J zaa,J5,PZ zaa,show(8*i).toNat=8*k from by omega]
theorem Gj(size n:Int)(hb:b.length<=4294967296):Y E0 (.call 41 [.sl .u8 b,.i size,.i n] [])=some (.ret (.nm 0) [some (.row 5 .u8 (BH b size n))]):=by
 rw[AU]
 conv=>lhs;whnf
 rw[EF zak]
 conv=>lhs;whnf
 rcases DU size 1 with hc0|hc0
 ·
  refine BM ?_
  unfold BH;(repeat(first|rw[if_pos zab]|rw[if_neg zab]));try simp only[NO]
 refine BM ?_
 rcases DU 8 size with hc1|hc1
 ·
  refine BM ?_
  unfold BH;(repeat(first|rw[if_pos zab]|rw[if_neg zab]));try simp only[NO]
 refine BM ?_
 rw[P6 n size.toNat _ _ zab zab zab]
 refine BM ?_
 unfold BH;(repeat(first|rw[if_pos zab]|rw[if_neg zab]));try simp only[NO]
theorem UB(x:List UInt8)(hb:b.length<=4294900000):Y E0 (.call 111 [.sl .u8 b,.sl .u8 x] [])=some (.ret (.nm 0) [some (.row 5 .u8 (Gy b x))]):=by
 have h2:(x.take 65535).length<=65535:=zaW
 have h1:=Xt b 2 (Aw (x.take 65535))
 have hx:Bi x 0 65535=some (x.take 65535)\/x.length<65535:=by
  rcases Nat.lt_or_ge x.length 65535 with h|h
  ·exact .inr h
  ·exact .inl (by rw[Lc zaa];rfl)
 by_cases h:65535<x.length
 ·have hx:Bi x 0 65535=some (x.take 65535):=by rw[Lc zaa];rfl
  rw[AU]
  conv=>lhs;whnf
  rw[Dn zak]
  conv=>lhs;whnf
  rw[hx]
  refine BM ?_
  rw[Gj _ _ _ Bq]
  conv=>lhs;whnf
  rw[EF zak]
  conv=>lhs;whnf
  rw[Ap,Gy,AC]
 ·rw[List.take_of_length_le zaa] at h1
  rw[AU]
  conv=>lhs;whnf
  rw[Iw zak]
  conv=>lhs;whnf
  rw[AU]
  conv=>lhs;whnf
  try dsimp -iota -beta -eta -zeta only
  rw[Aj]
  rw[Gj _ _ _ Bq]
  conv=>lhs;whnf
  rw[EF zak]
  conv=>lhs;whnf
  rw[Ap,Gy,List.take_of_length_le zaa,AC]
theorem Wv:Y E0 (.call 60 [.sl .u8 b] [])=some (.ret (.pa 0 0) [some (.var [.sl .u8 b,.i 0,.i 0])]):=by
 exact BM rfl
theorem KP(p e n:Int)(hb:b.length<=4294967296)(hp:0<=p/\p<=b.length)(he:e=0)(hn:p+n<=b.length):Y E0 (.call 101 [.pa 0 0,.i n] [.var [.sl .u8 b,.i p,.i e]])=some (.ret (.b true) [some (.var [.sl .u8 b,.i p,.i 0])]):=by
 subst he
 rw[AU]
 conv=>lhs;whnf
 rw[Ep zaa]
 conv=>lhs;whnf
 try dsimp -iota -beta -eta -zeta only
 rw[EI zak]
 rw[drw zai];conv=>lhs;whnf
 rw[Iw zak]
 conv=>lhs;whnf
 rw[AU]
 conv=>lhs;whnf
 rw[Ep rfl]
theorem P7(p e n:Int)(hb:b.length<=4294967296)(hp:0<=p/\p<=b.length)(he:e=0)(hn:b.length<p+n):Y E0 (.call 101 [.pa 0 0,.i n] [.var [.sl .u8 b,.i p,.i e]])=some (.ret (.b false) [some (.var [.sl .u8 b,.i p,.i 2])]):=by
 subst he
 rw[AU]
 conv=>lhs;whnf
 rw[Ep zaa]
 conv=>lhs;whnf
 try dsimp -iota -beta -eta -zeta only
 rw[EI zak]
 rw[drw zai];conv=>lhs;whnf
 rw[Dn zak]
 conv=>lhs;whnf
 rw[AU]
 conv=>lhs;whnf
 rw[JK zac]
theorem uh(p:Nat)(e:Int)(hb:b.length<=4294967296)(hp:p<=b.length):Y E0 (.call 102 [.pa 0 0] [.var [.sl .u8 b,.i p,.i e]])=some (.ret (.i ((b.length-p:Nat):Int)) [some (.var [.sl .u8 b,.i p,.i e])]):=by
 rw[AU]
 conv=>lhs;whnf
 try dsimp -iota -beta -eta -zeta only
 rw[EI zak]
 rw[drw zai];conv=>lhs;whnf
 simp only[AC];congr 4;omega
theorem SX(p:Nat)(e:Int)(hb:b.length<=4294967296)(hp:p<=b.length):Y E0 (.call 63 [.pa 0 0] [.var [.sl .u8 b,.i p,.i e]])=some (.ret (.i (aG b p e)) [some (.var [.sl .u8 b,.i p,.i e])]):=by
 refine BM ?_
 rcases I7 e 0 with hc0|hc0
 ·
  subst hc0
  refine BM ?_
  rw[uh _ _ _ Bq Bq]
  refine BM ?_
  rcases DU 0 (↑(b.length-p)) with hc1|hc1
  ·
   refine BM ?_
   unfold aG;(repeat(first|rw[if_pos zab]|rw[if_neg zab]));try simp only[NO]
  refine BM ?_
  unfold aG;(repeat(first|rw[if_pos zab]|rw[if_neg zab]));try simp only[NO]
 refine BM ?_
 unfold aG;(repeat(first|rw[if_pos zab]|rw[if_neg zab]));try simp only[NO]
end
end Go.Proofs.YtanagnimhaemgaaGreatDoor
namespace Go.Proofs.YtanagnimhaemgaaGreatDoor
open Go Go.Ax Go.Eng
section
attribute [local irreducible] Bl CS CU CJ Bh Ak CV Du EN E5 EH Be BN CE Bz and' CG CO BC Ag Ar BF BG AY Aa AP AX CW Dv CX DT C9 BJ BD BA BB Au AQ Az Ac Aw Ah CY BL Bi BR BI CB CZ CP fits Cb CQ A8 AA AZ
theorem QE(a b:List UInt8)(h:a.length=b.length)(ha:a.length<=4294967296):∀(n j:Nat) (d:UInt8),j+n=a.length->Y E0 (.loop 295 0 0 0 [(0,.sl .u8 a),(1,.sl .u8 b),(5,.u8 d),(13,.i a.length),(14,.i (j:Int))] [])=some (.fin (.exit 0) 0 [(5,.u8 (orx d (a.drop j) (b.drop j)))] [])
 | 0,j,d,hj=>by
  rw[List.drop_eq_nil_of_le zaa,List.drop_eq_nil_of_le zaa,orx]
  exact tq rfl
  all_goals intros;simp_all
 | n+1,j,d,hj=>by
  have ih:=QE a b h ha n (j+1) (d|||(a[j]'zaa^^^b[j]'zaa)) zaa
  rw[<-A0Z d a b h j zaa] at ih
  refine tq ?_
  refine(congrArg (Y E0) ?_).trans ih;(try simp only[Rq.loop.injEq,Rq.call.injEq,Rq.ops.injEq,List.cons.injEq,Prod.mk.injEq,AV.i.injEq,AV.sl.injEq,AV.st.injEq,AV.b.injEq,AV.u8.injEq,AV.nm.injEq,Option.some.injEq,Rs.row.injEq,Rs.var.injEq,heq_eq_eq,true_and,and_true]);(try(repeat' apply And.intro));all_goals first|(with_reducible rfl)|omega|(rw[D7 zaa];omega)|(rw[EI zaa];omega)|(rw[dZ,A2I])
theorem fG(a b:List UInt8)(ha:a.length<=4294967296):Y E0 (.call 295 [.sl .u8 a,.sl .u8 b] [])=some (.ret (.b (decide (a=b))) []):=by
 by_cases hab:a.length=b.length
 ·have hl:=QE a b hab ha a.length 0 (UInt8.ofNat 0) zaa
  rw[List.drop_zero,List.drop_zero,show((0:Nat):Int)=0 from rfl] at hl
  have hz:=fF a b (UInt8.ofNat 0) hab
  refine tq ?_;rw[AC,hl]
  conv=>lhs;whnf
  exact congrArg (fun b=>some (Rsp.ret (AV.b b) [])) (by rw[JL,Hq];apply decide_eq_decide.2;rw[Int.ofNat_inj,UInt8.toNat_inj];exact hz.trans zan)
 ·rw[decide_eq_false (fun e=>hab (by rw[e]))];exact tq rfl
end
end Go.Proofs.YtanagnimhaemgaaGreatDoor
