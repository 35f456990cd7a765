/-
  Own texts, laid together for this claim: contracts of functions of the program and its references, used by the statements of this seat.
-/
import Derived.Test.YtanagnimhaemgaaGreatDoorMtac
import Derived.Test.YtanagnimhaemgaaGreatDoorMtad
import Derived.Test.YtanagnimhaemgaaGreatDoorMtag
import Derived.Test.YtanagnimhaemgaaGreatDoorMtah
import Derived.Test.YtanagnimhaemgaaGreatDoorMtaj
import Derived.Test.YtanagnimhaemgaaGreatDoorMtak
import Derived.Test.YtanagnimhaemgaaGreatDoorMtal
set_option linter.all false
set_option maxHeartbeats 40000000
set_option maxRecDepth 100000
namespace Go.Ax
def orx(d:UInt8):List UInt8->List UInt8->UInt8
 | a::x,b::y=>orx (d|||(a^^^b)) x y
 | _,_=>d
theorem orx_zero:∀(a b:List UInt8) (d:UInt8),a.length=b.length->(orx d a b=0↔d=0/\a=b)
 | [],[],d,_=>by simp[orx]
 | x::a,y::b,d,h=>by
  rw[orx,orx_zero a b _ zA,UInt8.or_eq_zero_iff,UInt8.xor_eq_zero_iff,List.cons.injEq,and_assoc]
 | [],y::b,d,h|x::a,[],d,h=>zI
theorem orx_drop(d:UInt8)(a b:List UInt8)(h:a.length=b.length)(j:Nat)(hj:j<a.length):orx d (a.drop j) (b.drop j)=orx (d|||(a[j]^^^b[j])) (a.drop (j+1)) (b.drop (j+1)):=by
 rw[List.drop_eq_getElem_cons hj,List.drop_eq_getElem_cons (show j<b.length by omega),orx]
end Go.Ax
namespace Go.Proofs.YtanagnimhaemgaaGreatDoor
open Go Go.Ax Go.Eng
variable (seed:List UInt8)(h:Int)
section
attribute [local irreducible] BL BM BN BO BP BJ BQ CX Cm CY CW Ba Bc BF BC and' BG Bd Aa Ac Ad Ae Af AL AO AP AQ BR D8 BU D5 Be Bf Ag Ah Ai Aj AB AZ AU Ar BA BV BH BB Au Aw BI Bg BX fits BZ BK A7 A8 AC
attribute [local irreducible] lsB iF Gp Eo UW aA iD aB aF YE Oc
theorem ev_svalid:Y E0 (.call 288 [.i h] [])=some (.ret (.b (decide (0<=h/\h<=3))) []):=by
 refine tq ?_
 rcases ile_c 0 h with hc0|hc0
 ·refine tq ?_;exact congrArg (fun b=>some (Rsp.ret (AV.b b) [])) (by rw[ile_eq];apply decide_eq_decide.2;omega)
 refine tq ?_;rw[decide_eq_false zf]
theorem ev_lseed(hs:seed.length<=1000000):Y E0 (.call 343 [.sl .u8 seed,.i h] [])=some (.ret (.sl .u8 (lsB seed h)) []):=by
 refine tq ?_;rw[show strOf {data := #[115,105,103,110,101,114]}=Zc from rfl,ev_derive _ _ _ _ zf zh zB,iu8_eq];refine tq ?_
 (unfold lsB;rfl)
theorem ev_leaves_loop(seed:List UInt8)(k N:Nat)(hk:k<=3)(hN:N=2^k):∀(n j:Nat),j+n=N->Y E0 (.loop 345 0 0 1 [(5,.sl .u8 (lsB seed k)),(6,.nm 0),(13,.i (N:Int)),(14,.i (j:Int))] [(0,some (.row 22 (.sl .u8) ((iF seed k).take j)))])=some (.fin (.exit 0) 0 [(6,.sl (.sl .u8) (iF seed k))] [])
 | 0,j,hj=>by
  have hl:=Ze seed k
  rw[List.take_of_length_le zf]
  exact tq rfl
 | n+1,j,hj=>by
  have h8:=pow_le8 hk
  have hl:=Ze seed k
  have ih:=ev_leaves_loop seed k N hk hN n (j+1) zf
  have ht:(iF seed k).take j++[UW (lsB seed k) j]=(iF seed k).take (j+1):=by
   have hg:=lvB_get (seed:=seed) (k:=k) (i:=j) zf
   rw[List.getD,List.getElem?_eq_getElem zf,Option.getD_some] at hg;rw[List.take_succ_eq_append_getElem zf,hg]
  have hs:=Zd seed k
  refine tq ?_;rw[ev_public _ _ zf];refine tq ?_
  refine(congrArg (Y E0) ?_).trans ih;(try simp only[Rq.loop.injEq,Rq.call.injEq,Rq.ops.injEq,List.cons.injEq,Prod.mk.injEq,AV.i.injEq,AV.sl.injEq,AV.st.injEq,AV.b.injEq,AV.u8.injEq,AV.nm.injEq,Option.some.injEq,Rs.row.injEq,Rs.var.injEq,heq_eq_eq,true_and,and_true]);(try(repeat' apply And.intro));all_goals first|(with_reducible rfl)|omega|(rw[ZF zf];omega)|(rw[ZG zf];omega)|(rw[UH];exact ht)
theorem ev_leaves(k:Nat)(hk:k<=3)(hs:seed.length<=1000000):Y E0 (.call 345 [.sl .u8 seed,.i (k:Int)] [])=some (.ret (.sl (.sl .u8) (iF seed k)) []):=by
 have hsh:Ba 1 (Bf (k:Int)).toNat=((2^k:Nat):Int):=by rw[ishl1n zf,pow_int]
 have hl:=ev_leaves_loop seed k _ hk rfl (2^k) 0 zf
 rw[List.take_zero,show((0:Nat):Int)=0 from rfl] at hl;refine tq ?_;rw[ev_lseed _ _ NE];refine tq ?_;rw[hsh,hl];exact tq rfl
theorem ev_spub(hs:seed.length<=1000000):Y E0 (.call 336 [.sl .u8 seed,.i h] [])=some (.ret (.sl .u8 (Gp seed h)) []):=by
 by_cases hh:0<=h/\h<=3
 ·obtain⟨k,rfl⟩:∃ k:Nat,h=k:=⟨h.toNat,by omega⟩
  have hk:k<=3:=zf
  have hr:=root_16 (seed:=seed) hk
  refine tq ?_;rw[ev_svalid,decide_eq_true hh];refine tq ?_;rw[ev_leaves _ _ hk hs];refine tq ?_;rw[ev_troot _ (lvB_mem hk) (lvB_n hk)];refine tq ?_
  (rw[Gp,if_pos hh,Int.toNat_natCast,UH,iu8_eq];rfl)
 ·refine tq ?_;rw[ev_svalid,decide_eq_false hh];refine tq ?_
  (rw[Gp,if_neg hh])
end
end Go.Proofs.YtanagnimhaemgaaGreatDoor
namespace Go.Proofs.YtanagnimhaemgaaGreatDoor
open Go Go.Ax
variable (b:List UInt8)
section
attribute [local irreducible] BL BM BN BO BP BJ BQ CX Cm CY CW Ba Bc BF BC and' BG Bd Aa Ac Ad Ae Af AL AO AP AQ BR D8 BU D5 Be Bf Ag Ah Ai Aj AB AZ AU Ar BA BV BH BB Au Aw BI Bg BX fits BZ BK A7 A8 AC
theorem ev_r3uint_loop(n:Int):∀(k:Nat) (i:Int) (acc:List UInt8),i=(k:Int)-1->k<=8->acc.length+k<=5000000000 ->
  Y E0 (.loop 41 0 0 1 [(2,.i n),(7,.nm 0),(8,.i i)] [(0,some (.row 5 .u8 acc))])=some (.fin (.exit 0) 1 [(7,.nm 0)] [(0,some (.row 5 .u8 (acc++Zv k (UInt64.ofInt n))))])
 | 0,i,acc,hi,_,_=>by
  rw[JB];conv=>lhs;whnf
  refine tqA ?_
  simp[Zv]
 | k+1,i,acc,hi,hk,hl=>by
  rw[JB];conv=>lhs;whnf
  rw[fK zf]
  conv=>lhs;whnf
  rw[Ls zF]
  conv=>lhs;whnf
  try dsimp -iota -beta -eta -zeta only
  rw[ZG zf]
  rw[ev_r3uint_loop n k _ _ (by first|omega|decide|assumption|(simp only[LL] at *<;>omega)|(simp;omega)) (by first|omega|decide|assumption|(simp only[LL] at *<;>omega)|(simp;omega)) (by first|omega|decide|assumption|(simp only[LL] at *<;>omega)|(simp;omega))]
  refine tqA ?_
  simp only[UH,u64u8_eq,Zv,List.append_assoc,List.cons_append,List.nil_append];rw[mul8_eq zf,iu64_eq,u64shr_eq zf,show(8*i).toNat=8*k from by omega]
theorem ev_r3uint(size n:Int)(hb:b.length<=4294967296):Y E0 (.call 41 [.sl .u8 b,.i size,.i n] [])=some (.ret (.nm 0) [some (.row 5 .u8 (Bz b size n))]):=by
 rw[JB]
 conv=>lhs;whnf
 rw[Ls zF]
 conv=>lhs;whnf
 rcases ilt_c size 1 with hc0|hc0
 ·
  refine tqA ?_
  unfold Bz;(repeat(first|rw[if_pos (by first|omega|decide|assumption|(simp only[LL] at *<;>omega)|(simp;omega))]|rw[if_neg (by first|omega|decide|assumption|(simp only[LL] at *<;>omega)|(simp;omega))]));try simp only[NO]
 refine tqA ?_
 rcases ilt_c 8 size with hc1|hc1
 ·
  refine tqA ?_
  unfold Bz;(repeat(first|rw[if_pos (by first|omega|decide|assumption|(simp only[LL] at *<;>omega)|(simp;omega))]|rw[if_neg (by first|omega|decide|assumption|(simp only[LL] at *<;>omega)|(simp;omega))]));try simp only[NO]
 refine tqA ?_
 rw[ev_r3uint_loop n size.toNat _ _ (by first|omega|decide|assumption|(simp only[LL] at *<;>omega)|(simp;omega)) (by first|omega|decide|assumption|(simp only[LL] at *<;>omega)|(simp;omega)) (by first|omega|decide|assumption|(simp only[LL] at *<;>omega)|(simp;omega))]
 refine tqA ?_
 unfold Bz;(repeat(first|rw[if_pos (by first|omega|decide|assumption|(simp only[LL] at *<;>omega)|(simp;omega))]|rw[if_neg (by first|omega|decide|assumption|(simp only[LL] at *<;>omega)|(simp;omega))]));try simp only[NO]
theorem ev_r3blob(x:List UInt8)(hb:b.length<=4294900000):Y E0 (.call 111 [.sl .u8 b,.sl .u8 x] [])=some (.ret (.nm 0) [some (.row 5 .u8 (J8 b x))]):=by
 have h2:(x.take 65535).length<=65535:=by rw[List.length_take];omega
 have h1:=uintB_len b 2 (Ar (x.take 65535))
 have hx:BB x 0 65535=some (x.take 65535)\/x.length<65535:=by
  rcases Nat.lt_or_ge x.length 65535 with h|h
  ·exact .inr h
  ·exact .inl (by rw[bZ zf];rfl)
 by_cases h:65535<x.length
 ·have hx:BB x 0 65535=some (x.take 65535):=by rw[bZ zf];rfl
  rw[JB]
  conv=>lhs;whnf
  rw[fH zF]
  conv=>lhs;whnf
  rw[hx]
  refine tqA ?_
  rw[ev_r3uint _ _ _ sdcA]
  conv=>lhs;whnf
  rw[Ls zF]
  conv=>lhs;whnf
  rw[UH,J8,QP]
 ·rw[List.take_of_length_le zf] at h1
  rw[JB]
  conv=>lhs;whnf
  rw[fJ zF]
  conv=>lhs;whnf
  rw[JB]
  conv=>lhs;whnf
  try dsimp -iota -beta -eta -zeta only
  rw[OQ]
  rw[ev_r3uint _ _ _ sdcA]
  conv=>lhs;whnf
  rw[Ls zF]
  conv=>lhs;whnf
  rw[UH,J8,List.take_of_length_le zf,QP]
theorem ev_r3new:Y E0 (.call 60 [.sl .u8 b] [])=some (.ret (.pa 0 0) [some (.var [.sl .u8 b,.i 0,.i 0])]):=by
 exact tqA rfl
theorem ev_r3need_t(p e n:Int)(hb:b.length<=4294967296)(hp:0<=p/\p<=b.length)(he:e=0)(hn:p+n<=b.length):Y E0 (.call 101 [.pa 0 0,.i n] [.var [.sl .u8 b,.i p,.i e]])=some (.ret (.b true) [some (.var [.sl .u8 b,.i p,.i 0])]):=by
 subst he
 rw[JB]
 conv=>lhs;whnf
 rw[fD zf]
 conv=>lhs;whnf
 try dsimp -iota -beta -eta -zeta only
 rw[ZG zF]
 rw[drw zi];conv=>lhs;whnf
 rw[fJ zF]
 conv=>lhs;whnf
 rw[JB]
 conv=>lhs;whnf
 rw[fD rfl]
theorem ev_r3need_f(p e n:Int)(hb:b.length<=4294967296)(hp:0<=p/\p<=b.length)(he:e=0)(hn:b.length<p+n):Y E0 (.call 101 [.pa 0 0,.i n] [.var [.sl .u8 b,.i p,.i e]])=some (.ret (.b false) [some (.var [.sl .u8 b,.i p,.i 2])]):=by
 subst he
 rw[JB]
 conv=>lhs;whnf
 rw[fD zf]
 conv=>lhs;whnf
 try dsimp -iota -beta -eta -zeta only
 rw[ZG zF]
 rw[drw zi];conv=>lhs;whnf
 rw[fH zF]
 conv=>lhs;whnf
 rw[JB]
 conv=>lhs;whnf
 rw[fE zh]
theorem ev_r3left(p:Nat)(e:Int)(hb:b.length<=4294967296)(hp:p<=b.length):Y E0 (.call 102 [.pa 0 0] [.var [.sl .u8 b,.i p,.i e]])=some (.ret (.i ((b.length-p:Nat):Int)) [some (.var [.sl .u8 b,.i p,.i e])]):=by
 rw[JB]
 conv=>lhs;whnf
 try dsimp -iota -beta -eta -zeta only
 rw[ZG zF]
 rw[drw zi];conv=>lhs;whnf
 simp only[QP];congr 4;omega
theorem ev_r3end(p:Nat)(e:Int)(hb:b.length<=4294967296)(hp:p<=b.length):Y E0 (.call 63 [.pa 0 0] [.var [.sl .u8 b,.i p,.i e]])=some (.ret (.i (jR b p e)) [some (.var [.sl .u8 b,.i p,.i e])]):=by
 refine tqA ?_
 rcases ieq_c e 0 with hc0|hc0
 ·
  subst hc0
  refine tqA ?_
  rw[ev_r3left _ _ _ sdcA sdcA]
  refine tqA ?_
  rcases ilt_c 0 (↑(b.length-p)) with hc1|hc1
  ·
   refine tqA ?_
   unfold jR;(repeat(first|rw[if_pos (by first|omega|decide|assumption|(simp only[LL] at *<;>omega)|(simp;omega))]|rw[if_neg (by first|omega|decide|assumption|(simp only[LL] at *<;>omega)|(simp;omega))]));try simp only[NO]
  refine tqA ?_
  unfold jR;(repeat(first|rw[if_pos (by first|omega|decide|assumption|(simp only[LL] at *<;>omega)|(simp;omega))]|rw[if_neg (by first|omega|decide|assumption|(simp only[LL] at *<;>omega)|(simp;omega))]));try simp only[NO]
 refine tqA ?_
 unfold jR;(repeat(first|rw[if_pos (by first|omega|decide|assumption|(simp only[LL] at *<;>omega)|(simp;omega))]|rw[if_neg (by first|omega|decide|assumption|(simp only[LL] at *<;>omega)|(simp;omega))]));try simp only[NO]
end
end Go.Proofs.YtanagnimhaemgaaGreatDoor
namespace Go.Proofs.YtanagnimhaemgaaGreatDoor
open Go Go.Ax Go.Eng
section
attribute [local irreducible] BL BM BN BO BP BJ BQ CX Cm CY CW Ba Bc BF BC and' BG Bd Aa Ac Ad Ae Af AL AO AP AQ BR D8 BU D5 Be Bf Ag Ah Ai Aj AB AZ AU Ar BA BV BH BB Au Aw BI Bg BX fits BZ BK A7 A8 AC
theorem ev_equal_loop(a b:List UInt8)(h:a.length=b.length)(ha:a.length<=4294967296):∀(n j:Nat) (d:UInt8),j+n=a.length->Y E0 (.loop 295 0 0 0 [(0,.sl .u8 a),(1,.sl .u8 b),(5,.u8 d),(13,.i a.length),(14,.i (j:Int))] [])=some (.fin (.exit 0) 0 [(5,.u8 (orx d (a.drop j) (b.drop j)))] [])
 | 0,j,d,hj=>by
  rw[List.drop_eq_nil_of_le zf,List.drop_eq_nil_of_le zf,orx]
  exact tq rfl
  all_goals intros;simp_all
 | n+1,j,d,hj=>by
  have ih:=ev_equal_loop a b h ha n (j+1) (d|||(a[j]'zf^^^b[j]'zf)) zf
  rw[<-orx_drop d a b h j zf] at ih
  refine tq ?_
  refine(congrArg (Y E0) ?_).trans ih;(try simp only[Rq.loop.injEq,Rq.call.injEq,Rq.ops.injEq,List.cons.injEq,Prod.mk.injEq,AV.i.injEq,AV.sl.injEq,AV.st.injEq,AV.b.injEq,AV.u8.injEq,AV.nm.injEq,Option.some.injEq,Rs.row.injEq,Rs.var.injEq,heq_eq_eq,true_and,and_true]);(try(repeat' apply And.intro));all_goals first|(with_reducible rfl)|omega|(rw[ZF zf];omega)|(rw[ZG zf];omega)|(rw[u8xor_eq,u8or_eq])
theorem ev_equal(a b:List UInt8)(ha:a.length<=4294967296):Y E0 (.call 295 [.sl .u8 a,.sl .u8 b] [])=some (.ret (.b (decide (a=b))) []):=by
 by_cases hab:a.length=b.length
 ·have hl:=ev_equal_loop a b hab ha a.length 0 (UInt8.ofNat 0) zf
  rw[List.drop_zero,List.drop_zero,show((0:Nat):Int)=0 from rfl] at hl
  have hz:=orx_zero a b (UInt8.ofNat 0) hab
  refine tq ?_;rw[QP,hl]
  conv=>lhs;whnf
  exact congrArg (fun b=>some (Rsp.ret (AV.b b) [])) (by rw[VJ,bu];apply decide_eq_decide.2;rw[Int.ofNat_inj,UInt8.toNat_inj];exact hz.trans zB)
 ·rw[decide_eq_false (fun e=>hab (by rw[e]))];exact tq rfl
end
end Go.Proofs.YtanagnimhaemgaaGreatDoor
