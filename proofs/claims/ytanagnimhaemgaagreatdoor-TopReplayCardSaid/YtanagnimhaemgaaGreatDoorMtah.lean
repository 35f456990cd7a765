/-
  Own texts, laid together for this claim: contracts of functions of the program and its references, used by the statements of this seat.
-/
import Derived.Test.YtanagnimhaemgaaGreatDoorMtac
import Derived.Test.YtanagnimhaemgaaGreatDoorMtad
set_option linter.all false
set_option maxHeartbeats 40000000
set_option maxRecDepth 100000
namespace Go.Ax
open Go.Eng
variable {α:Type}(h:Int)
def YC(h i:Int)(l r:List UInt8):List UInt8:=(sha256 (Bh 3 [[UInt8.ofInt h,UInt8.ofInt i],l,r])).take 16
theorem frame3_len(tag:Int)(a b c:List UInt8):(Bh tag [a,b,c]).length=13+a.length+b.length+c.length:=by
 simp[Bh,fieldsB,NZ];omega
def lI(h i:Int):List (List UInt8)->List (List UInt8)
 | l::r::t=>YC h i l r::lI h (i+1) t
 | _=>[]
def NQ(n:Int):Int:=if n=1 then 0 else if n=2 then 1 else if n=4 then 2 else if n=8 then 3 else -1
def YD(h i:Int)(x:List UInt8):List (List UInt8)->List UInt8
 | []=>x
 | s::p=>YD (h+1) (i/2) (if i%2=1 then YC h (i/2) s x else YC h (i/2) x s) p
def YE(x:List UInt8)(i:Int)(p:List (List UInt8)):List UInt8:=if 3<p.length\/i<0\/(2:Int)^p.length<=i then [] else YD 0 i x p
theorem nodeB_len(i:Int)(l r:List UInt8):(YC h i l r).length<=16:=by simp[YC];omega
theorem drop2{ls:List α}{i:Nat}(h:2*i+1<ls.length):ls.drop (2*i)=ls[2*i]::ls[2*i+1]::ls.drop (2*(i+1)):=by
 rw[List.drop_eq_getElem_cons zf,List.drop_eq_getElem_cons (i:=2*i+1) zf];rfl
theorem upB_one(i:Int)(ls:List (List UInt8))(hl:ls.length<=1):lI h i ls=[]:=by
 match ls with
 | []|[_]=>rfl
 | _::_::_=>simp at hl
theorem upB_len(h:Int):∀(n:Nat) (i:Int) (ls:List (List UInt8)),ls.length<=n->(lI h i ls).length=ls.length/2
 | 0,i,ls,hl=>by rw[upB_one _ _ _ zf,List.length_nil];omega
 | n+1,i,[],_=>rfl
 | n+1,i,[_],_=>by simp[lI]
 | n+1,i,l::r::t,hl=>by
  simp only[lI,List.length_cons,upB_len h n (i+1) t (by simp at hl;omega)]
  simp only[List.length_cons] at hl;omega
theorem upB_mem(h:Int):∀(n:Nat) (i:Int) (ls:List (List UInt8)),ls.length<=n->∀ x∈lI h i ls,x.length<=1000000
 | 0,i,ls,hl=>by rw[upB_one _ _ _ zf];intro x hx;cases hx
 | n+1,i,[],_|n+1,i,[_],_=>by intro x hx;cases hx
 | n+1,i,l::r::t,hl=>by
  intro x hx
  simp only[lI,List.mem_cons] at hx
  rcases hx with rfl|hx
  ·have:=nodeB_len h i l r;omega
  ·exact upB_mem h n (i+1) t (by simp at hl;omega) x hx
def levB:Nat->Int->List (List UInt8)->List (List (List UInt8))
 | 0,h,ls=>[ls]
 | k+1,h,ls=>ls::levB k (h+1) (lI h 0 ls)
def lX:Nat->Int->List (List UInt8)->List (List UInt8)
 | 0,h,ls=>ls
 | j+1,h,ls=>lX j (h+1) (lI h 0 ls)
def aB(ls:List (List UInt8)):List UInt8:=if NQ ls.length<0 then [] else(lX (NQ ls.length).toNat 0 ls).getD 0 []
def mZ(i:Int):Int:=if i%2=0 then i+1 else i-1
def aC:Nat->Int->Int->List (List UInt8)->List (List UInt8)
 | 0,h,i,ls=>[]
 | k+1,h,i,ls=>ls.getD (mZ i).toNat []::aC k (h+1) (i/2) (lI h 0 ls)
def aF(i:Int)(ls:List (List UInt8)):List (List UInt8):=if NQ ls.length<0\/i<0\/(ls.length:Int)<=i then [] else aC (NQ ls.length).toNat 0 i ls
theorem upN_succ:∀(j:Nat) (h:Int) (ls:List (List UInt8)),lX (j+1) h ls=lI (h+j) 0 (lX j h ls)
 | 0,h,ls=>by simp[lX]
 | j+1,h,ls=>by
  rw[lX,upN_succ j (h+1),lX]
  congr 1;omega
theorem levB_get : ∀ (k : Nat) (h : Int) (ls : List (List UInt8)) (j : Nat), j <= k -> (levB k h ls)[j]? = some (lX j h ls)
  | 0, h, ls, j, hj => by obtain rfl : j = 0 := by omega
                          rfl
  | k + 1, h, ls, 0, _ => rfl
  | k + 1, h, ls, j + 1, hj => by rw [levB, List.getElem?_cons_succ, levB_get k (h + 1) _ j zf, lX]
theorem upN_len:∀(j:Nat) (h:Int) (ls:List (List UInt8)) (k:Nat),ls.length=2^(j+k)->(lX j h ls).length=2^k
 | 0,h,ls,k,hl=>by rw[lX,hl,Nat.zero_add]
 | j+1,h,ls,k,hl=>by
  rw[lX]
  refine upN_len j (h+1) _ k ?_
  rw[upB_len h _ _ _ (Nat.le_refl _),hl,show j+1+k=(j+k)+1 from by omega,Nat.pow_succ];omega
theorem upN_mem:∀(j:Nat) (h:Int) (ls:List (List UInt8)),(∀ x∈ls,x.length<=1000000)->∀ x∈lX j h ls,x.length<=1000000
 | 0,h,ls,hm=>hm
 | j+1,h,ls,hm=>upN_mem j (h+1) _ (upB_mem h _ 0 ls (Nat.le_refl _))
theorem height_pow(n:Nat)(h:¬NQ n<0):∃ k:Nat,k<=3/\NQ n=(k:Int)/\n=2^k:=by
 unfold NQ at h ⊢
 by_cases h1:(n:Int)=1
 ·exact⟨0,by omega,by rw[if_pos h1];rfl,by simp;omega⟩
 rw[if_neg h1] at h ⊢
 by_cases h2:(n:Int)=2
 ·exact⟨1,by omega,by rw[if_pos h2];rfl,by simp;omega⟩
 rw[if_neg h2] at h ⊢
 by_cases h4:(n:Int)=4
 ·exact⟨2,by omega,by rw[if_pos h4];rfl,by simp;omega⟩
 rw[if_neg h4] at h ⊢
 by_cases h8:(n:Int)=8
 ·exact⟨3,by omega,by rw[if_pos h8];rfl,by simp;omega⟩
 rw[if_neg h8] at h
 exact absurd h zh
theorem lget_snoc(pre:List α)(x:α)(h:Int)(hh:(pre.length:Int)=h):BA (pre++[x]) h=some x:=by
 subst hh;rw[lget_nat];simp
def iE(ls:List (List UInt8)):Prop:=(∀ l∈ls,l.length<=60)/\ls.length<20
instance (ls:List (List UInt8)):Decidable (iE ls):=by unfold iE;infer_instance
theorem drop_one{l:List α}{j:Nat}(h:j<l.length):l.drop j=l[j]::l.drop (j+1):=List.drop_eq_getElem_cons h
theorem getD_upB(h:Int):∀(j:Nat) (i:Int) (ls:List (List UInt8)),2*j+1<ls.length->(lI h i ls).getD j []=YC h (i+j) (ls.getD (2*j) []) (ls.getD (2*j+1) [])
 | 0,i,l::r::t,_=>by simp[lI]
 | j+1,i,l::r::t,hl=>by
  simp only[lI,List.getD_cons_succ]
  rw[getD_upB h j (i+1) t (by simp at hl;omega)]
  rw[show 2*(j+1)=2*j+1+1 from by omega]
  simp only[List.getD_cons_succ]
  congr 1;omega
 | 0,i,[_],hl|j+1,i,[_],hl|_,i,[],hl=>by simp at hl
theorem height_of{n K:Nat}(hK:K<=3)(hn:n=2^K):NQ n=K:=by
 subst hn
 have:∀ K:Fin 4,NQ ((2^K.val:Nat):Int)=((K.val:Nat):Int):=zh
 exact this ⟨K,by omega⟩
theorem root16{l:List (List UInt8)}{K:Nat}(hK:K<=3)(hl:l.length=2^K)(h1:1<l.length):(aB l).length=16:=by
 have hh:=height_of hK hl
 unfold aB
 rw[hh,if_neg zf,Int.toNat_natCast]
 cases K with
 | zero=>simp at hl;omega
 | succ k =>
  have h2:=upN_len k 0 l 1 hl
  rw[upN_succ,getD_upB _ 0 0 _ zf]
  simp[YC,Gu]
end Go.Ax
namespace Go.Proofs.YtanagnimhaemgaaGreatDoor
open Go Go.Ax
variable (b:List UInt8)(p n e:Int)
section
attribute [local irreducible] BL BM BN BO BP BJ BQ CX Cm CY CW Ba Bc BF BC and' BG Bd Aa Ac Ad Ae Af AL AO AP AQ BR D8 BU D5 Be Bf Ag Ah Ai Aj AB AZ AU Ar BA BV BH BB Au Aw BI Bg BX fits BZ BK A7 A8 AC
theorem ev_uint_loop(n:Int):∀(k:Nat) (i:Int) (acc:List UInt8),i=(k:Int)-1->k<=8->acc.length+k<=5000000000 ->
  Y E0 (.loop 117 0 0 1 [(2,.i n),(7,.nm 0),(8,.i i)] [(0,some (.row 5 .u8 acc))])=some (.fin (.exit 0) 1 [(7,.nm 0)] [(0,some (.row 5 .u8 (acc++Zv k (UInt64.ofInt n))))])
 | 0,i,acc,hi,_,_=>by
  rw[JB];conv=>lhs;whnf
  refine tqA ?_
  simp[Zv]
 | k+1,i,acc,hi,hk,hl=>by
  rw[JB];conv=>lhs;whnf
  rw[fK zf]
  conv=>lhs;whnf
  rw[ZH zf]
  rw[Ls zF]
  conv=>lhs;whnf
  try dsimp -iota -beta -eta -zeta only
  rw[ZG zf]
  rw[ev_uint_loop n k _ _ (by first|omega|decide|assumption|(simp only[LL] at *<;>omega)|(simp;omega)) (by first|omega|decide|assumption|(simp only[LL] at *<;>omega)|(simp;omega)) (by first|omega|decide|assumption|(simp only[LL] at *<;>omega)|(simp;omega))]
  refine tqA ?_
  simp only[UH,u64u8_eq,iu64_eq,Zv,List.append_assoc,List.cons_append,List.nil_append];rw[u64_ofInt zf,u64shr_eq zf,show(8*i).toNat=8*k from by omega]
theorem ev_uint(size n:Int)(hb:b.length<=4294967296):Y E0 (.call 117 [.sl .u8 b,.i size,.i n] [])=some (.ret (.nm 0) [some (.row 5 .u8 (Bz b size n))]):=by
 refine tqA ?_
 rcases ilt_c size 1 with hc0|hc0
 ·
  refine tqA ?_
  unfold Bz;(repeat(first|rw[if_pos (by first|omega|decide|assumption|(simp only[LL] at *<;>omega)|(simp;omega))]|rw[if_neg (by first|omega|decide|assumption|(simp only[LL] at *<;>omega)|(simp;omega))]));try simp only[NO]
 refine tqA ?_
 rcases ilt_c 8 size with hc1|hc1
 ·
  refine tqA ?_
  unfold Bz;(repeat(first|rw[if_pos (by first|omega|decide|assumption|(simp only[LL] at *<;>omega)|(simp;omega))]|rw[if_neg (by first|omega|decide|assumption|(simp only[LL] at *<;>omega)|(simp;omega))]));try simp only[NO]
 refine tqA ?_
 rw[ev_uint_loop n size.toNat _ _ (by first|omega|decide|assumption|(simp only[LL] at *<;>omega)|(simp;omega)) (by first|omega|decide|assumption|(simp only[LL] at *<;>omega)|(simp;omega)) (by first|omega|decide|assumption|(simp only[LL] at *<;>omega)|(simp;omega))]
 refine tqA ?_
 unfold Bz;(repeat(first|rw[if_pos (by first|omega|decide|assumption|(simp only[LL] at *<;>omega)|(simp;omega))]|rw[if_neg (by first|omega|decide|assumption|(simp only[LL] at *<;>omega)|(simp;omega))]));try simp only[NO]
theorem ev_blob(x:List UInt8)(hb:b.length<=4294900000):Y E0 (.call 120 [.sl .u8 b,.sl .u8 x] [])=some (.ret (.nm 0) [some (.row 5 .u8 (J8 b x))]):=by
 have hx:BB x 0 (min (Ar x) 65535)=some (x.take 65535):=by
  rw[bZ (by rw[QP];omega)]
  congr 1
  simp only[QP,Int.toNat_zero,List.drop_zero]
  rw[List.take_eq_take_iff];omega
 have h2:(x.take 65535).length<=65535:=by rw[List.length_take];omega
 have:=uintB_len b 2 (Ar (x.take 65535))
 refine tqA ?_
 rw[hx]
 refine tqA ?_
 rw[ev_uint _ _ _ sdcA]
 conv=>lhs;whnf
 rw[Ls zF]
 conv=>lhs;whnf
 rw[UH,J8,QP]
theorem ev_new(hb:b.length<=4294967296):Y E0 (.call 91 [.sl .u8 b] [])=some (.ret (.pa 0 0) [some (.var [.sl .u8 b,.i 0,.i 0])]):=by
 exact tqA rfl
theorem ev_fail(f:Int):Y E0 (.call 168 [.pa 0 0,.i f] [.var [.sl .u8 b,.i p,.i e]])=some (.ret (.tup []) [some (.var [.sl .u8 b,.i p,.i f])]):=by
 exact tqA rfl
theorem ev_take_f(q e:Int)(hb:b.length<=4294967296)(hp:0<=p/\p<=b.length)(hn:0<=n)(h:b.length<p+n):Y E0 (.call 169 [.pa 0 0,.i p,.i n] [.var [.sl .u8 b,.i q,.i e]])=some (.ret (.tup [.sl .u8 [],.i 2]) [some (.var [.sl .u8 b,.i q,.i e])]):=by
 rw[JB]
 conv=>lhs;whnf
 rw[ZG zF]
 rw[fH zF]
 conv=>lhs;whnf
theorem ev_take(q e:Int)(hb:b.length<=4294967296)(hp:0<=p/\p<=b.length)(hn:0<=n)(h:¬b.length<p+n):Y E0 (.call 169 [.pa 0 0,.i p,.i n] [.var [.sl .u8 b,.i q,.i e]])=some (.ret (.tup [.sl .u8 ((b.drop p.toNat).take n.toNat),.i 0]) [some (.var [.sl .u8 b,.i q,.i e])]):=by
 rw[JB]
 conv=>lhs;whnf
 rw[ZG zF]
 rw[fJ zF]
 conv=>lhs;whnf
 rw[ZF zf]
 rw[bZ zf]
 conv=>lhs;whnf
 rw[show p+n-p=n from by omega]
theorem ev_left(p:Nat)(e:Int)(hb:b.length<=4294967296)(hp:p<=b.length):Y E0 (.call 139 [.pa 0 0] [.var [.sl .u8 b,.i p,.i e]])=some (.ret (.i ((b.length-p:Nat):Int)) [some (.var [.sl .u8 b,.i p,.i e])]):=by
 rw[JB]
 conv=>lhs;whnf
 try dsimp -iota -beta -eta -zeta only
 rw[ZG zF]
 rw[drw zi];conv=>lhs;whnf
 simp only[QP];congr 4;omega
theorem ev_raw(p:Nat)(e n:Int)(hb:b.length<=4294967296)(hp:p<=b.length)(hn:n<=4294967296):Y E0 (.call 134 [.pa 0 0,.i n] [.var [.sl .u8 b,.i p,.i e]])=some (.ret (.sl .u8 (mD b p e n).1) [some (.var [.sl .u8 b,.i (mD b p e n).2.1,.i (mD b p e n).2.2])]):=by
 by_cases h:b.length<(p:Int)+n
 ·refine tqA ?_
  rcases ine_c e 0 with hc0|hc0
  ·
   refine tqA ?_
   unfold mD;(repeat(first|rw[if_pos (by first|omega|decide|assumption|(simp only[LL] at *<;>omega)|(simp;omega))]|rw[if_neg (by first|omega|decide|assumption|(simp only[LL] at *<;>omega)|(simp;omega))]));try simp only[NO]
  subst hc0
  refine tqA ?_
  rw[ev_take_f _ _ _ _ _ sdcA sdcA sdcA sdcA]
  refine tqA ?_
  rw[ev_fail ..]
  refine tqA ?_
  unfold mD;(repeat(first|rw[if_pos (by first|omega|decide|assumption|(simp only[LL] at *<;>omega)|(simp;omega))]|rw[if_neg (by first|omega|decide|assumption|(simp only[LL] at *<;>omega)|(simp;omega))]));try simp only[NO]
 ·refine tqA ?_
  rcases ine_c e 0 with hc0|hc0
  ·
   refine tqA ?_
   unfold mD;(repeat(first|rw[if_pos (by first|omega|decide|assumption|(simp only[LL] at *<;>omega)|(simp;omega))]|rw[if_neg (by first|omega|decide|assumption|(simp only[LL] at *<;>omega)|(simp;omega))]));try simp only[NO]
  subst hc0
  refine tqA ?_
  rcases ilt_c n 0 with hc1|hc1
  ·
   refine tqA ?_
   rw[ev_fail ..]
   refine tqA ?_
   unfold mD;(repeat(first|rw[if_pos (by first|omega|decide|assumption|(simp only[LL] at *<;>omega)|(simp;omega))]|rw[if_neg (by first|omega|decide|assumption|(simp only[LL] at *<;>omega)|(simp;omega))]));try simp only[NO]
  refine tqA ?_
  rw[ev_take _ _ _ _ _ sdcA sdcA sdcA sdcA]
  refine tqA ?_
  rw[show(p:Int)+n=((p+n.toNat:Nat):Int) from by omega];unfold mD;(repeat(first|rw[if_pos (by first|omega|decide|assumption|(simp only[LL] at *<;>omega)|(simp;omega))]|rw[if_neg (by first|omega|decide|assumption|(simp only[LL] at *<;>omega)|(simp;omega))]));rfl
theorem ev_rerr:Y E0 (.call 136 [.pa 0 0] [.var [.sl .u8 b,.i p,.i e]])=some (.ret (.i e) [some (.var [.sl .u8 b,.i p,.i e])]):=by
 rw[JB];conv=>lhs;whnf
theorem ev_rend(p:Nat)(e:Int)(hb:b.length<=4294967296)(hp:p<=b.length):Y E0 (.call 99 [.pa 0 0] [.var [.sl .u8 b,.i p,.i e]])=some (.ret (.i (jR b p e)) [some (.var [.sl .u8 b,.i p,.i e])]):=by
 refine tqA ?_
 rcases ieq_c e 0 with hc0|hc0
 ·
  subst hc0
  refine tqA ?_
  rw[ev_left _ _ _ sdcA sdcA]
  refine tqA ?_
  rcases ilt_c 0 (↑(b.length-p)) with hc1|hc1
  ·
   refine tqA ?_
   unfold jR;(repeat(first|rw[if_pos (by first|omega|decide|assumption|(simp only[LL] at *<;>omega)|(simp;omega))]|rw[if_neg (by first|omega|decide|assumption|(simp only[LL] at *<;>omega)|(simp;omega))]));try simp only[NO]
  refine tqA ?_
  unfold jR;(repeat(first|rw[if_pos (by first|omega|decide|assumption|(simp only[LL] at *<;>omega)|(simp;omega))]|rw[if_neg (by first|omega|decide|assumption|(simp only[LL] at *<;>omega)|(simp;omega))]));try simp only[NO]
 refine tqA ?_
 unfold jR;(repeat(first|rw[if_pos (by first|omega|decide|assumption|(simp only[LL] at *<;>omega)|(simp;omega))]|rw[if_neg (by first|omega|decide|assumption|(simp only[LL] at *<;>omega)|(simp;omega))]));try simp only[NO]
end
end Go.Proofs.YtanagnimhaemgaaGreatDoor
