/-
  Own texts, laid together for this claim: contracts of functions of the program and its references, used by the statements of this seat.
-/
import Derived.Test.YtanagnimhaemgaaGreatDoorKtac
import Derived.Test.YtanagnimhaemgaaGreatDoorKtad
set_option linter.all false
set_option maxHeartbeats 40000000
set_option maxRecDepth 100000
namespace Go.Ax
open Go.Eng
variable (h:Int)
def SG(h i:Int)(l r:List UInt8):List UInt8:=(sha256 (Af 3 [[UInt8.ofInt h,UInt8.ofInt i],l,r])).take 16
theorem lC(tag:Int)(a b c:List UInt8):(Af tag [a,b,c]).length=13+a.length+b.length+c.length:=by
 simp[Af,fieldsB,JW];omega
def eQ(h i:Int):List (List UInt8)->List (List UInt8)
 | l::r::t=>SG h i l r::eQ h (i+1) t
 | _=>[]
def GN(n:Int):Int:=if n=1 then 0 else if n=2 then 1 else if n=4 then 2 else if n=8 then 3 else -1
def A05(h i:Int)(x:List UInt8):List (List UInt8)->List UInt8
 | []=>x
 | s::p=>A05 (h+1) (i/2) (if i%2=1 then SG h (i/2) s x else SG h (i/2) x s) p
def A06(x:List UInt8)(i:Int)(p:List (List UInt8)):List UInt8:=if 3<p.length\/i<0\/(2:Int)^p.length<=i then [] else A05 0 i x p
theorem uO(i:Int)(l r:List UInt8):(SG h i l r).length<=16:=by simp[SG];omega
theorem drop2{α:Type}{ls:List α}{i:Nat}(h:2*i+1<ls.length):ls.drop (2*i)=ls[2*i]::ls[2*i+1]::ls.drop (2*(i+1)):=by
 rw[List.drop_eq_getElem_cons zaa,List.drop_eq_getElem_cons (i:=2*i+1) zaa];rfl
theorem Zf(i:Int)(ls:List (List UInt8))(hl:ls.length<=1):eQ h i ls=[]:=by
 match ls with
 | []|[_]=>rfl
 | _::_::_=>simp at hl
theorem Zg(h:Int):∀(n:Nat) (i:Int) (ls:List (List UInt8)),ls.length<=n->(eQ h i ls).length=ls.length/2
 | 0,i,ls,hl=>by rw[Zf _ _ _ zaa,List.length_nil];omega
 | n+1,i,[],_=>rfl
 | n+1,i,[_],_=>by simp[eQ]
 | n+1,i,l::r::t,hl=>by
  simp only[eQ,List.length_cons,Zg h n (i+1) t (by simp at hl;omega)]
  simp only[List.length_cons] at hl;omega
theorem Zh(h:Int):∀(n:Nat) (i:Int) (ls:List (List UInt8)),ls.length<=n->∀ x∈eQ h i ls,x.length<=1000000
 | 0,i,ls,hl=>by rw[Zf _ _ _ zaa];intro x hx;cases hx
 | n+1,i,[],_|n+1,i,[_],_=>by intro x hx;cases hx
 | n+1,i,l::r::t,hl=>by
  intro x hx
  simp only[eQ,List.mem_cons] at hx
  rcases hx with rfl|hx
  ·have:=uO h i l r;omega
  ·exact Zh h n (i+1) t (by simp at hl;omega) x hx
def eU:Nat->Int->List (List UInt8)->List (List (List UInt8))
 | 0,h,ls=>[ls]
 | k+1,h,ls=>ls::eU k (h+1) (eQ h 0 ls)
def jV:Nat->Int->List (List UInt8)->List (List UInt8)
 | 0,h,ls=>ls
 | j+1,h,ls=>jV j (h+1) (eQ h 0 ls)
def SH(ls:List (List UInt8)):List UInt8:=if GN ls.length<0 then [] else(jV (GN ls.length).toNat 0 ls).getD 0 []
def sib(i:Int):Int:=if i%2=0 then i+1 else i-1
def A43:Nat->Int->Int->List (List UInt8)->List (List UInt8)
 | 0,h,i,ls=>[]
 | k+1,h,i,ls=>ls.getD (sib i).toNat []::A43 k (h+1) (i/2) (eQ h 0 ls)
def A44(i:Int)(ls:List (List UInt8)):List (List UInt8):=if GN ls.length<0\/i<0\/(ls.length:Int)<=i then [] else A43 (GN ls.length).toNat 0 i ls
theorem eX:∀(j:Nat) (h:Int) (ls:List (List UInt8)),jV (j+1) h ls=eQ (h+j) 0 (jV j h ls)
 | 0,h,ls=>by simp[jV]
 | j+1,h,ls=>by
  rw[jV,eX j (h+1),jV]
  congr 1;omega
theorem eY : ∀ (k : Nat) (h : Int) (ls : List (List UInt8)) (j : Nat), j <= k -> (eU k h ls)[j]? = some (jV j h ls)
  | 0, h, ls, j, hj => by obtain rfl : j = 0 := by omega
                          rfl
  | k + 1, h, ls, 0, _ => rfl
  | k + 1, h, ls, j + 1, hj => by rw [eU, List.getElem?_cons_succ, eY k (h + 1) _ j zaa, jV]
theorem Zi:∀(j:Nat) (h:Int) (ls:List (List UInt8)) (k:Nat),ls.length=2^(j+k)->(jV j h ls).length=2^k
 | 0,h,ls,k,hl=>by rw[jV,hl,Nat.zero_add]
 | j+1,h,ls,k,hl=>by
  rw[jV]
  refine Zi j (h+1) _ k ?_
  rw[Zg h _ _ _ (Nat.le_refl _),hl,show j+1+k=(j+k)+1 from by omega,Nat.pow_succ];omega
theorem oz:∀(j:Nat) (h:Int) (ls:List (List UInt8)),(∀ x∈ls,x.length<=1000000)->∀ x∈jV j h ls,x.length<=1000000
 | 0,h,ls,hm=>hm
 | j+1,h,ls,hm=>oz j (h+1) _ (Zh h _ 0 ls (Nat.le_refl _))
theorem lD(n:Nat)(h:¬GN n<0):∃ k:Nat,k<=3/\GN n=(k:Int)/\n=2^k:=by
 unfold GN at h ⊢
 by_cases h1:(n:Int)=1
 ·exact⟨0,by omega,by rw[if_pos h1];rfl,by simp;omega⟩
 rw[if_neg h1] at h ⊢
 by_cases h2:(n:Int)=2
 ·exact⟨1,by omega,by rw[if_pos h2];rfl,by simp;omega⟩
 rw[if_neg h2] at h ⊢
 by_cases h4:(n:Int)=4
 ·exact⟨2,by omega,by rw[if_pos h4];rfl,by simp;omega⟩
 rw[if_neg h4] at h ⊢
 by_cases h8:(n:Int)=8
 ·exact⟨3,by omega,by rw[if_pos h8];rfl,by simp;omega⟩
 rw[if_neg h8] at h
 exact absurd h zac
theorem YK{α:Type}(pre:List α)(x:α)(h:Int)(hh:(pre.length:Int)=h):Ah (pre++[x]) h=some x:=by
 subst hh;rw[D5];simp
def A6F(ls:List (List UInt8)):Prop:=(∀ l∈ls,l.length<=60)/\ls.length<20
instance (ls:List (List UInt8)):Decidable (A6F ls):=by unfold A6F;infer_instance
theorem ed(h:Int):∀(j:Nat) (i:Int) (ls:List (List UInt8)),2*j+1<ls.length->(eQ h i ls).getD j []=SG h (i+j) (ls.getD (2*j) []) (ls.getD (2*j+1) [])
 | 0,i,l::r::t,_=>by simp[eQ]
 | j+1,i,l::r::t,hl=>by
  simp only[eQ,List.getD_cons_succ]
  rw[ed h j (i+1) t (by simp at hl;omega)]
  rw[show 2*(j+1)=2*j+1+1 from by omega]
  simp only[List.getD_cons_succ]
  congr 1;omega
 | 0,i,[_],hl|j+1,i,[_],hl|_,i,[],hl=>by simp at hl
theorem YL{n K:Nat}(hK:K<=3)(hn:n=2^K):GN n=K:=by
 subst hn
 have:∀ K:Fin 4,GN ((2^K.val:Nat):Int)=((K.val:Nat):Int):=zac
 exact this ⟨K,by omega⟩
theorem A56{l:List (List UInt8)}{K:Nat}(hK:K<=3)(hl:l.length=2^K)(h1:1<l.length):(SH l).length=16:=by
 have hh:=YL hK hl
 unfold SH
 rw[hh,if_neg zaa,Int.toNat_natCast]
 cases K with
 | zero=>simp at hl;omega
 | succ k =>
  have h2:=Zi k 0 l 1 hl
  rw[eX,ed _ 0 0 _ zaa]
  simp[SG,A7]
end Go.Ax
namespace Go.Proofs.YtanagnimhaemgaaGreatDoor
open Go Go.Ax
variable (b:List UInt8)(p n e:Int)
section
attribute [local irreducible] Bl CS CU CJ Bh Ak CV Du EN E5 EH Be BN CE Bz and' CG CO BC Ag Ar BF BG AY Aa AP AX CW Dv CX DT C9 BJ BD BA BB Au AQ Az Ac Aw Ah CY BL Bi BR BI CB CZ CP fits Cb CQ A8 AA AZ
theorem SC(n:Int):∀(k:Nat) (i:Int) (acc:List UInt8),i=(k:Int)-1->k<=8->acc.length+k<=5000000000 ->
  Y E0 (.loop 117 0 0 1 [(2,.i n),(7,.nm 0),(8,.i i)] [(0,some (.row 5 .u8 acc))])=some (.fin (.exit 0) 1 [(7,.nm 0)] [(0,some (.row 5 .u8 (acc++Rh k (UInt64.ofInt n))))])
 | 0,i,acc,hi,_,_=>by
  rw[AU];conv=>lhs;whnf
  refine BM ?_
  simp[Rh]
 | k+1,i,acc,hi,hk,hl=>by
  rw[AU];conv=>lhs;whnf
  rw[Fh zaa]
  conv=>lhs;whnf
  rw[MG zaa]
  rw[EF zak]
  conv=>lhs;whnf
  try dsimp -iota -beta -eta -zeta only
  rw[EI zaa]
  rw[SC n k _ _ zab zab zab]
  refine BM ?_
  simp only[Ap,Rf,J5,Rh,List.append_assoc,List.cons_append,List.nil_append];rw[NQ zaa,PZ zaa,show(8*i).toNat=8*k from by omega]
theorem DN(size n:Int)(hb:b.length<=4294967296):Y E0 (.call 117 [.sl .u8 b,.i size,.i n] [])=some (.ret (.nm 0) [some (.row 5 .u8 (BH b size n))]):=by
 refine BM ?_
 rcases DU size 1 with hc0|hc0
 ·
  refine BM ?_
  unfold BH;(repeat(first|rw[if_pos zab]|rw[if_neg zab]));try simp only[NO]
 refine BM ?_
 rcases DU 8 size with hc1|hc1
 ·
  refine BM ?_
  unfold BH;(repeat(first|rw[if_pos zab]|rw[if_neg zab]));try simp only[NO]
 refine BM ?_
 rw[SC n size.toNat _ _ zab zab zab]
 refine BM ?_
 unfold BH;(repeat(first|rw[if_pos zab]|rw[if_neg zab]));try simp only[NO]
theorem FQ(x:List UInt8)(hb:b.length<=4294900000):Y E0 (.call 120 [.sl .u8 b,.sl .u8 x] [])=some (.ret (.nm 0) [some (.row 5 .u8 (Gy b x))]):=by
 have hx:Bi x 0 (min (Aw x) 65535)=some (x.take 65535):=by
  rw[Lc (by rw[AC];omega)]
  congr 1
  simp only[AC,Int.toNat_zero,List.drop_zero]
  rw[List.take_eq_take_iff];omega
 have h2:(x.take 65535).length<=65535:=zaW
 have:=Xt b 2 (Aw (x.take 65535))
 refine BM ?_
 rw[hx]
 refine BM ?_
 rw[DN _ _ _ Bq]
 conv=>lhs;whnf
 rw[EF zak]
 conv=>lhs;whnf
 rw[Ap,Gy,AC]
theorem U6(hb:b.length<=4294967296):Y E0 (.call 91 [.sl .u8 b] [])=some (.ret (.pa 0 0) [some (.var [.sl .u8 b,.i 0,.i 0])]):=by
 exact BM rfl
theorem Ij(f:Int):Y E0 (.call 168 [.pa 0 0,.i f] [.var [.sl .u8 b,.i p,.i e]])=some (.ret (.tup []) [some (.var [.sl .u8 b,.i p,.i f])]):=by
 exact BM rfl
theorem Pj(q e:Int)(hb:b.length<=4294967296)(hp:0<=p/\p<=b.length)(hn:0<=n)(h:b.length<p+n):Y E0 (.call 169 [.pa 0 0,.i p,.i n] [.var [.sl .u8 b,.i q,.i e]])=some (.ret (.tup [.sl .u8 [],.i 2]) [some (.var [.sl .u8 b,.i q,.i e])]):=by
 rw[AU]
 conv=>lhs;whnf
 rw[EI zak]
 rw[Dn zak]
 conv=>lhs;whnf
theorem Pm(q e:Int)(hb:b.length<=4294967296)(hp:0<=p/\p<=b.length)(hn:0<=n)(h:¬b.length<p+n):Y E0 (.call 169 [.pa 0 0,.i p,.i n] [.var [.sl .u8 b,.i q,.i e]])=some (.ret (.tup [.sl .u8 ((b.drop p.toNat).take n.toNat),.i 0]) [some (.var [.sl .u8 b,.i q,.i e])]):=by
 rw[AU]
 conv=>lhs;whnf
 rw[EI zak]
 rw[Iw zak]
 conv=>lhs;whnf
 rw[D7 zaa]
 rw[Lc zaa]
 conv=>lhs;whnf
 rw[show p+n-p=n from by omega]
theorem A2s(p:Nat)(e:Int)(hb:b.length<=4294967296)(hp:p<=b.length):Y E0 (.call 139 [.pa 0 0] [.var [.sl .u8 b,.i p,.i e]])=some (.ret (.i ((b.length-p:Nat):Int)) [some (.var [.sl .u8 b,.i p,.i e])]):=by
 rw[AU]
 conv=>lhs;whnf
 try dsimp -iota -beta -eta -zeta only
 rw[EI zak]
 rw[drw zai];conv=>lhs;whnf
 simp only[AC];congr 4;omega
theorem QZ(p:Nat)(e n:Int)(hb:b.length<=4294967296)(hp:p<=b.length)(hn:n<=4294967296):Y E0 (.call 134 [.pa 0 0,.i n] [.var [.sl .u8 b,.i p,.i e]])=some (.ret (.sl .u8 (XE b p e n).1) [some (.var [.sl .u8 b,.i (XE b p e n).2.1,.i (XE b p e n).2.2])]):=by
 by_cases h:b.length<(p:Int)+n
 ·refine BM ?_
  rcases Dc e 0 with hc0|hc0
  ·
   refine BM ?_
   unfold XE;(repeat(first|rw[if_pos zab]|rw[if_neg zab]));try simp only[NO]
  subst hc0
  refine BM ?_
  rw[Pj _ _ _ _ _ Bq Bq Bq Bq]
  refine BM ?_
  rw[Ij ..]
  refine BM ?_
  unfold XE;(repeat(first|rw[if_pos zab]|rw[if_neg zab]));try simp only[NO]
 ·refine BM ?_
  rcases Dc e 0 with hc0|hc0
  ·
   refine BM ?_
   unfold XE;(repeat(first|rw[if_pos zab]|rw[if_neg zab]));try simp only[NO]
  subst hc0
  refine BM ?_
  rcases DU n 0 with hc1|hc1
  ·
   refine BM ?_
   rw[Ij ..]
   refine BM ?_
   unfold XE;(repeat(first|rw[if_pos zab]|rw[if_neg zab]));try simp only[NO]
  refine BM ?_
  rw[Pm _ _ _ _ _ Bq Bq Bq Bq]
  refine BM ?_
  rw[show(p:Int)+n=((p+n.toNat:Nat):Int) from by omega];unfold XE;(repeat(first|rw[if_pos zab]|rw[if_neg zab]));rfl
theorem ML:Y E0 (.call 136 [.pa 0 0] [.var [.sl .u8 b,.i p,.i e]])=some (.ret (.i e) [some (.var [.sl .u8 b,.i p,.i e])]):=by
 rw[AU];conv=>lhs;whnf
theorem Zd(p:Nat)(e:Int)(hb:b.length<=4294967296)(hp:p<=b.length):Y E0 (.call 99 [.pa 0 0] [.var [.sl .u8 b,.i p,.i e]])=some (.ret (.i (aG b p e)) [some (.var [.sl .u8 b,.i p,.i e])]):=by
 refine BM ?_
 rcases I7 e 0 with hc0|hc0
 ·
  subst hc0
  refine BM ?_
  rw[A2s _ _ _ Bq Bq]
  refine BM ?_
  rcases DU 0 (↑(b.length-p)) with hc1|hc1
  ·
   refine BM ?_
   unfold aG;(repeat(first|rw[if_pos zab]|rw[if_neg zab]));try simp only[NO]
  refine BM ?_
  unfold aG;(repeat(first|rw[if_pos zab]|rw[if_neg zab]));try simp only[NO]
 refine BM ?_
 unfold aG;(repeat(first|rw[if_pos zab]|rw[if_neg zab]));try simp only[NO]
end
end Go.Proofs.YtanagnimhaemgaaGreatDoor
