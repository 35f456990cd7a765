/-
  Own texts, laid together for this claim: contracts of functions of the program and its references, used by the statements of this seat.
-/
import Derived.Test.YtnhgnfdbdflhcaaGreatDoorMsc
set_option linter.all false
set_option maxHeartbeats 40000000
set_option maxRecDepth 100000
namespace Go.Ax
variable (b k:List UInt8)
theorem YS(h:k.length=b.length):(VF b k).length=b.length:=by rw[VF,List.length_zipWith,h,Nat.min_self]
theorem A1M(h:k.length=b.length)(j:Nat)(hj:j<b.length):
  ((VF b k).take j++List.replicate (b.length-j) 0).set j (b[j]^^^k[j])=(VF b k).take (j+1)++List.replicate (b.length-(j+1)) 0:=by
 have hl:=YS b k h
 have hx:(VF b k)[j]'zaa=b[j]^^^k[j]:=by simp[VF]
 rw[List.take_succ_eq_append_getElem zaa,hx,List.set_append,if_neg za6,List.length_take,show j-min j (VF b k).length=0 from by omega,
  show b.length-j=(b.length-(j+1))+1 from by omega,List.replicate_succ,List.set_cons_zero,List.append_assoc]
 rfl
theorem A1N(h:k.length=b.length)(j:Nat)(hj:j<=b.length):((VF b k).take j++List.replicate (b.length-j) (0:UInt8)).length=b.length:=by
 have hl:=YS b k h
 simp;omega
end Go.Ax
namespace Go.Ax
open Go.Eng
noncomputable def Ns(s:Int)(b:List (List UInt8)):Nat->List UInt8
 | 0=>[]
 | j+1=>Ns s b j++(if BH .and (CV s (Bh ((j:Nat):Int)).toNat) 1=1 then b.getD j [] else [])
theorem UG{s:Int}{b:List (List UInt8)}(h:∀ x∈b,x.length<=1000):∀ j,(Ns s b j).length<=1000*j
 | 0=>by simp[Ns]
 | j+1=>by
  have ih:=UG (s:=s) h j
  rw[Ns,List.length_append]
  split
  ·have hb:(b.getD j []).length<=1000:=by
    by_cases hj:j<b.length
    ·have:=h _ (List.getElem_mem hj)
     simpa [List.getD,List.getElem?_eq_getElem hj] using this
    ·simp[List.getD,List.getElem?_eq_none (show b.length<=j by omega)]
   omega
  ·simp only[List.length_nil];omega
noncomputable def Nu(s:Int)(b:List (List UInt8)):List UInt8:=Ns s b 16
noncomputable def dK(s0 s1:Int)(b0 b1:List (List UInt8)):List UInt8:=sha256 (Ar 5 [CE (CE [] 2 s0) 2 s1,Nu s0 b0++Nu s1 b1])
theorem nY(tag:Int):∀(ls:List (List UInt8)) (m:Nat),(∀ x∈ls,x.length<=m)->(Ar tag ls).length<=1+ls.length*(m+4):=by
 intro ls m h
 have key:∀ j,j<=ls.length->(Ar tag (ls.take j)).length<=1+j*(m+4):=by
  intro j
  induction j with
  | zero=>intro _;simp[Ar,fieldsB]
  | succ j ih =>
   intro hj
   have hg:ls[j]?=some (ls[j]'zaa):=List.getElem?_eq_getElem zaa
   have hx:=h _ (List.getElem_mem (show j<ls.length by omega))
   rw[PO tag ls j _ hg,List.length_append,List.length_append]
   have:=ih zaa
   have h4:(lX (ls[j]'zaa)).length=4:=rfl
   rw[h4,Nat.succ_mul];omega
 have:=key ls.length (Nat.le_refl _)
 rwa [List.take_length] at this
end Go.Ax
namespace Go.Proofs.YtnhgnfdbdflhcaaGreatDoor
open Go Go.Ax Go.Eng
section
attribute [local irreducible] Cj Dt D9 DT DK BH Du Ey Fh FD Et D7 CV Df DX and' Dk DU CG Ba Bl CJ CS BK BM BB BG Dv G7 Dw EM Dl Bh CO Bz C9 Bo BD Bi BO Be BZ Dx Bf DL Bd BI D6 Dy fits Dz Dn AZ Ap BL
theorem Pm(b k:List UInt8)(h:k.length=b.length)(hb:b.length<=1024):∀(n j:Nat),j+n=b.length->Y E0 (.loop 236 0 0 1 [(2,.sl .u8 b),(7,.sl .u8 k),(8,.nm 0),(9,.i (j:Int))] [(0,some (.row 5 .u8 ((VF b k).take j++List.replicate (b.length-j) 0)))])=some (.fin (.exit 0) 0 [(8,.sl .u8 (VF b k))] [])
 | 0,j,hj=>by
  have hl:=YS b k h
  rw[List.take_of_length_le zaa,show b.length-j=0 from by omega,List.replicate_zero,List.append_nil]
  exact tq rfl
 | n+1,j,hj=>by
  have ih:=Pm b k h hb n (j+1) zaa
  have hs:=A1M b k h j zaa
  have hl2:=A1N b k h j zaa
  refine tq ?_
  refine(congrArg (Y E0) ?_).trans ih;(try simp only[Rq.loop.injEq,Rq.call.injEq,Rq.ops.injEq,List.cons.injEq,Prod.mk.injEq,AV.i.injEq,AV.sl.injEq,AV.st.injEq,AV.b.injEq,AV.u8.injEq,AV.nm.injEq,Option.some.injEq,Rs.row.injEq,Rs.var.injEq,heq_eq_eq,true_and,and_true]);(try(repeat' apply And.intro));all_goals first|(with_reducible rfl)|omega|(rw[Aw zaa];omega)|(rw[Ce zaa];omega)|(rw[G5,Nb];exact hs)
theorem Zv(key nonce b:List UInt8)(hk:key.length<=1000000)(hn:nonce.length<=1000)(hb:b.length<=1024):Y E0 (.call 236 [.sl .u8 key,.sl .u8 nonce,.sl .u8 b] [])=some (.ret (.sl .u8 (jE key nonce b)) []):=by
 have hd:=VG (key:=key) (label:=YI) (ctx:=nonce) hb
 have hl:=Pm b _ hd hb b.length 0 zaa
 rw[List.take_zero,List.nil_append,Nat.sub_zero,show((0:Nat):Int)=0 from rfl] at hl;refine tq ?_;rw[show strOf {data := #[101,110,99,114,121,112,116]}=YI from rfl,EZ _ _ _ _ zaa zal zaa,BF];refine tq ?_;rw[BF,Fz,Int.toNat_natCast,hl];refine tq ?_
 rfl
theorem jX(key nonce ad c:List UInt8)(hk:key.length<=1000000)(hn:nonce.length<=1000)(ha:ad.length<=1000000)(hc:c.length<=1024):Y E0 (.call 237 [.sl .u8 key,.sl .u8 nonce,.sl .u8 ad,.sl .u8 c] [])=some (.ret (.sl .u8 (wR key nonce ad c)) []):=by
 have hd:=Fq (key:=key) (label:=A12) (ctx:=nonce) (n:=32) zaa
 refine tq ?_;rw[show strOf {data := #[97,117,116,104,101,110,116,105,99,97,116,101]}=A12 from rfl,EZ _ _ _ _ zaa zal zaa];refine tq ?_;rw[Gl _ _ A8 A8];refine tq ?_;rw[cZ _ _ A8 A8];refine tq ?_
 rfl
theorem xA(key nonce ad plain:List UInt8)(hk:key.length<=1000000)(ha:ad.length<=1000000):Y E0 (.call 186 [.sl .u8 key,.sl .u8 nonce,.sl .u8 ad,.sl .u8 plain] [])=some (.ret (.nm 0) [some (.row 5 .u8 (PT key nonce ad plain))]):=by
 refine tq ?_
 rcases AY 64 (↑nonce.length) with hc0|hc0
 ·refine tq ?_
  unfold PT;(repeat(first|rw[if_pos zaA]|rw[if_neg zaA]));try simp only[NO]
 refine tq ?_
 rcases AY 1024 (↑plain.length) with hc1|hc1
 ·refine tq ?_
  unfold PT;(repeat(first|rw[if_pos zaA]|rw[if_neg zaA]));try simp only[NO]
 refine tq ?_
 have hs:=jG (key:=key) (nonce:=nonce) (b:=plain) zaa;rw[Zv _ _ _ zaa zaa zaa];refine tq ?_;rw[Fb _ _ A8];refine tq ?_;rw[Fb _ _ A8];refine tq ?_;rw[jX _ _ _ _ A8 A8 A8 A8];refine tq ?_
 (rw[PT,if_neg zaa,jF,Aa])
theorem xB(key ad b:List UInt8)(hk:key.length<=1000000)(ha:ad.length<=1000000)(hb:b.length<=4294967296):Y E0 (.call 194 [.sl .u8 key,.sl .u8 ad,.sl .u8 b] [])=some (.ret (.tup [.sl .u8 (Jg key ad b).1,.i (Jg key ad b).2]) []):=by
 refine tq ?_;rw[Pj _];refine tq ?_;rw[show Y E0 (.call 41 [.pa 0 0,.i 64] [.var [.sl .u8 b,.i 0,.i 0]])=_ from Hm b 0 0 64 hb (Nat.zero_le _)];generalize g0:Js b 0 0 64=x0;obtain⟨v0,p0,er0⟩:=x0;have k0:p0<=b.length:=(by have:=MF (b:=b) (at':=0) (e:=0) (most:=64) (Nat.zero_le _);rw[g0] at this;exact this);have l0:v0.length<=b.length:=(by have:=J8 (b:=b) (at':=0) (e:=0) (most:=64);rw[g0] at this;exact this);have m0:v0.length<=64:=(by have:=J3 (b:=b) (at':=0) (e:=0) (most:=64) zal;rw[g0] at this;simp only at this;omega)
 refine tq ?_;rw[Hm b p0 er0 1024 hb k0];generalize g1:Js b p0 er0 1024=x1;obtain⟨v1,p1,er1⟩:=x1;have k1:p1<=b.length:=(by have:=MF (b:=b) (at':=p0) (e:=er0) (most:=1024) k0;rw[g1] at this;exact this);have l1:v1.length<=b.length:=(by have:=J8 (b:=b) (at':=p0) (e:=er0) (most:=1024);rw[g1] at this;exact this);have m1:v1.length<=1024:=(by have:=J3 (b:=b) (at':=p0) (e:=er0) (most:=1024) zal;rw[g1] at this;simp only at this;omega)
 refine tq ?_;rw[YQ b p1 er1 32 hb k1 zal];generalize g2:V5 b p1 er1 32=x2;obtain⟨v2,p2,er2⟩:=x2;have k2:p2<=b.length:=(by have:=nH (b:=b) (at':=p1) (e:=er1) (n:=32) k1;rw[g2] at this;exact this);have l2:v2.length<=b.length:=(by have:=WW (b:=b) (at':=p1) (e:=er1) (n:=32);rw[g2] at this;exact this)
 refine tq ?_;rw[UC _ _ _ A8 A8];refine tq ?_
 rcases AX (WT b p2 er2) 0 with hc0|hc0
 ·refine tq ?_
  (rw[YJ g0 g1 g2,if_pos zaa];try rfl)
 refine tq ?_;rw[jX _ _ _ _ A8 A8 A8 A8];refine tq ?_;rw[CY _ _ A8];refine tq ?_
 rcases Decidable.em (v2=wR key v0 ad v1) with hc1|hc1
 ·refine tq ?_;rw[Zv _ _ _ A8 A8 A8];refine tq ?_
  (rw[YJ g0 g1 g2,if_neg zaa,if_neg zaB];try rfl)
 refine tq ?_
 (rw[YJ g0 g1 g2,if_neg zaa,if_pos zat];try rfl)
end
section
attribute [local irreducible] Cj Dt D9 DT DK BH Du Ey Fh FD Et D7 CV Df DX and' Dk DU CG Ba Bl CJ CS BK BM BB BG Dv G7 Dw EM Dl Bh CO Bz C9 Bo BD Bi BO Be BZ Dx Bf DL Bd BI D6 Dy fits Dz Dn AZ Ap BL
attribute [local irreducible] Ed Ej Gf Bv nameB Em wkey Jg PT ES
theorem SC(k h:Int)(a s d:List UInt8)(ha:a.length<=100000)(hs:s.length<=100000)(hd:d.length<=100000):Y E0 (.call 96 [.i k,.i h,.agg [.sl .u8 a,.sl .u8 s,.sl .u8 d]] [])=some (.ret (.sl .u8 (Em k h ⟨a,s,d⟩)) []):=by
 refine tq ?_
 rcases AL k 2 with hc0|hc0
 ·subst hc0;refine tq ?_;rw[A31 _ _ A8];refine tq ?_
  (unfold Em;(repeat(first|rw[if_pos zaa]|rw[if_neg zaa]));try rfl)
 refine tq ?_;rw[IR _ _ A8 A8];refine tq ?_
 (unfold Em;(repeat(first|rw[if_pos zaa]|rw[if_neg zaa]));try rfl)
theorem LP(k h:Int)(a s d:List UInt8)(ha:a.length<=100000)(hs:s.length<=100000)(hd:d.length<=100000):Y E0 (.call 183 [.agg [.sl .u8 a,.sl .u8 s,.sl .u8 d],.i k,.i h] [])=some (.ret (.sl .u8 (Em k h ⟨a,s,d⟩)) []):=by
 refine tq ?_
 rcases AL k 2 with hc0|hc0
 ·subst hc0;refine tq ?_;rw[jU _ _ A8];refine tq ?_
  (unfold Em;(repeat(first|rw[if_pos zaa]|rw[if_neg zaa]));try rfl)
 refine tq ?_;rw[F8 _ _ A8 A8];refine tq ?_
 (unfold Em;(repeat(first|rw[if_pos zaa]|rw[if_neg zaa]));try rfl)
theorem Ky(e:Int):Y E0 (.call 94 [.i e] [])=some (.ret (.tup [.agg (Yu VH),.agg (dG SB),.i e]) []):=by
 refine tq ?_
 rfl
theorem A1O(secret:List UInt8)(k a h:Int)(o u auth data:List UInt8)(hs:secret.length<=100000):Y E0 (.call 35 [.sl .u8 secret,.agg [.i k,.i a,.i h,.sl .u8 o,.sl .u8 u],.sl .u8 auth,.sl .u8 data] [])=some (.ret (.tup [.agg (Yu (Bq secret ⟨k,a,h,o,u⟩ auth data).1),.agg (dG (Bq secret ⟨k,a,h,o,u⟩ auth data).2.1),.i (Bq secret ⟨k,a,h,o,u⟩ auth data).2.2]) []):=by
 have hu:=dD k
 have hd:=Fq (key:=secret) (label:=H9) (ctx:=[]) (n:=32) zaa
 have hE:Bd (uniq k) (0:UInt8)=List.replicate (uniq k).toNat 0:=by rw[Fz]
 by_cases hk:k=2
 ·subst hk
  have hr:Bd 17 (0:UInt8)=List.replicate (uniq 2).toNat 0:=zbp
  rw[Ae]
  conv=>lhs;whnf
  rw[MC zaa]
  conv=>lhs;whnf
  rw[ER zaa]
  conv=>lhs;whnf
  rw[ER zaa]
  conv=>lhs;whnf
  rw[hr];refine tq ?_;rw[Zt ..];refine tq ?_
  rcases AX (Bv {kind:=2,attr:=a,height:=h,policy:=o,unique:=List.replicate (uniq 2).toNat 0}) 0 with hc0|hc0
  ·refine tq ?_;rw[Ky _];refine tq ?_
   (unfold Bq;dsimp only;(repeat(first|rw[if_pos zam]|rw[if_neg zam]));try rfl)
  refine tq ?_
  rcases AY 32 (↑auth.length) with hc1|hc1
  ·refine tq ?_;rw[Ky _];refine tq ?_
   (unfold Bq;dsimp only;(repeat(first|rw[if_pos zam]|rw[if_neg zam]));try rfl)
  refine tq ?_
  rcases AY 128 (↑data.length) with hc2|hc2
  ·refine tq ?_;rw[Ky _];refine tq ?_
   (unfold Bq;dsimp only;(repeat(first|rw[if_pos zam]|rw[if_neg zam]));try rfl)
  refine tq ?_
  rcases AY 0 (↑data.length) with hc3|hc3
  ·refine tq ?_;rw[Ky _];refine tq ?_
   (unfold Bq;dsimp only;(repeat(first|rw[if_pos zam]|rw[if_neg zam]));try rfl)
  refine tq ?_;rw[show strOf {data := #[115,101,101,100]}=H9 from rfl,JV _ _ _ _ zaa zal zao];refine tq ?_;rw[SC _ _ _ _ _ A8 A8 A8];refine tq ?_
  (unfold Bq;dsimp only;(repeat(first|rw[if_pos zam]|rw[if_neg zam]));try rfl)
 ·have hr:Bd 32 (0:UInt8)=List.replicate (uniq k).toNat 0:=by rw[Fz,uniq,if_neg hk]
  rw[Ae]
  conv=>lhs;whnf
  rw[hr];refine tq ?_;rw[Zt ..];refine tq ?_
  rcases AX (Bv {kind:=k,attr:=a,height:=h,policy:=o,unique:=List.replicate (uniq k).toNat 0}) 0 with hc0|hc0
  ·refine tq ?_;rw[Ky _];refine tq ?_
   (unfold Bq;dsimp only;(repeat(first|rw[if_pos zam]|rw[if_neg zam]));try rfl)
  refine tq ?_
  rcases AY 32 (↑auth.length) with hc1|hc1
  ·refine tq ?_;rw[Ky _];refine tq ?_
   (unfold Bq;dsimp only;(repeat(first|rw[if_pos zam]|rw[if_neg zam]));try rfl)
  refine tq ?_
  rcases AY 128 (↑data.length) with hc2|hc2
  ·refine tq ?_;rw[Ky _];refine tq ?_
   (unfold Bq;dsimp only;(repeat(first|rw[if_pos zam]|rw[if_neg zam]));try rfl)
  refine tq ?_
  rcases AY 0 (↑data.length) with hc3|hc3
  ·refine tq ?_
   rcases AX k 3 with hc4|hc4
   ·refine tq ?_;rw[Ky _];refine tq ?_
    (unfold Bq;dsimp only;(repeat(first|rw[if_pos zam]|rw[if_neg zam]));try rfl)
   subst hc4;refine tq ?_;rw[show strOf {data := #[115,101,101,100]}=H9 from rfl,JV _ _ _ _ zaa zal zao];refine tq ?_;rw[SC _ _ _ _ _ A8 A8 A8];refine tq ?_
   (unfold Bq;dsimp only;(repeat(first|rw[if_pos zam]|rw[if_neg zam]));try rfl)
  refine tq ?_;rw[show strOf {data := #[115,101,101,100]}=H9 from rfl,JV _ _ _ _ zaa zal zao];refine tq ?_;rw[SC _ _ _ _ _ A8 A8 A8];refine tq ?_
  (unfold Bq;dsimp only;(repeat(first|rw[if_pos zam]|rw[if_neg zam]));try rfl)
theorem SE(secret:List UInt8)(k a h:Int)(o u auth data:List UInt8)(hs:secret.length<=100000):Y E0 (.call 123 [.sl .u8 secret,.agg [.i k,.i a,.i h,.sl .u8 o,.sl .u8 u],.sl .u8 auth,.sl .u8 data] [])=some (.ret (.tup [.agg (Yu (Bq secret ⟨k,a,h,o,u⟩ auth data).1),.agg (dG (Bq secret ⟨k,a,h,o,u⟩ auth data).2.1),.i (Bq secret ⟨k,a,h,o,u⟩ auth data).2.2]) []):=by
 have hu:=dD k
 have hd:=Fq (key:=secret) (label:=H9) (ctx:=[]) (n:=32) zaa
 have hE:Bd (uniq k) (0:UInt8)=List.replicate (uniq k).toNat 0:=by rw[Fz]
 by_cases hk:k=2
 ·subst hk
  have hr:Bd 17 (0:UInt8)=List.replicate (uniq 2).toNat 0:=zbp
  refine tq ?_;rw[F6 _]
  conv=>lhs;whnf
  rw[hE];refine tq ?_;rw[JY ..];refine tq ?_
  rcases AX (Bv {kind:=2,attr:=a,height:=h,policy:=o,unique:=List.replicate (uniq 2).toNat 0}) 0 with hc0|hc0
  ·refine tq ?_
   (unfold Bq;dsimp only;(repeat(first|rw[if_pos zam]|rw[if_neg zam]));try rfl)
  refine tq ?_
  rcases AY 32 (↑auth.length) with hc1|hc1
  ·refine tq ?_
   (unfold Bq;dsimp only;(repeat(first|rw[if_pos zam]|rw[if_neg zam]));try rfl)
  refine tq ?_
  rcases AY 128 (↑data.length) with hc2|hc2
  ·refine tq ?_
   (unfold Bq;dsimp only;(repeat(first|rw[if_pos zam]|rw[if_neg zam]));try rfl)
  refine tq ?_
  rcases AY 0 (↑data.length) with hc3|hc3
  ·refine tq ?_
   (unfold Bq;dsimp only;(repeat(first|rw[if_pos zam]|rw[if_neg zam]));try rfl)
  refine tq ?_;rw[show strOf {data := #[115,101,101,100]}=H9 from rfl,EZ _ _ _ _ zaa zal zao];refine tq ?_;rw[LP _ _ _ _ _ A8 A8 A8];refine tq ?_
  (unfold Bq;dsimp only;(repeat(first|rw[if_pos zam]|rw[if_neg zam]));try rfl)
 ·have hr:Bd 32 (0:UInt8)=List.replicate (uniq k).toNat 0:=by rw[Fz,uniq,if_neg hk]
  refine tq ?_;rw[F6 _]
  conv=>lhs;whnf
  rw[hE];refine tq ?_;rw[JY ..];refine tq ?_
  rcases AX (Bv {kind:=k,attr:=a,height:=h,policy:=o,unique:=List.replicate (uniq k).toNat 0}) 0 with hc0|hc0
  ·refine tq ?_
   (unfold Bq;dsimp only;(repeat(first|rw[if_pos zam]|rw[if_neg zam]));try rfl)
  refine tq ?_
  rcases AY 32 (↑auth.length) with hc1|hc1
  ·refine tq ?_
   (unfold Bq;dsimp only;(repeat(first|rw[if_pos zam]|rw[if_neg zam]));try rfl)
  refine tq ?_
  rcases AY 128 (↑data.length) with hc2|hc2
  ·refine tq ?_
   (unfold Bq;dsimp only;(repeat(first|rw[if_pos zam]|rw[if_neg zam]));try rfl)
  refine tq ?_
  rcases AY 0 (↑data.length) with hc3|hc3
  ·refine tq ?_
   rcases AX k 3 with hc4|hc4
   ·refine tq ?_
    (unfold Bq;dsimp only;(repeat(first|rw[if_pos zam]|rw[if_neg zam]));try rfl)
   subst hc4;refine tq ?_;rw[show strOf {data := #[115,101,101,100]}=H9 from rfl,EZ _ _ _ _ zaa zal zao];refine tq ?_;rw[LP _ _ _ _ _ A8 A8 A8];refine tq ?_
   (unfold Bq;dsimp only;(repeat(first|rw[if_pos zam]|rw[if_neg zam]));try rfl)
  refine tq ?_;rw[show strOf {data := #[115,101,101,100]}=H9 from rfl,EZ _ _ _ _ zaa zal zao];refine tq ?_;rw[LP _ _ _ _ _ A8 A8 A8];refine tq ?_
  (unfold Bq;dsimp only;(repeat(first|rw[if_pos zam]|rw[if_neg zam]));try rfl)
theorem VN(a s d:List UInt8)(nm:List UInt8)(hs:s.length<=100000)(hn:nm.length<=100000):Y E0 (.call 187 [.agg [.sl .u8 a,.sl .u8 s,.sl .u8 d],.sl .u8 nm] [])=some (.ret (.sl .u8 (wkey ⟨a,s,d⟩ nm)) []):=by
 refine tq ?_;rw[show strOf {data := #[112,114,105,118,97,116,101]}=A3m from rfl,EZ _ _ _ _ zaa zal zaa];refine tq ?_
 (unfold wkey;rfl)
theorem YT(a s d:List UInt8)(k t h:Int)(o u a' s' d':List UInt8)(hs:s.length<=100000)(ho:o.length<=60000)(hu:u.length<=60000):Y E0 (.call 130 [.agg [.sl .u8 a,.sl .u8 s,.sl .u8 d],.agg [.i k,.i t,.i h,.sl .u8 o,.sl .u8 u],.agg [.sl .u8 a',.sl .u8 s',.sl .u8 d']] [])=some (.ret (.nm 0) [some (.row 5 .u8 (FH ⟨a,s,d⟩ ⟨k,t,h,o,u⟩ ⟨a',s',d'⟩))]):=by
 have hn:=Ac ⟨k,t,h,o,u⟩
 have he:=Jh (p:=⟨k,t,h,o,u⟩) zay zay
 have hw:=BN ⟨a,s,d⟩ (nameB ⟨k,t,h,o,u⟩)
 simp only at he
 refine tq ?_;rw[Ff _ _ _ _ _ A8 A8];refine tq ?_;rw[Fb _ _ A8];refine tq ?_;rw[Fb _ _ A8];refine tq ?_;rw[Fb _ _ A8];refine tq ?_;rw[VN _ _ _ _ A8 A8];refine tq ?_;rw[I8 _ _ _ _ _ A8 A8];refine tq ?_;rw[xA _ _ _ _ A8 A8];refine tq ?_
 (unfold FH YL;rfl)
end
section
attribute [local irreducible] Cj Dt D9 DT DK BH Du Ey Fh FD Et D7 CV Df DX and' Dk DU CG Ba Bl CJ CS BK BM BB BG Dv G7 Dw EM Dl Bh CO Bz C9 Bo BD Bi BO Be BZ Dx Bf DL Bd BI D6 Dy fits Dz Dn AZ Ap BL
attribute [local irreducible] E5 CP Bq nameB ES Em Ar
theorem A1P(h:Int):(YK h).length<=32:=by
 unfold YK;split
 ·simp
 ·rw[A7];exact Nat.le_refl _
theorem Pn(x:Idx):(U8 x).length=32:=A7 _
theorem A1Q{key label ctx:List UInt8}{n:Int}(hn:0<=n/\n<=32):(E5 key label ctx n).length<=32:=by
 obtain⟨m,rfl⟩:∃ m:Nat,n=m:=⟨n.toNat,by omega⟩;rw[VG zaa];omega
theorem Qx(s:MS)(h:Int){a k:Int}(hi:Kp a k s):∀(n:Nat) (j:Int),0<=j->j+n=s.ix.length->Ah E0 (.loop 148 0 0 1 [(1,.i h),(2,.pa 0 0),(5,.i j)] [(0,some (.var (cv s)))]) fun r=>(∃ i:Int,(0<=i/\i<s.ix.length)/\r=some (.fin .ret 0 [(4,.i i)] []))\/r=some (.fin (.exit 0) 0 [] [])
 | 0,j,h0,hj=>by
  have hl:=hi.ixl
  refine CU fun P hP=>?_
  refine tw ?_;exact hP _ (Or.inr rfl)
 | n+1,j,h0,hj=>by
  have hl:=hi.ixl
  have ih:=Qx s h hi n (j+1) zaa zaa
  refine CU fun P hP=>?_
  refine tw ?_;obtain⟨⟨x0a,x0b,x0c,x0d,x0e,x0f,x0g,x0h⟩,f0,g0⟩:=DF hi.ixm (i:=j) A8;simp only[GL,G6,Gn,FZ,CX,DI,DJ,D8] at f0;rw[g0];refine tw ?_
  rcases AL h (256+x0a) with hc1|hc1
  ·subst hc1;refine tw ?_;exact hP _ (Or.inl ⟨j,A8,rfl⟩)
  refine tw ?_;exact hP _ ih
theorem UE(s:MS)(h:Int){a k:Int}(hi:Kp a k s):∀(n:Nat) (j:Int),0<=j->j+n=s.ob.length->Ah E0 (.loop 59 0 0 1 [(1,.i h),(2,.pa 0 0),(5,.i j)] [(0,some (.var (cv s)))]) fun r=>(∃ i:Int,(0<=i/\i<s.ob.length)/\r=some (.fin .ret 0 [(4,.i i)] []))\/r=some (.fin (.exit 0) 0 [] [])
 | 0,j,h0,hj=>by
  have hl:=hi.obl
  refine CU fun P hP=>?_
  refine tw ?_;exact hP _ (Or.inr rfl)
 | n+1,j,h0,hj=>by
  have hl:=hi.obl
  have ih:=UE s h hi n (j+1) zaa zaa
  refine CU fun P hP=>?_
  refine tw ?_
  rcases AL h (512+j) with hc0|hc0
  ·subst hc0;refine tw ?_;obtain⟨⟨⟨x1a,x1b,x1c,x1d,x1e⟩,⟨x1f,x1g,x1h⟩,x1i⟩,f1,g1⟩:=DF hi.obm (i:=j) A8;simp only[GL,G6,Gn,FZ,CX,DI,DJ,D8] at f1;rw[g1];refine tw ?_
   rcases AX x1a 0 with hc2|hc2
   ·refine tw ?_;exact hP _ (Or.inl ⟨j,A8,rfl⟩)
   subst hc2;refine tw ?_;exact hP _ ih
  refine tw ?_;exact hP _ ih
theorem Vu(l:List Int)(n:Int)(hl:l.length<=100000):∀(m:Nat) (j:Int),0<=j->j+m=l.length->Ah E0 (.loop 297 0 0 0 [(0,.sl .i64 l),(1,.i n),(5,.i j)] []) fun r=>r=some (.fin .ret 0 [(4,.b true)] [])\/r=some (.fin (.exit 0) 0 [] [])
 | 0,j,h0,hj=>by
  refine CU fun P hP=>?_
  refine tw ?_;exact hP _ (Or.inr rfl)
 | m+1,j,h0,hj=>by
  have ih:=Vu l n hl m (j+1) zaa zaa
  refine CU fun P hP=>?_
  refine tw ?_;obtain⟨x0,m0,g0⟩:=EL (l:=l) (i:=j) zaa;rw[g0];refine tw ?_
  rcases AL x0 n with hc1|hc1
  ·subst hc1;refine tw ?_;exact hP _ (Or.inl rfl)
  refine tw ?_;exact hP _ ih
theorem Ha(s:MS)(h:Int){a k:Int}(hi:Kp a k s):Ah E0 (.call 148 [av s,.i h] []) fun r=>∃ i:Int,(-1<=i/\i<s.ix.length)/\r=some (.ret (.i i) []):=by
 have hl:=hi.ixl
 refine CU fun P hP=>tw ?_
 obtain(⟨i0,⟨h0_1,h0_2⟩,yy0⟩|yy0):=Qx s h hi (Int.toNat (↑s.ix.length-(0))) 0 A8 zaa
 ·refine Am yy0 ?_;exact hP _ ⟨i0,A8,rfl⟩
 refine Am yy0 ?_;exact hP _ ⟨-1,A8,rfl⟩
theorem KD(s:MS)(h:Int){a k:Int}(hi:Kp a k s):Ah E0 (.call 59 [av s,.i h] []) fun r=>∃ i:Int,(-1<=i/\i<s.ob.length)/\r=some (.ret (.i i) []):=by
 have hl:=hi.obl
 refine CU fun P hP=>tw ?_
 obtain(⟨i0,⟨h0_1,h0_2⟩,yy0⟩|yy0):=UE s h hi (Int.toNat (↑s.ob.length-(0))) 0 A8 zaa
 ·refine Am yy0 ?_;exact hP _ ⟨i0,A8,rfl⟩
 refine Am yy0 ?_;exact hP _ ⟨-1,A8,rfl⟩
theorem SG(s:MS)(h:Int){a k:Int}(hi:Kp a k s)(hh : -100000<=h/\h<=1099511627776):Ah E0 (.call 197 [av s,.i h] []) fun r=>∃ i:Int,(-1<=i/\i<s.ss.length/\(i<0\/i=h-768))/\r=some (.ret (.i i) []):=by
 have hl:=hi.ssl
 refine CU fun P hP=>?_
 refine tv ?_
 rcases AY h 768 with hc0|hc0
 ·refine tw ?_;exact hP _ ⟨-1,A8,rfl⟩
 refine tw ?_
 rcases DD (↑s.ss.length) (h-768) with hc1|hc1
 ·refine tw ?_;exact hP _ ⟨-1,A8,rfl⟩
 refine tw ?_;obtain⟨⟨x2a,x2b,x2c,x2d,x2e,x2f,x2g,x2h⟩,f2,g2⟩:=DF hi.ssm (i:=h-768) A8;simp only[GL,G6,Gn,FZ,CX,DI,DJ,D8] at f2;rw[g2];refine tw ?_
 rcases AL x2a 0 with hc3|hc3
 ·subst hc3;refine tw ?_;exact hP _ ⟨-1,A8,rfl⟩
 refine tw ?_;exact hP _ ⟨h-768,A8,rfl⟩
theorem IV(s:MS)(h:Int){a k:Int}(hi:Kp a k s)(hh : -100000<=h/\h<=1099511627776):Ah E0 (.call 145 [av s,.i h] []) fun r=>∃(e c:Int) (n d:List UInt8) (u l m t:Int) (b:Bool),((e=0->0<=h-768/\h-768<s.ss.length)/\n.length<=32/\d.length<=32)/\r=some (.ret (.tup [seA c n d u l m t b,.i e]) []):=by
 have hl:=hi.ssl
 refine CU fun P hP=>tw ?_
 obtain⟨i0,⟨h0_1,h0_2,h0_3⟩,yy0⟩:=SG s h hi A8;refine Am yy0 ?_
 rcases AY i0 0 with hc1|hc1
 ·refine tw ?_;exact hP _ ⟨8,0,[],[],0,0,0,0,false,A8,rfl⟩
 refine tw ?_;obtain⟨⟨x2a,x2b,x2c,x2d,x2e,x2f,x2g,x2h⟩,f2,g2⟩:=DF hi.ssm (i:=i0) A8;simp only[GL,G6,Gn,FZ,CX,DI,DJ,D8] at f2;rw[g2];refine tw ?_;exact hP _ ⟨0,x2a,x2b,x2c,x2d,x2e,x2f,x2g,x2h,A8,rfl⟩
theorem KE(l:List Int)(n:Int)(hl:l.length<=100000):Ah E0 (.call 297 [.sl .i64 l,.i n] []) fun r=>∃ b:Bool,r=some (.ret (.b b) []):=by
 refine CU fun P hP=>tw ?_
 obtain(yy0|yy0):=Vu l n A8 (Int.toNat (↑l.length-(0))) 0 A8 zaa
 ·refine Am yy0 ?_;exact hP _ ⟨true,rfl⟩
 refine Am yy0 ?_;exact hP _ ⟨false,rfl⟩
theorem Yv(o x y:Int):Ah E0 (.call 319 [.i o,.i x,.i y] []) fun r=>∃ b:Bool,r=some (.ret (.b b) []):=by
 refine CU fun P hP=>tw ?_
 rcases AL o 0 with hc0|hc0
 ·subst hc0;refine tw ?_;exact hP _ ⟨Ey x y,rfl⟩
 refine tw ?_
 rcases AL o 1 with hc1|hc1
 ·subst hc1;refine tw ?_;exact hP _ ⟨Fh x y,rfl⟩
 refine tw ?_
 rcases AL o 2 with hc2|hc2
 ·subst hc2;refine tw ?_;exact hP _ ⟨FD x y,rfl⟩
 refine tw ?_;exact hP _ ⟨Et y x,rfl⟩
theorem UF(s:MS)(n:Int){a k:Int}(hi:Kp a k s)(hn:0<=n/\n<=32)(hk:k<=900):Ah E0 (.call 129 [av s,.i n] []) fun r=>∃(t:MS) (b:List UInt8),(Kp a (k+1) t/\t={s with dr:=s.dr+1}/\b.length<=32)/\r=some (.ret (.tup [av t,.sl .u8 b]) []):=by
 have hl:=hi.en
 have hd:=hi.dr
 refine CU fun P hP=>tw ?_
 rw[CQ _ _ _ A8];refine tw ?_;rw[CQ _ _ _ A8];refine tw ?_;rw[CQ _ _ _ A8];refine tv ?_;rw[show strOf {data := #[114,97,110,100,111,109]}=uJ from rfl,EZ _ _ _ _ zaa zal (by simp only[AP,List.length_nil];omega)]
 refine tw ?_;refine hP _ ⟨{s with dr:=s.dr+1},E5 s.en uJ (CE (CE (CE [] 8 s.re) 8 s.rs) 8 s.dr) n,?_,rfl⟩;exact⟨{hi.up (k':=k+1) zaa with dr:=by show 0<=s.dr+1/\s.dr+1<=k+1;omega},rfl,A1Q hn⟩
theorem dI(s:MS)(h:Int){a k:Int}(hi:Kp a k s):Ah E0 (.call 246 [av s,.i h] []) fun r=>∃ b:Bool,r=some (.ret (.b b) []):=by
 refine CU fun P hP=>tw ?_
 rcases DD 0 h with hc0|hc0
 ·refine tw ?_
  rcases DD h 3 with hc1|hc1
  ·refine tw ?_;exact hP _ ⟨true,rfl⟩
  refine tw ?_;obtain⟨i2,⟨h2_1,h2_2⟩,yy2⟩:=Ha s h hi;refine Am yy2 ?_
  rcases DD 0 i2 with hc3|hc3
  ·refine tw ?_;exact hP _ ⟨true,rfl⟩
  refine tw ?_;obtain⟨i4,⟨h4_1,h4_2⟩,yy4⟩:=KD s h hi;refine Am yy4 ?_;exact hP _ ⟨Et 0 i4,rfl⟩
 refine tw ?_;obtain⟨i5,⟨h5_1,h5_2⟩,yy5⟩:=Ha s h hi;refine Am yy5 ?_
 rcases DD 0 i5 with hc6|hc6
 ·refine tw ?_;exact hP _ ⟨true,rfl⟩
 refine tw ?_;obtain⟨i7,⟨h7_1,h7_2⟩,yy7⟩:=KD s h hi;refine Am yy7 ?_;exact hP _ ⟨Et 0 i7,rfl⟩
theorem SH(s:MS)(h:Int){a k:Int}(hi:Kp a k s):Ah E0 (.call 245 [av s,.i h] []) fun r=>∃ l:List UInt8,(l.length<=32)/\r=some (.ret (.sl .u8 l) []):=by
 have hl:=hi.ixl
 have hl':=hi.obl
 refine CU fun P hP=>tw ?_
 obtain⟨i0,⟨h0_1,h0_2⟩,yy0⟩:=Ha s h hi;refine Am yy0 ?_
 rcases DD 0 i0 with hc1|hc1
 ·refine tw ?_;obtain⟨⟨x2a,x2b,x2c,x2d,x2e,x2f,x2g,x2h⟩,f2,g2⟩:=DF hi.ixm (i:=i0) A8;simp only[GL,G6,Gn,FZ,CX,DI,DJ,D8] at f2;rw[g2];refine tw ?_;rw[Zu (hp:=A8) ..];refine tw ?_
  refine hP _ ⟨U8 {n:=x2a,kind:=x2b,attr:=x2c,size:=x2d,policy:=x2e,auth:=x2f,written:=x2g,data:=x2h},?_,rfl⟩;(simp only[Pn,A7,Ak,Ai,Ag,Ac,BN,AB,AC,AP,AO,Aj,LL] at *<;>omega)
 refine tw ?_;obtain⟨i3,⟨h3_1,h3_2⟩,yy3⟩:=KD s h hi;refine Am yy3 ?_
 rcases DD 0 i3 with hc4|hc4
 ·refine tw ?_;obtain⟨⟨⟨x5a,x5b,x5c,x5d,x5e⟩,⟨x5f,x5g,x5h⟩,x5i⟩,f5,g5⟩:=DF hi.obm (i:=i3) A8;simp only[GL,G6,Gn,FZ,CX,DI,DJ,D8] at f5;rw[g5];refine tw ?_;rw[Ff _ _ _ _ _ A8 A8];refine tw ?_;exact hP _ ⟨nameB {kind:=x5a,attr:=x5b,height:=x5c,policy:=x5d,unique:=x5e},A8,rfl⟩
 refine tw ?_;rw[nS _];refine tw ?_;refine hP _ ⟨YK h,?_,rfl⟩;exact A1P _
theorem Po(s:MS)(h:Int){a k:Int}(hi:Kp a k s):Ah E0 (.call 149 [av s,.i h] []) fun r=>∃ l:List UInt8,(l.length<=32)/\r=some (.ret (.sl .u8 l) []):=by
 have hl:=hi.ixl
 have hl':=hi.obl
 have hl2:=hi.aul
 refine CU fun P hP=>tw ?_
 obtain⟨i0,⟨h0_1,h0_2⟩,yy0⟩:=Ha s h hi;refine Am yy0 ?_
 rcases DD 0 i0 with hc1|hc1
 ·refine tw ?_;obtain⟨⟨x2a,x2b,x2c,x2d,x2e,x2f,x2g,x2h⟩,f2,g2⟩:=DF hi.ixm (i:=i0) A8;simp only[GL,G6,Gn,FZ,CX,DI,DJ,D8] at f2;rw[g2];refine tw ?_;exact hP _ ⟨x2f,A8,rfl⟩
 refine tw ?_;obtain⟨i3,⟨h3_1,h3_2⟩,yy3⟩:=KD s h hi;refine Am yy3 ?_
 rcases DD 0 i3 with hc4|hc4
 ·refine tw ?_;obtain⟨⟨⟨x5a,x5b,x5c,x5d,x5e⟩,⟨x5f,x5g,x5h⟩,x5i⟩,f5,g5⟩:=DF hi.obm (i:=i3) A8;simp only[GL,G6,Gn,FZ,CX,DI,DJ,D8] at f5;rw[g5];refine tw ?_;exact hP _ ⟨x5f,A8,rfl⟩
 refine tw ?_
 rcases DD 0 h with hc6|hc6
 ·refine tw ?_
  rcases AY h (↑s.au.length) with hc7|hc7
  ·refine tw ?_;obtain⟨x8,f8,g8⟩:=DF hi.aum (i:=h) A8;rw[g8];refine tw ?_;exact hP _ ⟨x8,A8,rfl⟩
  refine tw ?_;exact hP _ ⟨[],A8,rfl⟩
 refine tw ?_;exact hP _ ⟨[],A8,rfl⟩
theorem LQ(s:MS)(h:Int){a k:Int}(hi:Kp a k s):Ah E0 (.call 279 [av s,.i h] []) fun r=>∃ l:List UInt8,(l.length<=32)/\r=some (.ret (.sl .u8 l) []):=by
 have hl:=hi.ixl
 have hl':=hi.obl
 refine CU fun P hP=>tw ?_
 obtain⟨i0,⟨h0_1,h0_2⟩,yy0⟩:=Ha s h hi;refine Am yy0 ?_
 rcases DD 0 i0 with hc1|hc1
 ·refine tw ?_;obtain⟨⟨x2a,x2b,x2c,x2d,x2e,x2f,x2g,x2h⟩,f2,g2⟩:=DF hi.ixm (i:=i0) A8;simp only[GL,G6,Gn,FZ,CX,DI,DJ,D8] at f2;rw[g2];refine tw ?_;exact hP _ ⟨x2e,A8,rfl⟩
 refine tw ?_;obtain⟨i3,⟨h3_1,h3_2⟩,yy3⟩:=KD s h hi;refine Am yy3 ?_
 rcases DD 0 i3 with hc4|hc4
 ·refine tw ?_;obtain⟨⟨⟨x5a,x5b,x5c,x5d,x5e⟩,⟨x5f,x5g,x5h⟩,x5i⟩,f5,g5⟩:=DF hi.obm (i:=i3) A8;simp only[GL,G6,Gn,FZ,CX,DI,DJ,D8] at f5;rw[g5];refine tw ?_;exact hP _ ⟨x5d,A8,rfl⟩
 refine tw ?_;exact hP _ ⟨[],A8,rfl⟩
theorem Ol(s:MS)(h:Int){a k:Int}(hi:Kp a k s):Ah E0 (.call 281 [av s,.i h] []) fun r=>∃ b:Bool,r=some (.ret (.b b) []):=by
 have hl:=hi.ixl
 have hl':=hi.obl
 refine CU fun P hP=>tw ?_
 obtain⟨i0,⟨h0_1,h0_2⟩,yy0⟩:=Ha s h hi;refine Am yy0 ?_
 rcases DD 0 i0 with hc1|hc1
 ·refine tw ?_;obtain⟨⟨x2a,x2b,x2c,x2d,x2e,x2f,x2g,x2h⟩,f2,g2⟩:=DF hi.ixm (i:=i0) A8;simp only[GL,G6,Gn,FZ,CX,DI,DJ,D8] at f2;rw[g2];refine tw ?_;exact hP _ ⟨Ey (BH BinOp.and x2c 64) 0,rfl⟩
 refine tw ?_;obtain⟨i3,⟨h3_1,h3_2⟩,yy3⟩:=KD s h hi;refine Am yy3 ?_
 rcases DD 0 i3 with hc4|hc4
 ·refine tw ?_;obtain⟨⟨⟨x5a,x5b,x5c,x5d,x5e⟩,⟨x5f,x5g,x5h⟩,x5i⟩,f5,g5⟩:=DF hi.obm (i:=i3) A8;simp only[GL,G6,Gn,FZ,CX,DI,DJ,D8] at f5;rw[g5];refine tw ?_;exact hP _ ⟨Ey (BH BinOp.and x5b 2) 0,rfl⟩
 refine tw ?_;exact hP _ ⟨false,rfl⟩
theorem EF(s:MS)(i:Int)(c:Int)(n d:List UInt8)(u l m t:Int)(b:Bool){a k:Int}(hi:Kp a k s)(hj:0<=i/\i<s.ss.length)(hx:DJ n d l):Ah E0 (.call 198 [av s,.i i,seA c n d u l m t b] []) fun r=>∃ t:MS,(Kp a k t/\t.ob=s.ob/\t.sd=s.sd/\t.au=s.au)/\r=some (.ret (av t) []):=by
 have hl:=hi.ssl
 have hs:=jO (i:=i) (x:=((c,n,d,u,l,m,t,b):El sesT)) (p:=Gn) (l:=BI [] s.ss) (by rw[Aa];exact hi.ssm) hx
 have hl3:(BI [] s.ss).length=3:=by rw[Aa];exact hl
 refine CU fun P hP=>tw ?_
 obtain⟨x0,m0,g0⟩:=EL (l:=BI [] s.ss) (i:=i) zaa
 obtain⟨x0a,x0b,x0c,x0d,x0e,x0f,x0g,x0h⟩:=x0;rw[g0];refine tw ?_;refine hP _ ⟨{s with ss:=Bf (BI [] s.ss) i (c,n,d,u,l,m,t,b)},?_,rfl⟩;exact⟨{hi with ssl:=hs.1.trans hl3,ssm:=hs.2},rfl,rfl,rfl⟩
theorem jY(s:MS)(h:Int){a k:Int}(hi:Kp a k s)(hh : -100000<=h/\h<=1099511627776):Ah E0 (.call 135 [av s,.i h] []) fun r=>∃(e:Int) (t:MS),(e=0->Kp a k t/\t.ob=s.ob)/\r=some (.ret (.tup [av t,.i e]) []):=by
 have hl:=hi.ssl
 refine CU fun P hP=>tw ?_
 obtain⟨i0,⟨h0_1,h0_2,h0_3⟩,yy0⟩:=SG s h hi A8;refine Am yy0 ?_
 rcases AY i0 0 with hc1|hc1
 ·refine tw ?_;exact hP _ ⟨8,⟨[],[],[],0,0,0,0,false,[],0,0,[],0,0,0,0,0,0,[],false,false,[],0,0,false,0,[],[],[],[]⟩,A8,rfl⟩
 refine tw ?_
 obtain⟨t2,⟨h2_1,h2_2,h2_3,h2_4⟩,yy2⟩:=EF s i0 0 [] [] 0 0 0 0 false hi A8 (by(simp only[DJ,CX,DI,D8]<;>(simp only[Pn,A7,Ak,Ai,Ag,Ac,BN,AB,AC,AP,AO,Aj,LL] at *<;>omega)))
 refine Am yy2 ?_;exact hP _ ⟨0,t2,clo,rfl⟩
theorem Pq(s:MS)(h:Int){a k:Int}(hi:Kp a k s)(hh : -100000<=h/\h<=1099511627776):Ah E0 (.call 311 [av s,.i h] []) fun r=>∃ i:Int,(-1<=i/\i<s.ss.length)/\r=some (.ret (.i i) []):=by
 have hl:=hi.ssl
 refine CU fun P hP=>tw ?_
 obtain⟨i0,⟨h0_1,h0_2,h0_3⟩,yy0⟩:=SG s h hi A8;refine Am yy0 ?_
 rcases DD 0 i0 with hc1|hc1
 ·refine tw ?_;obtain⟨⟨x2a,x2b,x2c,x2d,x2e,x2f,x2g,x2h⟩,f2,g2⟩:=DF hi.ssm (i:=i0) A8;simp only[GL,G6,Gn,FZ,CX,DI,DJ,D8] at f2;rw[g2];refine tw ?_
  rcases AL x2a 1 with hc3|hc3
  ·subst hc3;refine tw ?_;exact hP _ ⟨-1,A8,rfl⟩
  refine tw ?_;exact hP _ ⟨i0,A8,rfl⟩
 refine tw ?_;exact hP _ ⟨i0,A8,rfl⟩
end
section
attribute [local irreducible] Cj Dt D9 DT DK BH Du Ey Fh FD Et D7 CV Df DX and' Dk DU CG Ba Bl CJ CS BK BM BB BG Dv G7 Dw EM Dl Bh CO Bz C9 Bo BD Bi BO Be BZ Dx Bf DL Bd BI D6 Dy fits Dz Dn AZ Ap BL
attribute [local irreducible] E5 CP Bq nameB ES Em Ar
theorem jZ{α:Type}{l:List α}{j:Nat}(h:j<l.length):BI (l.take j) [l[j]]=l.take (j+1):=by rw[Aa,List.take_succ_eq_append_getElem h]
theorem YU(b0 b1:List (List UInt8))(u:Int)(h0:b0.length<=16)(hm:∀ x∈b0,x.length<=1000):∀(n j:Nat),j+n=b0.length->Y E0 (.loop 156 1 0 4 [(1,AV.pa 0 0),(2,AV.pa 1 0),(3,AV.pa 2 0),(4,AV.i 0),(5,AV.nm 3),(6,AV.i (j:Int))] [(0,some (Rs.var [AV.sl Ty.u8.sl.sl [b0,b1],AV.i u])),(1,some (Rs.var [AV.nil,AV.i 0])),(2,some (Rs.var [AV.nil,AV.i u])),(3,some (Rs.row 22 Ty.u8.sl (b0.take j)))]) =
  some (.fin (.exit 2) 4 [(1,AV.pa 0 0),(2,AV.pa 1 0),(3,AV.pa 2 0),(4,AV.i 0),(5,AV.nm 3)] [(0,some (Rs.var [AV.sl Ty.u8.sl.sl [b0,b1],AV.i u])),(1,some (Rs.var [AV.nil,AV.i 0])),(2,some (Rs.var [AV.nil,AV.i u])),(3,some (Rs.row 22 Ty.u8.sl b0))])
 | 0,j,hj=>by
  obtain rfl:j=b0.length:=zaa
  rw[List.take_length]
  exact tq rfl
 | n+1,j,hj=>by
  have hg:BZ b0 (j:Int)=some (b0[j]'zaa):=GY zaa
  have hx:=hm _ (List.getElem_mem (show j<b0.length by omega))
  have ih:=YU b0 b1 u h0 hm n (j+1) zaa
  rw[show((j+1:Nat):Int)=(j:Int)+1 from by omega,<-jZ (show j<b0.length by omega)] at ih
  refine to ?_;rw[hg];refine tq ?_;rw[Hg _ A8];refine tq ?_;exact ih
theorem YV(b0 b1:List (List UInt8))(u:Int)(h0:b1.length<=16)(hm:∀ x∈b1,x.length<=1000):∀(n j:Nat),j+n=b1.length->Y E0 (.loop 156 1 0 6 [(1,AV.pa 0 0),(2,AV.pa 1 0),(3,AV.pa 2 0),(4,AV.i 1),(5,AV.nm 3),(6,AV.i (j:Int))] [(0,some (Rs.var [AV.sl Ty.u8.sl.sl [b0,b1],AV.i u])),(1,some (Rs.var [AV.nil,AV.i 0])),(2,some (Rs.var [AV.nm 4,AV.i u])),(3,some (Rs.row 22 Ty.u8.sl (b1.take j))),(4,some (.rowA 24 1 1 [AV.nm 5])),(5,some (Rs.row 22 Ty.u8.sl b0))]) =
  some (.fin (.exit 2) 6 [(1,AV.pa 0 0),(2,AV.pa 1 0),(3,AV.pa 2 0),(4,AV.i 1),(5,AV.nm 3)] [(0,some (Rs.var [AV.sl Ty.u8.sl.sl [b0,b1],AV.i u])),(1,some (Rs.var [AV.nil,AV.i 0])),(2,some (Rs.var [AV.nm 4,AV.i u])),(3,some (Rs.row 22 Ty.u8.sl b1)),(4,some (.rowA 24 1 1 [AV.nm 5])),(5,some (Rs.row 22 Ty.u8.sl b0))])
 | 0,j,hj=>by
  obtain rfl:j=b1.length:=zaa
  rw[List.take_length]
  exact tq rfl
 | n+1,j,hj=>by
  have hg:BZ b1 (j:Int)=some (b1[j]'zaa):=GY zaa
  have hx:=hm _ (List.getElem_mem (show j<b1.length by omega))
  have ih:=YV b0 b1 u h0 hm n (j+1) zaa
  rw[show((j+1:Nat):Int)=(j:Int)+1 from by omega,<-jZ (show j<b1.length by omega)] at ih
  refine to ?_;rw[hg];refine tq ?_;rw[Hg _ A8];refine tq ?_;exact ih
theorem ja(b0 b1:List (List UInt8))(u:Int)(h0:b0.length<=16)(h1:b1.length<=16)(m0:∀ x∈b0,x.length<=1000)(m1:∀ x∈b1,x.length<=1000):(Y E0 (.loop 156 0 0 3 [(1,AV.pa 0 0),(2,AV.pa 1 0),(3,AV.pa 2 0),(4,AV.i 0)] [(0,some (Rs.var [AV.sl Ty.u8.sl.sl [b0,b1],AV.i u])),(1,some (Rs.var [AV.nil,AV.i 0])),(2,some (Rs.var [AV.nil,AV.i u]))]))=some (.fin (.exit 0) 5 [(2,.pa 0 0),(3,.pa 1 0)] [(0,some (.var [.nil,.i 0])),(1,some (.var [.nm 2,.i u])),(2,some (.rowA 24 1 2 [.nm 3,.nm 4])),(3,some (.row 22 (.sl .u8) b0)),(4,some (.row 22 (.sl .u8) b1))]):=by
 have e:=YU b0 b1 u h0 m0 b0.length 0 zaa
 rw[List.take_zero,show((0:Nat):Int)=0 from rfl] at e
 have e':=YV b0 b1 u h1 m1 b1.length 0 zaa
 rw[List.take_zero,show((0:Nat):Int)=0 from rfl] at e'
 refine tq ?_;rw[e];refine tq ?_;refine tq ?_;rw[show(0:Int)+1=1 from rfl,e'];refine tq ?_;exact tq rfl
theorem YW:Y E0 (.call 204 [.i 0] [])=some (.ret (.i 20) []):=by
 exact tq rfl
theorem OQ:Y E0 (.call 204 [.i 1] [])=some (.ret (.i 32) []):=by
 exact tq rfl
theorem Zw(l:List UInt8)(hl:l.length<=4294967296):Y E0 (.call 309 [.i 0,.sl .u8 l] [])=some (.ret (.sl .u8 (sha1 l)) []):=by
 refine tq ?_;rw[A2u _ A8];exact tq rfl
theorem QX(l:List UInt8)(hl:l.length<=4294967296):Y E0 (.call 309 [.i 1,.sl .u8 l] [])=some (.ret (.sl .u8 (sha256 l)) []):=by
 refine tq ?_;rw[H8 _ A8];exact tq rfl
abbrev Om(rb:List (List (List UInt8)))(u:Int):AV:=.agg [.sl (.sl (.sl .u8)) rb,.i u]
theorem VO(b0 b1:List (List UInt8))(u:Int)(h0:b0.length<=16)(h1:b1.length<=16)(m0:∀ x∈b0,x.length<=1000)(m1:∀ x∈b1,x.length<=1000):Y E0 (.call 156 [Om [b0,b1] u] [])=some (.ret (.agg [.nm 0,.i u]) [some (.rowA 24 1 2 [.nm 1,.nm 2]),some (.row 22 (.sl .u8) b0),some (.row 22 (.sl .u8) b1)]):=by
 have e:=ja b0 b1 u h0 h1 m0 m1
 refine tq ?_;rw[e];exact tq rfl
theorem dJ(u:Int):(Y E0 (.loop 156 0 0 3 [(1,AV.pa 0 0),(2,AV.pa 1 0),(3,AV.pa 2 0),(4,AV.i 0)] [(0,some (Rs.var [AV.sl Ty.u8.sl.sl [],AV.i u])),(1,some (Rs.var [AV.nil,AV.i 0])),(2,some (Rs.var [AV.nil,AV.i u]))]))=some (.fin (.exit 0) 2 [(2,.pa 0 0),(3,.pa 1 0)] [(0,some (.var [.nil,.i 0])),(1,some (.var [.nil,.i u]))]):=by
 exact tq rfl
theorem YX(u:Int):Y E0 (.call 156 [Om [] u] [])=some (.ret (.agg [.nil,.i u]) []):=by
 have e:=dJ u
 refine tq ?_;rw[e];exact tq rfl
theorem KG(b:List (List UInt8))(l:List (List (List UInt8)))(u:Int)(hl:l.length<=100):Y E0 (.call 112 [Om (b::l) u,.i 0] [])=some (.ret (.b (decide (0<b.length))) []):=by
 refine tq ?_
 (rw[bi,BF];simp)
theorem G9(c b:List (List UInt8))(l:List (List (List UInt8)))(u:Int)(hl:l.length<=100):Y E0 (.call 112 [Om (c::b::l) u,.i 1] [])=some (.ret (.b (decide (0<b.length))) []):=by
 refine tq ?_
 (rw[bi,BF];simp)
theorem GG(u k:Int)(hk:0<=k):Y E0 (.call 112 [Om [] u,.i k] [])=some (.ret (.b false) []):=by
 exact tq rfl
theorem OT(i:Int)(b:Bool):Ah E0 (.call 308 [.i i,.b b] []) fun r=>∃ x:Int,(-1<=x/\x<=4)/\r=some (.ret (.i x) []):=by
 refine CU fun P hP=>tw ?_
 rcases bo b with rfl|rfl
 ·refine tw ?_
  rcases AY i 12 with hc1|hc1
  ·refine tw ?_;exact hP _ ⟨-1,A8,rfl⟩
  refine tw ?_
  rcases AL i 14 with hc2|hc2
  ·subst hc2;refine tw ?_;exact hP _ ⟨3,A8,rfl⟩
  refine tw ?_
  rcases AL i 15 with hc3|hc3
  ·subst hc3;refine tw ?_;exact hP _ ⟨4,A8,rfl⟩
  refine tw ?_;exact hP _ ⟨0,A8,rfl⟩
 refine tw ?_
 rcases AL i 14 with hc4|hc4
 ·subst hc4;refine tw ?_;exact hP _ ⟨2,A8,rfl⟩
 refine tw ?_
 rcases AL i 15 with hc5|hc5
 ·subst hc5;refine tw ?_;exact hP _ ⟨3,A8,rfl⟩
 refine tw ?_;exact hP _ ⟨0,A8,rfl⟩
theorem jb(b0 b1:List (List UInt8))(u i:Int)(ds:List (List UInt8))(hd:ds.length=2)(hdm:∀ x∈ds,x.length<=10000):Ah E0 (.loop 286 0 0 2 [(2,AV.i i),(3,AV.sl Ty.u8.sl ds),(4,AV.pa 0 0),(8,AV.pa 1 0),(10,AV.i 0)] [(0,some (Rs.var [AV.sl Ty.u8.sl.sl [b0,b1],AV.i u])),(1,some (Rs.var [AV.nil,AV.i 0]))]) fun r=>r=some (.fin .ret 2 [(2,AV.i i),(3,AV.sl Ty.u8.sl ds),(4,AV.pa 0 0),(8,AV.pa 1 0),(9,AV.i 27)] [(0,some (Rs.var [AV.sl Ty.u8.sl.sl [b0,b1],AV.i u])),(1,some (Rs.var [AV.nil,AV.i 0]))])\/r=some (.fin (.exit 0) 2 [(2,AV.i i),(3,AV.sl Ty.u8.sl ds),(4,AV.pa 0 0),(8,AV.pa 1 0)] [(0,some (Rs.var [AV.sl Ty.u8.sl.sl [b0,b1],AV.i u])),(1,some (Rs.var [AV.nil,AV.i 0]))]):=by
 refine CU fun P hP=>?_
 refine tw ?_;rw[KG _ _ _ A8];refine tw ?_
 rcases Decidable.em (0<b0.length) with hc0|hc0
 ·refine tw ?_;refine tw ?_;rw[G9 _ _ _ _ A8];refine tw ?_
  rcases Decidable.em (0<b1.length) with hc1|hc1
  ·refine tw ?_;refine tw ?_;exact hP _ (Or.inr rfl)
  refine tw ?_;obtain⟨x2,f2,g2⟩:=DF hdm (i:=1) A8;rw[g2];refine tw ?_
  rcases AY 0 (↑x2.length) with hc3|hc3
  ·refine tw ?_;exact hP _ (Or.inl rfl)
  refine tw ?_;refine tw ?_;exact hP _ (Or.inr rfl)
 refine tw ?_;obtain⟨x4,f4,g4⟩:=DF hdm (i:=0) A8;rw[g4];refine tw ?_
 rcases AY 0 (↑x4.length) with hc5|hc5
 ·refine tw ?_;exact hP _ (Or.inl rfl)
 refine tw ?_;refine tw ?_;rw[G9 _ _ _ _ A8];refine tw ?_
 rcases Decidable.em (0<b1.length) with hc6|hc6
 ·refine tw ?_;refine tw ?_;exact hP _ (Or.inr rfl)
 refine tw ?_;obtain⟨x7,f7,g7⟩:=DF hdm (i:=1) A8;rw[g7];refine tw ?_
 rcases AY 0 (↑x7.length) with hc8|hc8
 ·refine tw ?_;exact hP _ (Or.inl rfl)
 refine tw ?_;refine tw ?_;exact hP _ (Or.inr rfl)
theorem jc(b0 b1:List (List UInt8))(u i:Int)(ds:List (List UInt8))(hd:ds.length=2)(hdm:∀ x∈ds,x.length<=10000):Ah E0 (.loop 286 1 0 2 [(2,AV.i i),(3,AV.sl Ty.u8.sl ds),(4,AV.pa 0 0),(8,AV.pa 1 0),(11,AV.i 0)] [(0,some (Rs.var [AV.sl Ty.u8.sl.sl [b0,b1],AV.i u])),(1,some (Rs.var [AV.nil,AV.i 0]))]) fun r=>r=some (.fin .ret 2 [(2,AV.i i),(3,AV.sl Ty.u8.sl ds),(4,AV.pa 0 0),(8,AV.pa 1 0),(9,AV.i 24)] [(0,some (Rs.var [AV.sl Ty.u8.sl.sl [b0,b1],AV.i u])),(1,some (Rs.var [AV.nil,AV.i 0]))])\/r=some (.fin (.exit 2) 2 [(2,AV.i i),(3,AV.sl Ty.u8.sl ds),(4,AV.pa 0 0),(8,AV.pa 1 0)] [(0,some (Rs.var [AV.sl Ty.u8.sl.sl [b0,b1],AV.i u])),(1,some (Rs.var [AV.nil,AV.i 0]))]):=by
 refine CU fun P hP=>?_
 refine tw ?_;rw[KG _ _ _ A8];refine tw ?_
 rcases Decidable.em (0<b0.length) with hc0|hc0
 ·refine tw ?_;obtain⟨x1,f1,g1⟩:=DF hdm (i:=0) A8;rw[g1];refine tw ?_;rw[YW];refine tw ?_
  rcases AX (↑x1.length) 20 with hc2|hc2
  ·refine tw ?_;exact hP _ (Or.inl rfl)
  refine tw ?_;refine tw ?_;rw[G9 _ _ _ _ A8];refine tw ?_
  rcases Decidable.em (0<b1.length) with hc3|hc3
  ·refine tw ?_;obtain⟨x4,f4,g4⟩:=DF hdm (i:=1) A8;rw[g4];refine tw ?_;rw[OQ];refine tw ?_
   rcases AX (↑x4.length) 32 with hc5|hc5
   ·refine tw ?_;exact hP _ (Or.inl rfl)
   refine tw ?_;refine tw ?_;exact hP _ (Or.inr rfl)
  refine tw ?_;refine tw ?_;exact hP _ (Or.inr rfl)
 refine tw ?_;refine tw ?_;rw[G9 _ _ _ _ A8];refine tw ?_
 rcases Decidable.em (0<b1.length) with hc6|hc6
 ·refine tw ?_;obtain⟨x7,f7,g7⟩:=DF hdm (i:=1) A8;rw[g7];refine tw ?_;rw[OQ];refine tw ?_
  rcases AX (↑x7.length) 32 with hc8|hc8
  ·refine tw ?_;exact hP _ (Or.inl rfl)
  refine tw ?_;refine tw ?_;exact hP _ (Or.inr rfl)
 refine tw ?_;refine tw ?_;exact hP _ (Or.inr rfl)
theorem Jl{n:Nat}{b:List (List UInt8)}(h:b=[]\/FY n b)(hn:n<=1000):b.length<=16/\∀ x∈b,x.length<=1000:=by
 rcases h with rfl|⟨h1,h2⟩
 ·simp
 ·exact⟨by omega,fun x hx=>by rw[h2 x hx];exact hn⟩
theorem Io{b:List (List UInt8)}(h:¬0<b.length):b=[]:=List.eq_nil_of_length_eq_zero zaa
theorem Qy{n:Nat}{b:List (List UInt8)}(h:b=[]\/FY n b)(hb:0<b.length):FY n b:=by
 rcases h with rfl|h
 ·simp at hb
 ·exact h
theorem Ip{n:Nat}{b:List (List UInt8)}{i:Int}{x:List UInt8}(h:FY n b)(hx:x.length=n):FY n (Bf b i x):=by
 obtain⟨h1,h2⟩:=jO (i:=i) h.2 hx;exact⟨h1.trans h.1,h2⟩
theorem NC{n:Nat}{b:List (List UInt8)}(h:b=[]\/FY n b):b.length=0\/b.length=16:=by
 rcases h with rfl|h
 ·exact .inl rfl
 ·exact .inr h.1
theorem jd(b0 b1:List (List UInt8))(u i:Int)(ds:List (List UInt8))(h0:b0=[]\/FY 20 b0)(h1:b1=[]\/FY 32 b1)(hi:0<=i/\i<16)(hd:ds.length=2)(hdm:∀ x∈ds,x.length<=10000):Ah E0 (.loop 286 2 0 6 [(2,AV.i i),(3,AV.sl Ty.u8.sl ds),(4,AV.pa 0 0),(8,AV.pa 1 0),(12,.pa 2 0),(13,AV.i 0)] [(0,some (Rs.var [AV.sl Ty.u8.sl.sl [b0,b1],AV.i u])),(1,some (Rs.var [AV.nil,AV.i 0])),(2,some (.var [.nm 3,.i u])),(3,some (.rowA 24 1 2 [.nm 4,.nm 5])),(4,some (.row 22 (.sl .u8) b0)),(5,some (.row 22 (.sl .u8) b1))]) fun r=>∃ c0 c1:List (List UInt8),((b0=[]/\c0=[]\/FY 20 c0)/\(b1=[]/\c1=[]\/FY 32 c1))/\r=some (.fin (.exit 4) 5 [(8,.pa 0 0),(12,.pa 1 0)] [(0,some (.var [.nil,.i 0])),(1,some (.var [.nm 2,.i u])),(2,some (.rowA 24 1 2 [.nm 3,.nm 4])),(3,some (.row 22 (.sl .u8) c0)),(4,some (.row 22 (.sl .u8) c1))]):=by
 have k0:=(Jl h0 zal).2
 have k1:=(Jl h1 zal).2
 have q0:=NC h0
 have q1:=NC h1
 refine CU fun P hP=>?_
 refine tw ?_;rw[KG _ _ _ A8];refine tw ?_
 rcases Decidable.em (0<b0.length) with hc0|hc0
 ·refine tw ?_;obtain⟨x1,f1,g1⟩:=DF k0 (i:=i) A8;rw[g1];refine tw ?_;rw[Hg _ A8];refine tw ?_;obtain⟨x2,f2,g2⟩:=DF hdm (i:=0) A8;rw[g2];refine tw ?_;rw[Zw _ A8];refine tw ?_;rw[g1];refine tw ?_;refine tw ?_;rw[G9 _ _ _ _ A8];refine tw ?_
  rcases Decidable.em (0<b1.length) with hc3|hc3
  ·refine tw ?_;obtain⟨x4,f4,g4⟩:=DF k1 (i:=i) A8;rw[g4];refine tw ?_;rw[Hg _ A8];refine tw ?_;obtain⟨x5,f5,g5⟩:=DF hdm (i:=1) A8;rw[g5];refine tw ?_;rw[QX _ A8];refine tw ?_;rw[g4];refine tw ?_;refine tw ?_
   refine hP _ ⟨Bf b0 i (sha1 (BI x1 x2)),Bf b1 i (sha256 (BI x4 x5)),?_,rfl⟩;(refine⟨?_,?_⟩<;>first|exact .inl ⟨Io zaa,Io zaa⟩|exact .inr (Ip (Qy zat zaa) (by simp only[EE,A7])))
  refine tw ?_;refine tw ?_
  refine hP _ ⟨Bf b0 i (sha1 (BI x1 x2)),b1,?_,rfl⟩;(refine⟨?_,?_⟩<;>first|exact .inl ⟨Io zaa,Io zaa⟩|exact .inr (Ip (Qy zat zaa) (by simp only[EE,A7])))
 refine tw ?_;refine tw ?_;rw[G9 _ _ _ _ A8];refine tw ?_
 rcases Decidable.em (0<b1.length) with hc6|hc6
 ·refine tw ?_;obtain⟨x7,f7,g7⟩:=DF k1 (i:=i) A8;rw[g7];refine tw ?_;rw[Hg _ A8];refine tw ?_;obtain⟨x8,f8,g8⟩:=DF hdm (i:=1) A8;rw[g8];refine tw ?_;rw[QX _ A8];refine tw ?_;rw[g7];refine tw ?_;refine tw ?_
  refine hP _ ⟨b0,Bf b1 i (sha256 (BI x7 x8)),?_,rfl⟩;(refine⟨?_,?_⟩<;>first|exact .inl ⟨Io zaa,Io zaa⟩|exact .inr (Ip (Qy zat zaa) (by simp only[EE,A7])))
 refine tw ?_;refine tw ?_
 refine hP _ ⟨b0,b1,?_,rfl⟩;(refine⟨?_,?_⟩<;>first|exact .inl ⟨Io zaa,Io zaa⟩|exact .inr (Ip (Qy zat zaa) (by simp only[EE,A7])))
theorem je(b0 b1:List (List UInt8))(u lo i:Int)(ds:List (List UInt8))(h0:b0=[]\/FY 20 b0)(h1:b1=[]\/FY 32 b1)(hd:ds.length<=100)(hdm:∀ x∈ds,x.length<=10000):Ah E0 (.call 286 [Om [b0,b1] u,.i lo,.i i,.sl (.sl .u8) ds] []) fun r=>(∃ c0 c1:List (List UInt8),((b0=[]/\c0=[]\/FY 20 c0)/\(b1=[]/\c1=[]\/FY 32 c1))/\r=some (.ret (.tup [Om [c0,c1] (Cj u 1),.i 0]) []))\/∃ e:Int,(e≠0)/\r=some (.ret (.tup [Om [] 0,.i e]) []):=by
 have k0:=Jl h0 zal
 have k1:=Jl h1 zal
 refine CU fun P hP=>tw ?_
 rcases AY lo 0 with hc0|hc0
 ·refine tw ?_;exact hP _ (Or.inr ⟨1,A8,rfl⟩)
 refine tw ?_
 rcases AY 4 lo with hc1|hc1
 ·refine tw ?_;exact hP _ (Or.inr ⟨1,A8,rfl⟩)
 refine tw ?_
 rcases AY i 0 with hc2|hc2
 ·refine tw ?_;exact hP _ (Or.inr ⟨1,A8,rfl⟩)
 refine tw ?_
 rcases DD 16 i with hc3|hc3
 ·refine tw ?_;exact hP _ (Or.inr ⟨1,A8,rfl⟩)
 refine tw ?_
 rcases AX (↑ds.length) 2 with hc4|hc4
 ·refine tw ?_;exact hP _ (Or.inr ⟨1,A8,rfl⟩)
 refine tw ?_;obtain⟨x5,⟨h5_1,h5_2⟩,yy5⟩:=OT i false;refine Am yy5 ?_
 rcases AY lo x5 with hc6|hc6
 ·refine tw ?_;exact hP _ (Or.inr ⟨13,A8,rfl⟩)
 refine tw ?_
 obtain(yy7|yy7):=jb b0 b1 u i ds A8 A8
 ·refine Am yy7 ?_;exact hP _ (Or.inr ⟨27,A8,rfl⟩)
 refine Am yy7 ?_
 obtain(yy8|yy8):=jc b0 b1 u i ds A8 A8
 ·refine Am yy8 ?_;exact hP _ (Or.inr ⟨24,A8,rfl⟩)
 refine Am yy8 ?_;rw[VO _ _ _ k0.1 k1.1 k0.2 k1.2]
 conv=>arg 1;whnf
 rw[Ae]
 conv=>arg 1;whnf
 try dsimp -iota -beta -eta -zeta only
 rw[EY];obtain⟨c09,c19_1,⟨h9_2,h9_3⟩,yy9⟩:=jd b0 b1 u i ds A8 A8 A8 A8 A8
 erw[yy9]
 refine tw ?_;exact hP _ (Or.inl ⟨c09,c19_1,clo,rfl⟩)
end
section
attribute [local irreducible] Cj Dt D9 DT DK BH Du Ey Fh FD Et D7 CV Df DX and' Dk DU CG Ba Bl CJ CS BK BM BB BG Dv G7 Dw EM Dl Bh CO Bz C9 Bo BD Bi BO Be BZ Dx Bf DL Bd BI D6 Dy fits Dz Dn AZ Ap BL
attribute [local irreducible] E5 CP
theorem Pv(x:UInt8)(m:Nat)(hm:m<=1000):∀(k j:Nat),j+k=m->Y E0 (.loop 203 0 0 1 [(0,.i (m:Int)),(1,.u8 x),(5,.nm 0),(6,.i (j:Int))] [(0,some (.row 5 .u8 (List.replicate j x++List.replicate k 0)))])=some (.fin (.exit 0) 0 [(5,.sl .u8 (List.replicate m x))] [])
 | 0,j,hj=>by
  obtain rfl:j=m:=zaa
  refine tq ?_
  simp
 | k+1,j,hj=>by
  have ih:=Pv x m hm k (j+1) zaa
  rw[show((j+1:Nat):Int)=(j:Int)+1 from by omega,<-A2z] at ih
  have hs:Bf (List.replicate j x++List.replicate (k+1) 0) (j:Int) x=(List.replicate j x++List.replicate (k+1) 0).set j x:=by rw[G5];simp
  refine tq ?_;rw[hs];exact ih
theorem Nr(n:Int)(x:UInt8)(hn:0<=n/\n<=1000):Y E0 (.call 203 [.i n,.u8 x] [])=some (.ret (.sl .u8 (List.replicate n.toNat x)) []):=by
 obtain⟨m,rfl⟩:∃ m:Nat,n=m:=⟨n.toNat,by omega⟩
 have hl:=Pv x m zaa m 0 zaa
 rw[show((0:Nat):Int)=0 from rfl,List.replicate_zero,List.nil_append] at hl
 have he:Bd (m:Int) (0:UInt8)=List.replicate m 0:=by rw[Fz];simp
 refine tq ?_;rw[he,hl];refine tq ?_
 simp
theorem Zx(b:Int):Y E0 (.call 204 [.i b] [])=some (.ret (.i (Ov b)) []):=by
 refine tq ?_
 rcases AL b 0 with hc0|hc0
 ·subst hc0;refine tq ?_
  unfold Ov;(repeat(first|rw[if_pos zav]|rw[if_neg zav]));try simp only[NO]
 refine tq ?_
 rcases AL b 1 with hc1|hc1
 ·subst hc1;refine tq ?_
  unfold Ov;(repeat(first|rw[if_pos zav]|rw[if_neg zav]));try simp only[NO]
 refine tq ?_
 unfold Ov;(repeat(first|rw[if_pos zav]|rw[if_neg zav]));try simp only[NO]
theorem I9(b j:Int)(hb:b=0\/b=1):Y E0 (.call 155 [.i b,.i j] [])=some (.ret (.sl .u8 (List.replicate (Ov b).toNat (if 12<=j then 255 else 0))) []):=by
 have hs:0<=Ov b/\Ov b<=1000:=by unfold Ov;split<;>(try split)<;>omega
 refine tq ?_
 rcases DD 12 j with hc0|hc0
 ·refine tq ?_;rw[Zx _];refine tq ?_;rw[Nr _ _ A8];refine tq ?_
  (rw[if_pos zaa];try rfl)
 refine tq ?_;rw[Zx _];refine tq ?_;rw[Nr _ _ A8];refine tq ?_
 (rw[if_neg zaa];try rfl)
theorem Zy:Y E0 (.call 87 [] [])=some (.ret (.agg [.i 0,.i 5,.i 100,.i 0,.i 0,.i 1000]) []):=by
 exact tq rfl
theorem jf(a:Int)(h:BH .and (CV a (Bh 0).toNat) 1=1):∀(k j:Nat),j+k=16->Y E0 (.loop 88 1 0 3 [(0,.i a),(2,.pa 0 0),(3,.pa 1 0),(4,.i 0),(5,.nm 2),(6,.i (j:Int))] [(0,some (.var [.nil,.i 0])),(1,some (.var [.nil,.i 0])),(2,some (.row 22 (.sl .u8) (Nl 20 j)))])=some (.fin (.exit 2) 3 [(0,.i a),(2,.pa 0 0),(3,.pa 1 0),(4,.i 0),(5,.nm 2)] [(0,some (.var [.nil,.i 0])),(1,some (.var [.nil,.i 0])),(2,some (.row 22 (.sl .u8) (Nl 20 16)))])
 | 0,j,hj=>by
  obtain rfl:j=16:=zaa
  exact tq rfl
 | k+1,j,hj=>by
  have ih:=jf a h k (j+1) zaa
  rw[show((j+1:Nat):Int)=(j:Int)+1 from by omega,<-jM 0 20 j rfl] at ih
  refine tq ?_;rw[I9 _ _ A8];refine tq ?_;exact ih
theorem xC(a:Int)(h:BH .and (CV a (Bh 0).toNat) 1≠1):Y E0 (.loop 88 1 0 3 [(0,.i a),(2,.pa 0 0),(3,.pa 1 0),(4,.i 0),(5,.nm 2),(6,.i 0)] [(0,some (.var [.nil,.i 0])),(1,some (.var [.nil,.i 0])),(2,some (.row 22 (.sl .u8) []))])=some (.fin (.exit 2) 3 [(0,.i a),(2,.pa 0 0),(3,.pa 1 0),(4,.i 0),(5,.nm 2)] [(0,some (.var [.nil,.i 0])),(1,some (.var [.nil,.i 0])),(2,some (.row 22 (.sl .u8) []))]):=by
 exact tq rfl
theorem jg(a:Int)(l:List (List UInt8))(h:BH .and (CV a (Bh 1).toNat) 1=1):∀(k j:Nat),j+k=16->Y E0 (.loop 88 1 0 5 [(0,.i a),(2,.pa 0 0),(3,.pa 1 0),(4,.i 1),(5,.nm 2),(6,.i (j:Int))] [(0,some (.var [.nil,.i 0])),(1,some (.var [.nm 3,.i 0])),(2,some (.row 22 (.sl .u8) (Nl 32 j))),(3,some (.rowA 24 1 1 [.nm 4])),(4,some (.row 22 (.sl .u8) l))])=some (.fin (.exit 2) 5 [(0,.i a),(2,.pa 0 0),(3,.pa 1 0),(4,.i 1),(5,.nm 2)] [(0,some (.var [.nil,.i 0])),(1,some (.var [.nm 3,.i 0])),(2,some (.row 22 (.sl .u8) (Nl 32 16))),(3,some (.rowA 24 1 1 [.nm 4])),(4,some (.row 22 (.sl .u8) l))])
 | 0,j,hj=>by
  obtain rfl:j=16:=zaa
  exact tq rfl
 | k+1,j,hj=>by
  have ih:=jg a l h k (j+1) zaa
  rw[show((j+1:Nat):Int)=(j:Int)+1 from by omega,<-jM 1 32 j rfl] at ih
  refine tq ?_;rw[I9 _ _ A8];refine tq ?_;exact ih
theorem xE(a:Int)(l:List (List UInt8))(h:BH .and (CV a (Bh 1).toNat) 1≠1):Y E0 (.loop 88 1 0 5 [(0,.i a),(2,.pa 0 0),(3,.pa 1 0),(4,.i 1),(5,.nm 2),(6,.i 0)] [(0,some (.var [.nil,.i 0])),(1,some (.var [.nm 3,.i 0])),(2,some (.row 22 (.sl .u8) [])),(3,some (.rowA 24 1 1 [.nm 4])),(4,some (.row 22 (.sl .u8) l))])=some (.fin (.exit 2) 5 [(0,.i a),(2,.pa 0 0),(3,.pa 1 0),(4,.i 1),(5,.nm 2)] [(0,some (.var [.nil,.i 0])),(1,some (.var [.nm 3,.i 0])),(2,some (.row 22 (.sl .u8) [])),(3,some (.rowA 24 1 1 [.nm 4])),(4,some (.row 22 (.sl .u8) l))]):=by
 exact tq rfl
theorem A1R(a:Int)(l:List (List UInt8))(hl:l=if BH .and (CV a (Bh 0).toNat) 1=1 then U9 20 else []):Y E0 (.loop 88 1 0 3 [(0,.i a),(2,.pa 0 0),(3,.pa 1 0),(4,.i 0),(5,.nm 2),(6,.i 0)] [(0,some (.var [.nil,.i 0])),(1,some (.var [.nil,.i 0])),(2,some (.row 22 (.sl .u8) []))])=some (.fin (.exit 2) 3 [(0,.i a),(2,.pa 0 0),(3,.pa 1 0),(4,.i 0),(5,.nm 2)] [(0,some (.var [.nil,.i 0])),(1,some (.var [.nil,.i 0])),(2,some (.row 22 (.sl .u8) l))]):=by
 by_cases h:BH .and (CV a (Bh 0).toNat) 1=1
 ·rw[if_pos h] at hl;subst hl;exact jf a h 16 0 zaa
 ·rw[if_neg h] at hl;subst hl;exact xC a h
theorem A1S(a:Int)(l l':List (List UInt8))(hl:l'=if BH .and (CV a (Bh 1).toNat) 1=1 then U9 32 else []):Y E0 (.loop 88 1 0 5 [(0,.i a),(2,.pa 0 0),(3,.pa 1 0),(4,.i 1),(5,.nm 2),(6,.i 0)] [(0,some (.var [.nil,.i 0])),(1,some (.var [.nm 3,.i 0])),(2,some (.row 22 (.sl .u8) [])),(3,some (.rowA 24 1 1 [.nm 4])),(4,some (.row 22 (.sl .u8) l))])=some (.fin (.exit 2) 5 [(0,.i a),(2,.pa 0 0),(3,.pa 1 0),(4,.i 1),(5,.nm 2)] [(0,some (.var [.nil,.i 0])),(1,some (.var [.nm 3,.i 0])),(2,some (.row 22 (.sl .u8) l')),(3,some (.rowA 24 1 1 [.nm 4])),(4,some (.row 22 (.sl .u8) l))]):=by
 by_cases h:BH .and (CV a (Bh 1).toNat) 1=1
 ·rw[if_pos h] at hl;subst hl;exact jg a l h 16 0 zaa
 ·rw[if_neg h] at hl;subst hl;exact xE a l h
theorem jh(a:Int)(ha:0<=a):Y E0 (.call 88 [.i a] [])=some (.ret (.agg [.sl (.sl (.sl .u8)) (N8 a),.i 0]) []):=by
 have e3:BH .and a 3=a%4:=JR 2 zal a
 have b0:BH .and (CV a (Bh 0).toNat) 1=a%2:=by rw[show(Bh 0).toNat=0 from by rw[LJ];rfl,IJ zaa];exact(JR 1 zal _).trans zao
 have b1:BH .and (CV a (Bh 1).toNat) 1=a/2%2:=by rw[show(Bh 1).toNat=1 from by rw[LJ];rfl,IJ zaa];exact(JR 1 zal _).trans zao
 have q0:=A1R a _ (by rw[b0])
 have q1:=A1S a (if a%2=1 then U9 20 else []) _ (by rw[b1])
 have hl:Y E0 (.loop 88 0 0 2 [(0,AV.i a),(2,AV.pa 0 0),(3,AV.pa 1 0),(4,AV.i 0)] [(0,some (Rs.var [AV.nil,AV.i 0])),(1,some (Rs.var [AV.nil,AV.i 0]))])=some (.fin (.exit 0) 5 [(2,.pa 0 0),(3,.pa 1 0)] [(0,some (.var [.nil,.i 0])),(1,some (.var [.nm 2,.i 0])),(2,some (.rowA 24 1 2 [.nm 3,.nm 4])),(3,some (.row 22 (.sl .u8) (if a%2=1 then U9 20 else []))),(4,some (.row 22 (.sl .u8) (if a/2%2=1 then U9 32 else [])))]):=by
  refine tq ?_;rw[q0];refine tq ?_;refine tq ?_;rw[show(0:Int)+1=1 from rfl,q1];refine tq ?_;exact tq rfl
 refine tq ?_;rw[e3]
 rcases AL (a%4) 0 with hc0|hc0
 ·refine tq ?_
  (rw[N8,if_pos (show a%4=0 by omega)])
 refine tq ?_;rw[hl];refine tq ?_
 (rw[N8,if_neg (show ¬a%4=0 by omega)])
theorem ML(sd au:List (List UInt8))(en:List UInt8)(ac re rs ck:Int)(od:Bool)(sb:List (List (List UInt8)))(su mc:Int)(ix:List (El H5))(l1 l2 l3 l4 l5 l6:Int)(ks:List (El Ja)):Y E0 (.call 27 [.agg [.sl (.sl .u8) sd,.sl (.sl .u8) au,.sl .u8 en,.i ac,.i re,.i rs,.i ck,.b od,.sl (.sl (.sl .u8)) sb,.i su,.i mc,.sl H5 ix,.i l1,.i l2,.i l3,.i l4,.i l5,.i l6,.sl Ja ks]] [])=some (.ret ((sX sd au en ac re rs ck od sb su mc ix l1 l2 l3 l4 l5 l6 ks false false [] 0 0 false 0 (List.replicate 3 ses0) (List.replicate 3 obj0) [] [])) []):=by
 have h1:Bd 3 ((0,[],[],0,0,0,0,false):El sesT)=List.replicate 3 ses0:=zbp
 have h2:Bd 3 (((0,0,0,[],[]),([],[],[]),0):El objT)=List.replicate 3 obj0:=zbp
 refine tq ?_
 (rw[h1,h2])
theorem YY(en:List UInt8)(a:Int)(he:en.length=32)(ha:0<=a/\a<=3)(e:List UInt8):Y E0 (.loop 25 0 0 3 [(0,AV.sl Ty.u8 en),(4,AV.pa 0 0),(6,AV.pa 1 0),(7,AV.i 0)] [(0,some (Rs.var [AV.nil,AV.nil,AV.nil,AV.i 0,AV.i 0,AV.i 0,AV.i 0,AV.b false,AV.nil,AV.i 0,AV.i 0,AV.nil,AV.i 0,AV.i 0,AV.i 0,AV.i 0,AV.i 0,AV.i 0,AV.nil])),(1,some (Rs.var [AV.nil,AV.nm 2,AV.sl Ty.u8 e,AV.i a,AV.i 0,AV.i 0,AV.i 0,AV.b true,AV.nil,AV.i 0,AV.i 0,AV.nil,AV.i 0,AV.i 5,AV.i 100,AV.i 0,AV.i 0,AV.i 1000,AV.nil])),(2,some (Rs.row 22 Ty.u8.sl (Bd 4 [])))]) =
  some (.fin (.exit 0) 4 [(4,.pa 0 0),(6,.pa 1 0)] [(0,some (Rs.var [AV.nil,AV.nil,AV.nil,AV.i 0,AV.i 0,AV.i 0,AV.i 0,AV.b false,AV.nil,AV.i 0,AV.i 0,AV.nil,AV.i 0,AV.i 0,AV.i 0,AV.i 0,AV.i 0,AV.i 0,AV.nil])),(1,some (Rs.var [AV.nm 2,AV.nm 3,AV.sl Ty.u8 e,AV.i a,AV.i 0,AV.i 0,AV.i 0,AV.b true,AV.nil,AV.i 0,AV.i 0,AV.nil,AV.i 0,AV.i 5,AV.i 100,AV.i 0,AV.i 0,AV.i 1000,AV.nil])),(2,some (Rs.row 22 Ty.u8.sl (BI (BI [E5 en H9 [EM 0] 32] [E5 en H9 [EM 1] 32]) [E5 en H9 [EM 2] 32]))),(3,some (Rs.row 22 Ty.u8.sl (Bd 4 [])))]):=by
 refine tq ?_;rw[show strOf {data := #[115,101,101,100]}=H9 from rfl,EZ _ _ _ _ zaa zal zao];refine tq ?_;refine tq ?_;rw[show strOf {data := #[115,101,101,100]}=H9 from rfl,EZ _ _ _ _ zaa zal zao];refine tq ?_;refine tq ?_;rw[show strOf {data := #[115,101,101,100]}=H9 from rfl,EZ _ _ _ _ zaa zal zao];refine tq ?_;refine tq ?_
 rfl
theorem Zz(en:List UInt8)(a:Int)(he:en.length=32)(ha:0<=a/\a<=3):Y E0 (.call 25 [.sl .u8 en,.i a] [])=some (.ret (.tup [.agg [.sl (.sl .u8) (OO en),.sl (.sl .u8) [[],[],[],[]],.sl .u8 (E5 en jL [] 32),.i a,.i 0,.i 0,.i 0,.b true,.sl (.sl (.sl .u8)) [],.i 0,.i 0,.sl H5 [],.i 0,.i 5,.i 100,.i 0,.i 0,.i 1000,.sl Ja []],.i 0]) []):=by
 have h1:BI (BI [E5 en H9 [EM 0] 32] [E5 en H9 [EM 1] 32]) [E5 en H9 [EM 2] 32]=OO en:=by rw[Aa,Aa,F5,F5,F5];rfl
 have h2:Bd 4 ([]:List UInt8)=[[],[],[],[]]:=zbp
 refine tq ?_;rw[show strOf {data := #[101,110,116,114,111,112,121]}=jL from rfl,EZ _ _ _ _ zaa zal zao];refine tq ?_;rw[Zy];refine tq ?_;rw[YY _ _ A8 A8 _];refine tq ?_
 (rw[h1,h2])
variable (sd au:List (List UInt8))(en:List UInt8)(ac re rs ck:Int)(od:Bool)(sb:List (List (List UInt8)))(su mc:Int)(ix:List (El H5))(l1 l2 l3 l4 l5 l6:Int)(ks:List (El Ja))(st sp:Bool)(rb:List (List (List UInt8)))(ru vc:Int)(sf:Bool)(dr:Int)(ss:List (El sesT))(ob:List (El objT))(rl wl:List Int)
theorem Px(h:st=false/\sp=false)(hr:0<=re/\re<=1000000)(ha:0<=ac):Y E0 (.call 26 [(sX sd au en ac re rs ck od sb su mc ix l1 l2 l3 l4 l5 l6 ks st sp rb ru vc sf dr ss ob rl wl),.i 0] [])=some (.ret (.tup [(sX sd au en ac (re+1) 0 ck false [] 0 mc ix l1 l2 l3 l4 l5 l6 ks true sp (N8 ac) 0 ck od dr ss ob rl wl),.i 0]) []):=by
 obtain⟨rfl,rfl⟩:=h;refine tp ?_;rw[jh _ A8];exact tq rfl
theorem A32(h:st=true):Y E0 (.call 91 [(sX sd au en ac re rs ck od sb su mc ix l1 l2 l3 l4 l5 l6 ks st sp rb ru vc sf dr ss ob rl wl)] [])=some (.ret ((sX sd au en ac re rs ck od sb su mc ix l1 l2 l3 l4 l5 l6 ks st sp rb ru vc sf dr ss ob rl wl)) []):=by
 subst h;exact tq rfl
theorem A1T(h:st=true)(n:Int):Y E0 (.call 28 [(sX sd au en ac re rs ck od sb su mc ix l1 l2 l3 l4 l5 l6 ks st sp rb ru vc sf dr ss ob rl wl),.sl .u8 [],.sl .u8 [],.i n] [])=some (.ret ((sX sd au en ac re rs ck od sb su mc ix l1 l2 l3 l4 l5 l6 ks st sp rb ru vc sf dr ss ob rl wl)) []):=by
 subst h
 have hl:Y E0 (.loop 28 0 0 2 [(1,.sl .u8 []),(2,.sl .u8 []),(3,.i n),(4,.pa 0 0),(8,.pa 1 0),(9,.i 0)] [(0,some (.var [.sl (.sl .u8) sd,.sl (.sl .u8) au,.sl .u8 en,.i ac,.i re,.i rs,.i ck,.b od,.sl (.sl (.sl .u8)) sb,.i su,.i mc,.sl H5 ix,.i l1,.i l2,.i l3,.i l4,.i l5,.i l6,.sl Ja ks,.b true,.b sp,.sl (.sl (.sl .u8)) rb,.i ru,.i vc,.b sf,.i dr,.sl sesT ss,.sl objT ob,.sl .i64 rl,.sl .i64 wl])),(1,some (Rs.var [AV.nil,AV.nil,AV.nil,AV.i 0,AV.i 0,AV.i 0,AV.i 0,AV.b false,AV.nil,AV.i 0,AV.i 0,AV.nil,AV.i 0,AV.i 0,AV.i 0,AV.i 0,AV.i 0,AV.i 0,AV.nil,AV.b false,AV.b false,AV.nil,AV.i 0,AV.i 0,AV.b false,AV.i 0,AV.nil,AV.nil,AV.nil,AV.nil]))])=some (.fin (.exit 0) 2 [(4,.pa 0 0),(8,.pa 1 0)] [(0,some (.var [.sl (.sl .u8) sd,.sl (.sl .u8) au,.sl .u8 en,.i ac,.i re,.i rs,.i ck,.b od,.sl (.sl (.sl .u8)) sb,.i su,.i mc,.sl H5 ix,.i l1,.i l2,.i l3,.i l4,.i l5,.i l6,.sl Ja ks,.b true,.b sp,.sl (.sl (.sl .u8)) rb,.i ru,.i vc,.b sf,.i dr,.sl sesT ss,.sl objT ob,.sl .i64 rl,.sl .i64 wl])),(1,some (Rs.var [AV.nil,AV.nil,AV.nil,AV.i 0,AV.i 0,AV.i 0,AV.i 0,AV.b false,AV.nil,AV.i 0,AV.i 0,AV.nil,AV.i 0,AV.i 0,AV.i 0,AV.i 0,AV.i 0,AV.i 0,AV.nil,AV.b false,AV.b false,AV.nil,AV.i 0,AV.i 0,AV.b false,AV.i 0,AV.nil,AV.nil,AV.nil,AV.nil]))]):=by
  exact tq rfl
 refine tq ?_;rw[hl];refine tq ?_;rw[A32 _ _ _ _ _ _ _ _ _ _ _ _ _ _ _ _ _ _ _ _ _ _ _ _ _ _ _ _ _ _ rfl];exact tq rfl
theorem xG(n:Int):Y E0 (.call 7 [.i n,.sl .u8 [],.sl .u8 []] [])=some (.ret ((sX (OO A4l) [[],[],[],[]] (E5 A4l jL [] 32) (n%4) 1 0 0 false [] 0 0 [] 0 5 100 0 0 1000 [] true false (N8 (n%4)) 0 0 true 0 (List.replicate 3 ses0) (List.replicate 3 obj0) [] [])) []):=by
 have e3:BH .and n 3=n%4:=JR 2 zal n
 refine tq ?_;rw[Ig _]
 conv=>lhs;whnf
 try dsimp -iota -beta -eta -zeta only
 rw[e3];refine tq ?_;rw[Zz _ _ (AQ _) zaa];refine tq ?_;rw[ML ..];refine tq ?_;rw[Px _ _ _ _ _ _ _ _ _ _ _ _ _ _ _ _ _ _ _ _ _ _ _ _ _ _ _ _ _ _ ⟨rfl,rfl⟩ zaa zaa];refine tq ?_;rw[A1T _ _ _ _ _ _ _ _ _ _ _ _ _ _ _ _ _ _ _ _ _ _ _ _ _ _ _ _ _ _ rfl _];refine tq ?_
 rfl
end
section
attribute [local irreducible] Cj Dt D9 DT DK BH Du Ey Fh FD Et D7 CV Df DX and' Dk DU CG Ba Bl CJ CS BK BM BB BG Dv G7 Dw EM Dl Bh CO Bz C9 Bo BD Bi BO Be BZ Dx Bf DL Bd BI D6 Dy fits Dz Dn AZ Ap BL
attribute [local irreducible] E5 CP Bq nameB ES Em Ar
def WM(l:List (List UInt8)):Prop:=l.length=2/\∀ x∈l,x.length<=32
theorem dg0:WM (Bd 2 []):=by
 obtain⟨h1,h2⟩:=A1B (n:=2) (x:=([]:List UInt8)) (p:=fun x:List UInt8=>x.length<=32) zal zao;exact⟨by omega,h2⟩
theorem dgS{l:List (List UInt8)}{i:Int}{x:List UInt8}(h:WM l)(hx:x.length<=32):WM (Bf l i x):=by
 obtain⟨h1,h2⟩:=jO (i:=i) (p:=fun x:List UInt8=>x.length<=32) h.2 hx;exact⟨h1.trans h.1,h2⟩
theorem ji(b0 b1:List (List UInt8))(u:Int)(d:List UInt8)(hd:d.length<=10000):Ah E0 (.loop 287 0 0 2 [(1,AV.sl Ty.u8 d),(2,AV.pa 0 0),(5,AV.nm 1),(6,AV.i 0)] [(0,some (Rs.var [AV.sl Ty.u8.sl.sl [b0,b1],AV.i u])),(1,some (Rs.row 22 Ty.u8.sl (Bd 2 [])))]) fun r=>∃ l:List (List UInt8),(WM l)/\r=some (.fin (.exit 0) 0 [(5,.sl (.sl .u8) l)] []):=by
 have hl:(Bd 2 ([]:List UInt8)).length=2:=zbp
 refine CU fun P hP=>?_
 refine tw ?_;rw[KG _ _ _ A8];refine tw ?_
 rcases Decidable.em (0<b0.length) with hc0|hc0
 ·refine tw ?_;rw[Zw _ A8];refine tw ?_;obtain⟨x1,m1,g1⟩:=EL (l:=Bd 2 []) (i:=0) zaa;rw[g1];refine tw ?_;refine tw ?_;rw[G9 _ _ _ _ A8];refine tw ?_
  rcases Decidable.em (0<b1.length) with hc2|hc2
  ·refine tw ?_;rw[QX _ A8];refine tw ?_;obtain⟨x3,m3,g3⟩:=EL (l:=Bf (Bd 2 []) 0 (sha1 d)) (i:=1) zaq;rw[g3];refine tw ?_;refine tw ?_;refine hP _ ⟨Bf (Bf (Bd 2 []) 0 (sha1 d)) 1 (sha256 d),?_,rfl⟩;(repeat'(first|exact dg0|(refine dgS ?_ ?_)|(rw[EE];decide)|(rw[A7];decide)))
  refine tw ?_;refine tw ?_;refine hP _ ⟨Bf (Bd 2 []) 0 (sha1 d),?_,rfl⟩;(repeat'(first|exact dg0|(refine dgS ?_ ?_)|(rw[EE];decide)|(rw[A7];decide)))
 refine tw ?_;refine tw ?_;rw[G9 _ _ _ _ A8];refine tw ?_
 rcases Decidable.em (0<b1.length) with hc4|hc4
 ·refine tw ?_;rw[QX _ A8];refine tw ?_;obtain⟨x5,m5,g5⟩:=EL (l:=Bd 2 []) (i:=1) zaa;rw[g5];refine tw ?_;refine tw ?_;refine hP _ ⟨Bf (Bd 2 []) 1 (sha256 d),?_,rfl⟩;(repeat'(first|exact dg0|(refine dgS ?_ ?_)|(rw[EE];decide)|(rw[A7];decide)))
 refine tw ?_;refine tw ?_;refine hP _ ⟨Bd 2 [],?_,rfl⟩;(repeat'(first|exact dg0|(refine dgS ?_ ?_)|(rw[EE];decide)|(rw[A7];decide)))
theorem xH(b0 b1:List (List UInt8))(u:Int)(d:List UInt8)(hd:d.length<=10000):Ah E0 (.call 287 [Om [b0,b1] u,.sl .u8 d] []) fun r=>∃ l:List (List UInt8),(WM l)/\r=some (.ret (.sl (.sl .u8) l) []):=by
 refine CU fun P hP=>tw ?_
 obtain⟨l0,h0_1,yy0⟩:=ji b0 b1 u d A8;refine Am yy0 ?_;exact hP _ ⟨l0,A8,rfl⟩
theorem nT(b0 b1:List (List UInt8))(u i:Int)(h0:b0=[]\/FY 20 b0)(h1:b1=[]\/FY 32 b1)(hi:0<=i/\i<16):Ah E0 (.loop 289 0 0 6 [(2,AV.i i),(3,AV.pa 0 0),(6,AV.pa 1 0),(9,.pa 2 0),(10,AV.i 0)] [(0,some (Rs.var [AV.sl Ty.u8.sl.sl [b0,b1],AV.i u])),(1,some (Rs.var [AV.nil,AV.i 0])),(2,some (.var [.nm 3,.i u])),(3,some (.rowA 24 1 2 [.nm 4,.nm 5])),(4,some (.row 22 (.sl .u8) b0)),(5,some (.row 22 (.sl .u8) b1))]) fun r=>∃ c0 c1:List (List UInt8),((b0=[]/\c0=[]\/FY 20 c0)/\(b1=[]/\c1=[]\/FY 32 c1))/\r=some (.fin (.exit 0) 5 [(6,.pa 0 0),(9,.pa 1 0)] [(0,some (.var [.nil,.i 0])),(1,some (.var [.nm 2,.i u])),(2,some (.rowA 24 1 2 [.nm 3,.nm 4])),(3,some (.row 22 (.sl .u8) c0)),(4,some (.row 22 (.sl .u8) c1))]):=by
 have q0:=NC h0
 have q1:=NC h1
 refine CU fun P hP=>?_
 refine tw ?_;rw[KG _ _ _ A8];refine tw ?_
 rcases Decidable.em (0<b0.length) with hc0|hc0
 ·refine tw ?_;rw[YW];refine tw ?_;rw[Nr _ _ A8];refine tw ?_;obtain⟨x1,m1,g1⟩:=EL (l:=b0) (i:=i) zaa;rw[g1];refine tw ?_;refine tw ?_;rw[G9 _ _ _ _ A8];refine tw ?_
  rcases Decidable.em (0<b1.length) with hc2|hc2
  ·refine tw ?_;rw[OQ];refine tw ?_;rw[Nr _ _ A8];refine tw ?_;obtain⟨x3,m3,g3⟩:=EL (l:=b1) (i:=i) zaa;rw[g3];refine tw ?_;refine tw ?_
   refine hP _ ⟨Bf b0 i (List.replicate (Int.toNat 20) (UInt8.ofNat 0)),Bf b1 i (List.replicate (Int.toNat 32) (UInt8.ofNat 0)),?_,rfl⟩;(refine⟨?_,?_⟩<;>first|exact .inl ⟨Io zaa,Io zaa⟩|exact .inr (Ip (Qy zat zaa) zao))
  refine tw ?_;refine tw ?_
  refine hP _ ⟨Bf b0 i (List.replicate (Int.toNat 20) (UInt8.ofNat 0)),b1,?_,rfl⟩;(refine⟨?_,?_⟩<;>first|exact .inl ⟨Io zaa,Io zaa⟩|exact .inr (Ip (Qy zat zaa) zao))
 refine tw ?_;refine tw ?_;rw[G9 _ _ _ _ A8];refine tw ?_
 rcases Decidable.em (0<b1.length) with hc4|hc4
 ·refine tw ?_;rw[OQ];refine tw ?_;rw[Nr _ _ A8];refine tw ?_;obtain⟨x5,m5,g5⟩:=EL (l:=b1) (i:=i) zaa;rw[g5];refine tw ?_;refine tw ?_
  refine hP _ ⟨b0,Bf b1 i (List.replicate (Int.toNat 32) (UInt8.ofNat 0)),?_,rfl⟩;(refine⟨?_,?_⟩<;>first|exact .inl ⟨Io zaa,Io zaa⟩|exact .inr (Ip (Qy zat zaa) zao))
 refine tw ?_;refine tw ?_
 refine hP _ ⟨b0,b1,?_,rfl⟩;(refine⟨?_,?_⟩<;>first|exact .inl ⟨Io zaa,Io zaa⟩|exact .inr (Ip (Qy zat zaa) zao))
theorem nU(b0 b1:List (List UInt8))(u lo i:Int)(h0:b0=[]\/FY 20 b0)(h1:b1=[]\/FY 32 b1):Ah E0 (.call 289 [Om [b0,b1] u,.i lo,.i i] []) fun r=>(∃ c0 c1:List (List UInt8),((b0=[]/\c0=[]\/FY 20 c0)/\(b1=[]/\c1=[]\/FY 32 c1))/\r=some (.ret (.tup [Om [c0,c1] (Cj u 1),.i 0]) []))\/∃ e:Int,(e≠0)/\r=some (.ret (.tup [Om [] 0,.i e]) []):=by
 have k0:=Jl h0 zal
 have k1:=Jl h1 zal
 refine CU fun P hP=>tw ?_
 rcases AY lo 0 with hc0|hc0
 ·refine tw ?_;exact hP _ (Or.inr ⟨1,A8,rfl⟩)
 refine tw ?_
 rcases AY 4 lo with hc1|hc1
 ·refine tw ?_;exact hP _ (Or.inr ⟨1,A8,rfl⟩)
 refine tw ?_
 rcases AY i 0 with hc2|hc2
 ·refine tw ?_;exact hP _ (Or.inr ⟨1,A8,rfl⟩)
 refine tw ?_
 rcases DD 16 i with hc3|hc3
 ·refine tw ?_;exact hP _ (Or.inr ⟨1,A8,rfl⟩)
 refine tw ?_;obtain⟨x4,⟨h4_1,h4_2⟩,yy4⟩:=OT i true;refine Am yy4 ?_
 rcases AY x4 0 with hc5|hc5
 ·refine tw ?_;exact hP _ (Or.inr ⟨13,A8,rfl⟩)
 refine tw ?_
 rcases AY lo x4 with hc6|hc6
 ·refine tw ?_;exact hP _ (Or.inr ⟨13,A8,rfl⟩)
 refine tw ?_;rw[VO _ _ _ k0.1 k1.1 k0.2 k1.2];refine tw ?_;obtain⟨c07,c17_1,⟨h7_2,h7_3⟩,yy7⟩:=nT b0 b1 u i A8 A8 A8
 erw[yy7]
 refine tw ?_;exact hP _ (Or.inl ⟨c07,c17_1,clo,rfl⟩)
theorem jk(b0 b1:List (List UInt8))(u:Int)(h:b0=[]\/FY 20 b0):Ah E0 (.loop 89 1 0 5 [(2,AV.pa 0 0),(3,AV.pa 1 0),(4,AV.i 0),(5,AV.i 12)] [(0,some (Rs.var [AV.nil,AV.i 0])),(1,some (.var [.nm 2,.i u])),(2,some (.rowA 24 1 2 [.nm 3,.nm 4])),(3,some (.row 22 (.sl .u8) b0)),(4,some (.row 22 (.sl .u8) b1))]) fun r=>∃ c:List (List UInt8),(b0=[]/\c=[]\/FY 20 c)/\r=some (.fin (.exit 2) 5 [(2,.pa 0 0),(3,.pa 1 0),(4,.i 0)] [(0,some (Rs.var [AV.nil,AV.i 0])),(1,some (.var [.nm 2,.i u])),(2,some (.rowA 24 1 2 [.nm 3,.nm 4])),(3,some (.row 22 (.sl .u8) c)),(4,some (.row 22 (.sl .u8) b1))]):=by
 have q:=NC h
 refine CU fun P hP=>?_
 refine tw ?_
 rcases AY 12 (↑b0.length) with hc0|hc0
 ·refine tw ?_;rw[I9 _ _ A8];refine tw ?_;obtain⟨x1,m1,g1⟩:=EL (l:=b0) (i:=12) zaa;rw[g1];refine tw ?_;refine tw ?_;rw[I9 _ _ A8]
  conv=>arg 1;whnf
  rw[Gy zaq]
  conv=>arg 1;whnf
  rw[E8 zaq]
  conv=>arg 1;whnf
  try dsimp -iota -beta -eta -zeta only
  rw[drw zas];conv=>arg 1;whnf
  try dsimp -iota -beta -eta -zeta only
  rw[show Cj 13 1=14 from Aw zaa];refine tw ?_;rw[I9 _ _ A8]
  conv=>arg 1;whnf
  rw[Gy zaq]
  conv=>arg 1;whnf
  rw[E8 zaq]
  conv=>arg 1;whnf
  try dsimp -iota -beta -eta -zeta only
  rw[drw zas];conv=>arg 1;whnf
  try dsimp -iota -beta -eta -zeta only
  rw[show Cj 14 1=15 from Aw zaa];refine tw ?_;rw[I9 _ _ A8]
  conv=>arg 1;whnf
  rw[Gy zaq]
  conv=>arg 1;whnf
  rw[E8 zaq]
  conv=>arg 1;whnf
  try dsimp -iota -beta -eta -zeta only
  rw[drw zas];conv=>arg 1;whnf
  try dsimp -iota -beta -eta -zeta only
  rw[show Cj 15 1=16 from Aw zaa];refine tw ?_
  refine hP _ ⟨Bf (Bf (Bf (Bf b0 12 (List.replicate (Ov 0).toNat (if 12<=12 then 255 else 0))) 13 (List.replicate (Ov 0).toNat (if 12<=13 then 255 else 0))) 14 (List.replicate (Ov 0).toNat (if 12<=14 then 255 else 0))) 15 (List.replicate (Ov 0).toNat (if 12<=15 then 255 else 0)),?_,rfl⟩;(refine .inr (Ip (Ip (Ip (Ip (Qy h zaa) ?_) ?_) ?_) ?_)<;>(rw[List.length_replicate];rfl))
 refine tw ?_;exact hP _ ⟨b0,A8,rfl⟩
theorem jl(b0 b1:List (List UInt8))(u:Int)(h:b1=[]\/FY 32 b1):Ah E0 (.loop 89 1 0 5 [(2,AV.pa 0 0),(3,AV.pa 1 0),(4,AV.i 1),(5,AV.i 12)] [(0,some (Rs.var [AV.nil,AV.i 0])),(1,some (.var [.nm 2,.i u])),(2,some (.rowA 24 1 2 [.nm 3,.nm 4])),(3,some (.row 22 (.sl .u8) b0)),(4,some (.row 22 (.sl .u8) b1))]) fun r=>∃ c:List (List UInt8),(b1=[]/\c=[]\/FY 32 c)/\r=some (.fin (.exit 2) 5 [(2,.pa 0 0),(3,.pa 1 0),(4,.i 1)] [(0,some (Rs.var [AV.nil,AV.i 0])),(1,some (.var [.nm 2,.i u])),(2,some (.rowA 24 1 2 [.nm 3,.nm 4])),(3,some (.row 22 (.sl .u8) b0)),(4,some (.row 22 (.sl .u8) c))]):=by
 have q:=NC h
 refine CU fun P hP=>?_
 refine tw ?_
 rcases AY 12 (↑b1.length) with hc0|hc0
 ·refine tw ?_;rw[I9 _ _ A8];refine tw ?_;obtain⟨x1,m1,g1⟩:=EL (l:=b1) (i:=12) zaa;rw[g1];refine tw ?_;refine tw ?_;rw[I9 _ _ A8]
  conv=>arg 1;whnf
  rw[Gy zaq]
  conv=>arg 1;whnf
  rw[E8 zaq]
  conv=>arg 1;whnf
  try dsimp -iota -beta -eta -zeta only
  rw[drw zas];conv=>arg 1;whnf
  try dsimp -iota -beta -eta -zeta only
  rw[show Cj 13 1=14 from Aw zaa];refine tw ?_;rw[I9 _ _ A8]
  conv=>arg 1;whnf
  rw[Gy zaq]
  conv=>arg 1;whnf
  rw[E8 zaq]
  conv=>arg 1;whnf
  try dsimp -iota -beta -eta -zeta only
  rw[drw zas];conv=>arg 1;whnf
  try dsimp -iota -beta -eta -zeta only
  rw[show Cj 14 1=15 from Aw zaa];refine tw ?_;rw[I9 _ _ A8]
  conv=>arg 1;whnf
  rw[Gy zaq]
  conv=>arg 1;whnf
  rw[E8 zaq]
  conv=>arg 1;whnf
  try dsimp -iota -beta -eta -zeta only
  rw[drw zas];conv=>arg 1;whnf
  try dsimp -iota -beta -eta -zeta only
  rw[show Cj 15 1=16 from Aw zaa];refine tw ?_
  refine hP _ ⟨Bf (Bf (Bf (Bf b1 12 (List.replicate (Ov 1).toNat (if 12<=12 then 255 else 0))) 13 (List.replicate (Ov 1).toNat (if 12<=13 then 255 else 0))) 14 (List.replicate (Ov 1).toNat (if 12<=14 then 255 else 0))) 15 (List.replicate (Ov 1).toNat (if 12<=15 then 255 else 0)),?_,rfl⟩;(refine .inr (Ip (Ip (Ip (Ip (Qy h zaa) ?_) ?_) ?_) ?_)<;>(rw[List.length_replicate];rfl))
 refine tw ?_;exact hP _ ⟨b1,A8,rfl⟩
theorem nV(b0 b1:List (List UInt8))(u:Int)(h0:b0=[]\/FY 20 b0)(h1:b1=[]\/FY 32 b1):Ah E0 (.loop 89 0 0 5 [(2,AV.pa 0 0),(3,AV.pa 1 0),(4,AV.i 0)] [(0,some (Rs.var [AV.nil,AV.i 0])),(1,some (.var [.nm 2,.i u])),(2,some (.rowA 24 1 2 [.nm 3,.nm 4])),(3,some (.row 22 (.sl .u8) b0)),(4,some (.row 22 (.sl .u8) b1))]) fun r=>∃ c0 c1:List (List UInt8),((b0=[]/\c0=[]\/FY 20 c0)/\(b1=[]/\c1=[]\/FY 32 c1))/\r=some (.fin (.exit 0) 5 [(2,.pa 0 0),(3,.pa 1 0)] [(0,some (.var [.nil,.i 0])),(1,some (.var [.nm 2,.i u])),(2,some (.rowA 24 1 2 [.nm 3,.nm 4])),(3,some (.row 22 (.sl .u8) c0)),(4,some (.row 22 (.sl .u8) c1))]):=by
 have q0:=NC h0
 have q1:=NC h1
 refine CU fun P hP=>?_
 refine tw ?_;obtain⟨c0,h0_1,yy0⟩:=jk b0 b1 u A8;refine Am yy0 ?_;refine tw ?_;obtain⟨c1,h1_1,yy1⟩:=jl c0 b1 u A8;refine Am yy1 ?_;refine tw ?_;exact hP _ ⟨c0,c1,clo,rfl⟩
theorem jm(b0 b1:List (List UInt8))(u:Int)(h0:b0=[]\/FY 20 b0)(h1:b1=[]\/FY 32 b1):Ah E0 (.call 89 [Om [b0,b1] u] []) fun r=>∃ c0 c1:List (List UInt8),((b0=[]/\c0=[]\/FY 20 c0)/\(b1=[]/\c1=[]\/FY 32 c1))/\r=some (.ret (Om [c0,c1] u) []):=by
 have k0:=Jl h0 zal
 have k1:=Jl h1 zal
 refine CU fun P hP=>tw ?_
 rw[VO _ _ _ k0.1 k1.1 k0.2 k1.2];refine tw ?_;obtain⟨c00,c10_1,⟨h0_2,h0_3⟩,yy0⟩:=nV b0 b1 u A8 A8
 erw[yy0]
 refine tw ?_;exact hP _ ⟨c00,c10_1,clo,rfl⟩
theorem nX(b0 b1:List (List UInt8))(u k i:Int)(h0:b0=[]\/FY 20 b0)(h1:b1=[]\/FY 32 b1):Ah E0 (.call 285 [Om [b0,b1] u,.i k,.i i] []) fun r=>∃(l:List UInt8) (e:Int),r=some (.ret (.tup [.sl .u8 l,.i e]) []):=by
 have q0:=NC h0
 have q1:=NC h1
 have k0:=(Jl h0 zal).2
 have k1:=(Jl h1 zal).2
 refine CU fun P hP=>?_
 rcases(by omega:k=0\/k=1\/(k<0\/1<k)) with rfl|rfl|hk
 ·refine tw ?_
  rcases AY i 0 with hc0|hc0
  ·refine tw ?_;exact hP _ ⟨[],1,rfl⟩
  refine tw ?_
  rcases DD 16 i with hc1|hc1
  ·refine tw ?_;exact hP _ ⟨[],1,rfl⟩
  refine tw ?_;rw[KG _ _ _ A8];refine tw ?_
  rcases Decidable.em (0<b0.length) with hc2|hc2
  ·refine tw ?_;obtain⟨x3,f3,g3⟩:=DF k0 (i:=i) A8;rw[g3];refine tw ?_;rw[Hg _ A8];refine tw ?_;exact hP _ ⟨x3,0,rfl⟩
  refine tw ?_;exact hP _ ⟨[],27,rfl⟩
 ·refine tw ?_
  rcases AY i 0 with hc0|hc0
  ·refine tw ?_;exact hP _ ⟨[],1,rfl⟩
  refine tw ?_
  rcases DD 16 i with hc1|hc1
  ·refine tw ?_;exact hP _ ⟨[],1,rfl⟩
  refine tw ?_;rw[G9 _ _ _ _ A8];refine tw ?_
  rcases Decidable.em (0<b1.length) with hc2|hc2
  ·refine tw ?_;obtain⟨x3,f3,g3⟩:=DF k1 (i:=i) A8;rw[g3];refine tw ?_;rw[Hg _ A8];refine tw ?_;exact hP _ ⟨x3,0,rfl⟩
  refine tw ?_;exact hP _ ⟨[],27,rfl⟩
 ·refine tw ?_
  rcases AY k 0 with hc0|hc0
  ·refine tw ?_;exact hP _ ⟨[],1,rfl⟩
  refine tw ?_;exact hP _ ⟨[],1,rfl⟩
end
section
attribute [local irreducible] Cj Dt D9 DT DK BH Du Ey Fh FD Et D7 CV Df DX and' Dk DU CG Ba Bl CJ CS BK BM BB BG Dv G7 Dw EM Dl Bh CO Bz C9 Bo BD Bi BO Be BZ Dx Bf DL Bd BI D6 Dy fits Dz Dn AZ Ap BL
attribute [local irreducible] E5 CP Bq nameB ES Em Ar
theorem jo(b0 b1:List (List UInt8))(u s0 s1:Int):Ah E0 (.loop 54 0 0 2 [(2,AV.pa 0 0),(3,AV.pa 1 0),(6,AV.i 0)] [(0,some (Rs.var [AV.sl Ty.u8.sl.sl [b0,b1],AV.i u])),(1,some (Rs.var [AV.i s0,AV.i s1]))]) fun r=>(¬(0<=s0/\s0<=65535/\0<=s1/\s1<=65535)/\r=some (.fin .ret 2 [(2,.pa 0 0),(3,.pa 1 0),(4,.nil),(5,.i 1)] [(0,some (Rs.var [AV.sl Ty.u8.sl.sl [b0,b1],AV.i u])),(1,some (Rs.var [AV.i s0,AV.i s1]))]))\/((0<=s0/\s0<=65535/\0<=s1/\s1<=65535)/\r=some (.fin (.exit 0) 2 [(2,.pa 0 0),(3,.pa 1 0)] [(0,some (Rs.var [AV.sl Ty.u8.sl.sl [b0,b1],AV.i u])),(1,some (Rs.var [AV.i s0,AV.i s1]))])):=by
 refine CU fun P hP=>?_
 refine tw ?_
 rcases AY s0 0 with hc0|hc0
 ·refine tw ?_;exact hP _ (Or.inl ⟨A8,rfl⟩)
 refine tw ?_
 rcases AY 65535 s0 with hc1|hc1
 ·refine tw ?_;exact hP _ (Or.inl ⟨A8,rfl⟩)
 refine tw ?_;refine tw ?_
 rcases AY s1 0 with hc2|hc2
 ·refine tw ?_;exact hP _ (Or.inl ⟨A8,rfl⟩)
 refine tw ?_
 rcases AY 65535 s1 with hc3|hc3
 ·refine tw ?_;exact hP _ (Or.inl ⟨A8,rfl⟩)
 refine tw ?_;refine tw ?_;exact hP _ (Or.inr ⟨A8,rfl⟩)
theorem uP:∀ i<16,BH .and (CV 0 (Bh ((i:Nat):Int)).toNat) 1=0:=by
 rw[P6,aX,FX]
 decide +kernel
theorem Vw(b0 b1:List (List UInt8))(u s0 s1:Int)(acc:List UInt8)(ha:acc.length<=20000)(h:s0=0\/b0.length=16)(hm:∀ x∈b0,x.length<=1000):∀(n j:Nat),j+n=16->Y E0 (.loop 54 2 0 3 [(2,AV.pa 0 0),(3,AV.pa 1 0),(7,AV.nm 2),(8,AV.i 0),(9,AV.i (j:Int))] [(0,some (Rs.var [AV.sl Ty.u8.sl.sl [b0,b1],AV.i u])),(1,some (Rs.var [AV.i s0,AV.i s1])),(2,some (Rs.row 5 Ty.u8 (acc++Ns s0 b0 j)))])=some (.fin (.exit 4) 3 [(2,AV.pa 0 0),(3,AV.pa 1 0),(7,AV.nm 2),(8,AV.i 0)] [(0,some (Rs.var [AV.sl Ty.u8.sl.sl [b0,b1],AV.i u])),(1,some (Rs.var [AV.i s0,AV.i s1])),(2,some (Rs.row 5 Ty.u8 (acc++Nu s0 b0)))])
 | 0,j,hj=>by
  obtain rfl:j=16:=zaa
  refine tq ?_
  rfl
 | n+1,j,hj=>by
  have ih:=Vw b0 b1 u s0 s1 acc ha h hm n (j+1) zaa
  rw[show((j+1:Nat):Int)=(j:Int)+1 from by omega,Ns] at ih
  have hle:=UG (s:=s0) hm j
  by_cases hb:BH .and (CV s0 (Bh ((j:Nat):Int)).toNat) 1=1
  ·have hs:b0.length=16:=by
    rcases h with h|h
    ·subst h;rw[uP j zaa] at hb;cases hb
    ·exact h
   rw[if_pos hb,<-List.append_assoc] at ih
   have hg:BZ b0 (j:Int)=some (b0.getD j []):=by rw[GY zaa];simp[List.getD,List.getElem?_eq_getElem (show j<b0.length by omega)]
   have hx:(b0.getD j []).length<=1000:=by
    have:=hm _ (List.getElem_mem (show j<b0.length by omega))
    simpa [List.getD,List.getElem?_eq_getElem (show j<b0.length by omega)] using this
   have happ:BI (acc++Ns s0 b0 j) (b0.getD j [])=acc++Ns s0 b0 j++b0.getD j []:=Aa _ _
   rw[Ae];conv=>lhs;whnf
   rw[ET zaa]
   conv=>lhs;whnf
   try dsimp -iota -beta -eta -zeta only
   rw[Gj zaa]
   conv=>lhs;whnf
   rw[ET zaa]
   conv=>lhs;whnf
   rw[ER hb];refine to ?_;rw[hg];refine tq ?_;rw[happ];exact ih
  ·rw[if_neg hb,List.append_nil] at ih
   rw[Ae];conv=>lhs;whnf
   rw[ET zaa]
   conv=>lhs;whnf
   try dsimp -iota -beta -eta -zeta only
   rw[Gj zaa]
   conv=>lhs;whnf
   rw[ET zaa]
   conv=>lhs;whnf
   rw[AA hb];refine tq ?_;exact ih
theorem Vx(b0 b1:List (List UInt8))(u s0 s1:Int)(acc:List UInt8)(ha:acc.length<=20000)(h:s1=0\/b1.length=16)(hm:∀ x∈b1,x.length<=1000):∀(n j:Nat),j+n=16->Y E0 (.loop 54 2 0 3 [(2,AV.pa 0 0),(3,AV.pa 1 0),(7,AV.nm 2),(8,AV.i 1),(9,AV.i (j:Int))] [(0,some (Rs.var [AV.sl Ty.u8.sl.sl [b0,b1],AV.i u])),(1,some (Rs.var [AV.i s0,AV.i s1])),(2,some (Rs.row 5 Ty.u8 (acc++Ns s1 b1 j)))])=some (.fin (.exit 4) 3 [(2,AV.pa 0 0),(3,AV.pa 1 0),(7,AV.nm 2),(8,AV.i 1)] [(0,some (Rs.var [AV.sl Ty.u8.sl.sl [b0,b1],AV.i u])),(1,some (Rs.var [AV.i s0,AV.i s1])),(2,some (Rs.row 5 Ty.u8 (acc++Nu s1 b1)))])
 | 0,j,hj=>by
  obtain rfl:j=16:=zaa
  refine tq ?_
  rfl
 | n+1,j,hj=>by
  have ih:=Vx b0 b1 u s0 s1 acc ha h hm n (j+1) zaa
  rw[show((j+1:Nat):Int)=(j:Int)+1 from by omega,Ns] at ih
  have hle:=UG (s:=s1) hm j
  by_cases hb:BH .and (CV s1 (Bh ((j:Nat):Int)).toNat) 1=1
  ·have hs:b1.length=16:=by
    rcases h with h|h
    ·subst h;rw[uP j zaa] at hb;cases hb
    ·exact h
   rw[if_pos hb,<-List.append_assoc] at ih
   have hg:BZ b1 (j:Int)=some (b1.getD j []):=by rw[GY zaa];simp[List.getD,List.getElem?_eq_getElem (show j<b1.length by omega)]
   have hx:(b1.getD j []).length<=1000:=by
    have:=hm _ (List.getElem_mem (show j<b1.length by omega))
    simpa [List.getD,List.getElem?_eq_getElem (show j<b1.length by omega)] using this
   have happ:BI (acc++Ns s1 b1 j) (b1.getD j [])=acc++Ns s1 b1 j++b1.getD j []:=Aa _ _
   rw[Ae];conv=>lhs;whnf
   rw[ET zaa]
   conv=>lhs;whnf
   try dsimp -iota -beta -eta -zeta only
   rw[Gj zaa]
   conv=>lhs;whnf
   rw[ET zaa]
   conv=>lhs;whnf
   rw[ER hb];refine to ?_;rw[hg];refine tq ?_;rw[happ];exact ih
  ·rw[if_neg hb,List.append_nil] at ih
   rw[Ae];conv=>lhs;whnf
   rw[ET zaa]
   conv=>lhs;whnf
   try dsimp -iota -beta -eta -zeta only
   rw[Gj zaa]
   conv=>lhs;whnf
   rw[ET zaa]
   conv=>lhs;whnf
   rw[AA hb];refine tq ?_;exact ih
theorem QY{s:Int}{b:List (List UInt8)}(h:∀ x∈b,x.length<=1000):(Nu s b).length<=16000:=UG h 16
theorem jq(b0 b1:List (List UInt8))(u s0 s1:Int)(h0:b0=[]\/FY 20 b0)(h1:b1=[]\/FY 32 b1):Ah E0 (.loop 54 1 0 3 [(2,AV.pa 0 0),(3,AV.pa 1 0),(7,AV.nm 2),(8,AV.i 0)] [(0,some (Rs.var [AV.sl Ty.u8.sl.sl [b0,b1],AV.i u])),(1,some (Rs.var [AV.i s0,AV.i s1])),(2,some (Rs.row 5 Ty.u8 []))]) fun r=>(∃ x:List UInt8,(¬((s0=0\/0<b0.length)/\(s1=0\/0<b1.length)))/\r=some (.fin .ret 1 [(3,AV.pa 0 0),(4,AV.nil),(5,AV.i 27),(7,AV.sl Ty.u8 x)] [(0,some (Rs.var [AV.i s0,AV.i s1]))]))\/(((s0=0\/0<b0.length)/\(s1=0\/0<b1.length))/\r=some (.fin (.exit 2) 1 [(3,AV.pa 0 0),(7,AV.sl Ty.u8 (Nu s0 b0++Nu s1 b1))] [(0,some (Rs.var [AV.i s0,AV.i s1]))])):=by
 have q0:=NC h0
 have q1:=NC h1
 have k0:=(Jl h0 zal).2
 have k1:=(Jl h1 zal).2
 have e0:=fun h=>Vw b0 b1 u s0 s1 [] zao h k0 16 0 zaa
 have e1:=fun h=>Vx b0 b1 u s0 s1 (Nu s0 b0) (by have:=QY (s:=s0) k0;omega) h k1 16 0 zaa
 simp only[List.nil_append,show Ns s0 b0 0=[] from rfl,show Ns s1 b1 0=[] from rfl,List.append_nil,show((0:Nat):Int)=0 from rfl] at e0 e1
 refine CU fun P hP=>?_
 refine tw ?_
 rcases AX s0 0 with hc0|hc0
 ·refine tw ?_;rw[KG _ _ _ A8];refine tw ?_
  rcases Decidable.em (0<b0.length) with hc1|hc1
  ·refine tw ?_;rw[e0 zaa];refine tw ?_;refine tw ?_
   rcases AX s1 0 with hc2|hc2
   ·refine tw ?_;rw[G9 _ _ _ _ A8];refine tw ?_
    rcases Decidable.em (0<b1.length) with hc3|hc3
    ·refine tw ?_;rw[e1 zaa];refine tw ?_;refine tw ?_;exact hP _ (Or.inr ⟨A8,rfl⟩)
    refine tw ?_;exact hP _ (Or.inl ⟨Nu s0 b0,A8,rfl⟩)
   subst hc2;refine tw ?_;rw[e1 zaa];refine tw ?_;refine tw ?_;exact hP _ (Or.inr ⟨A8,rfl⟩)
  refine tw ?_;exact hP _ (Or.inl ⟨[],A8,rfl⟩)
 subst hc0;refine tw ?_;rw[e0 zaa];refine tw ?_;refine tw ?_
 rcases AX s1 0 with hc4|hc4
 ·refine tw ?_;rw[G9 _ _ _ _ A8];refine tw ?_
  rcases Decidable.em (0<b1.length) with hc5|hc5
  ·refine tw ?_;rw[e1 zaa];refine tw ?_;refine tw ?_;exact hP _ (Or.inr ⟨A8,rfl⟩)
  refine tw ?_;exact hP _ (Or.inl ⟨Nu 0 b0,A8,rfl⟩)
 subst hc4;refine tw ?_;rw[e1 zaa];refine tw ?_;refine tw ?_;exact hP _ (Or.inr ⟨A8,rfl⟩)
theorem jr(b0 b1:List (List UInt8))(u s0 s1:Int)(h0:b0=[]\/FY 20 b0)(h1:b1=[]\/FY 32 b1):Ah E0 (.call 54 [Om [b0,b1] u,.agg [.i s0,.i s1]] []) fun r=>(∃ e:Int,(e≠0/\¬((0<=s0/\s0<=65535/\0<=s1/\s1<=65535)/\(s0=0\/0<b0.length)/\(s1=0\/0<b1.length)))/\r=some (.ret (.tup [.sl .u8 [],.i e]) []))\/(((0<=s0/\s0<=65535/\0<=s1/\s1<=65535)/\(s0=0\/0<b0.length)/\(s1=0\/0<b1.length))/\r=some (.ret (.tup [.sl .u8 (dK s0 s1 b0 b1),.i 0]) [])):=by
 have k0:=(Jl h0 zal).2
 have k1:=(Jl h1 zal).2
 have l0:=QY (s:=s0) k0
 have l1:=QY (s:=s1) k1
 have hf:(Ar 5 [CE (CE [] 2 s0) 2 s1,Nu s0 b0++Nu s1 b1]).length<=4294967295:=by rw[Ai,AB,AB,List.length_append,List.length_nil];omega
 refine CU fun P hP=>tw ?_
 obtain(⟨h0_0,yy0⟩|⟨⟨h0_1,h0_2,h0_3,h0_4⟩,yy0⟩):=jo b0 b1 u s0 s1
 ·refine Am yy0 ?_;exact hP _ (Or.inl ⟨1,A8,rfl⟩)
 refine Am yy0 ?_
 obtain(⟨x1,h1_1,yy1⟩|⟨⟨h1_2,h1_3⟩,yy1⟩):=jq b0 b1 u s0 s1 A8 A8
 ·refine Am yy1 ?_;exact hP _ (Or.inl ⟨27,A8,rfl⟩)
 refine Am yy1 ?_;rw[CQ _ _ _ A8];refine tw ?_;rw[CQ _ _ _ A8];refine tw ?_;rw[F8 _ _ hf zao];refine tw ?_;exact hP _ (Or.inr ⟨A8,rfl⟩)
end
section
attribute [local irreducible] Cj Dt D9 DT DK BH Du Ey Fh FD Et D7 CV Df DX and' Dk DU CG Ba Bl CJ CS BK BM BB BG Dv G7 Dw EM Dl Bh CO Bz C9 Bo BD Bi BO Be BZ Dx Bf DL Bd BI D6 Dy fits Dz Dn AZ Ap BL
attribute [local irreducible] E5 CP Bq nameB ES Em Ar
abbrev yD(l1 l2 l3 l4 l5 l6:Int):AV:=.agg [.i l1,.i l2,.i l3,.i l4,.i l5,.i l6]
theorem A34{a b n:Int}(hn:0<=n)(ha:0<=a)(hb:0<b):0<=min n (a/b)/\0<=min n (a/b)*b/\min n (a/b)*b<=a:=by
 have h1:0<=a/b:=Int.ediv_nonneg ha zaa
 have h2:a/b*b<=a:=Int.ediv_mul_le _ zaa
 have h0:0<=min n (a/b):=zaa
 exact⟨h0,Int.mul_nonneg h0 zaa,Int.le_trans (Int.mul_le_mul_of_nonneg_right (Int.min_le_right _ _) zaa) h2⟩
theorem aA(l1 l2 l3 l4 l5 l6 now:Int)(h:NQ l1 l2 l3 l4 l5 l6)(hn:0<=now/\now<=1099511627776):Ah E0 (.call 307 [yD l1 l2 l3 l4 l5 l6,.i now] []) fun r=>∃ m1 m4:Int,(NQ m1 l2 l3 m4 l5 l6)/\r=some (.ret (yD m1 l2 l3 m4 l5 l6) []):=by
 unfold NQ at *
 have hq:=fun(h0:l4<=now) (h2:l3≠0)=>A34 (n:=l1) (a:=now-l4) (b:=l3) zaa zaa zaa
 refine CU fun P hP=>tw ?_
 rcases AY now l4 with hc0|hc0
 ·refine tw ?_;exact hP _ ⟨l1,now,A8,rfl⟩
 replace hq:=hq hc0
 refine tw ?_
 rcases AL l1 0 with hc1|hc1
 ·subst hc1;refine tw ?_;exact hP _ ⟨0,now,A8,rfl⟩
 refine tw ?_
 rcases AL l3 0 with hc2|hc2
 ·subst hc2;refine tw ?_;exact hP _ ⟨l1,l4,A8,rfl⟩
 replace hq:=hq hc2
 rw[AA zaa]
 conv=>arg 1;whnf
 rw[AA zaa]
 conv=>arg 1;whnf
 try dsimp -iota -beta -eta -zeta only
 rw[Ce zaa];rw[Ei zaa];rw[drw zas];conv=>arg 1;whnf
 rw[Ce zaa]
 rcases AL (l1-min l1 ((now-l4)/l3)) 0 with hc3|hc3
 ·refine tw ?_;exact hP _ ⟨l1-min l1 ((now-l4)/l3),now,A8,rfl⟩
 refine tw ?_;exact hP _ ⟨l1-min l1 ((now-l4)/l3),l4+min l1 ((now-l4)/l3)*l3,A8,rfl⟩
theorem dL(l1 l2 l3 l4 l5 l6 now:Int)(h:NQ l1 l2 l3 l4 l5 l6)(hn:0<=now/\now<=1099511627776):Ah E0 (.call 282 [yD l1 l2 l3 l4 l5 l6,.i now] []) fun r=>∃ b:Bool,r=some (.ret (.b b) []):=by
 refine CU fun P hP=>tw ?_
 obtain⟨m10,m40_1,h0_2,yy0⟩:=aA l1 l2 l3 l4 l5 l6 now A8 A8;refine Am yy0 ?_;exact hP _ ⟨Et l2 m10,rfl⟩
theorem nZ(l1 l2 l3 l4 l5 l6 now:Int)(h:NQ l1 l2 l3 l4 l5 l6)(hn:0<=now/\now<=1099511627776):Ah E0 (.call 284 [yD l1 l2 l3 l4 l5 l6,.i now] []) fun r=>∃ m1 m4:Int,(NQ m1 l2 l3 m4 l5 l6)/\r=some (.ret (yD m1 l2 l3 m4 l5 l6) []):=by
 refine CU fun P hP=>tw ?_
 obtain⟨m10,m40_1,h0_2,yy0⟩:=aA l1 l2 l3 l4 l5 l6 now A8 A8;refine Am yy0 ?_;refine hP _ ⟨min (Cj m10 1) l2,m40_1,?_,rfl⟩;(unfold NQ at *;rw[Aw zaa];omega)
theorem jv(l1 l2 l3 l4 l5 l6 now:Int)(h:NQ l1 l2 l3 l4 l5 l6)(hn:0<=now/\now<=1099511627776):Ah E0 (.call 261 [yD l1 l2 l3 l4 l5 l6,.i now] []) fun r=>∃ m1 m4:Int,(NQ m1 l2 l3 m4 l5 l6)/\r=some (.ret (yD m1 l2 l3 m4 l5 l6) []):=by
 refine CU fun P hP=>tw ?_
 refine hP _ ⟨0,now,?_,rfl⟩;(unfold NQ at *;omega)
theorem jw(l1 l2 l3 l4 l5 l6 now:Int)(h:NQ l1 l2 l3 l4 l5 l6)(hn:0<=now/\now<=1099511627776):Ah E0 (.call 283 [yD l1 l2 l3 l4 l5 l6,.i now] []) fun r=>∃ m5:Int,(NQ l1 l2 l3 l4 m5 l6)/\r=some (.ret (yD l1 l2 l3 l4 m5 l6) []):=by
 refine CU fun P hP=>tw ?_
 refine hP _ ⟨Cj now l6,?_,rfl⟩;(unfold NQ at *;rw[Aw zaa];omega)
theorem ng(l1 l2 l3 l4 l5 l6 now:Int):Ah E0 (.call 280 [yD l1 l2 l3 l4 l5 l6,.i now] []) fun r=>∃ b:Bool,r=some (.ret (.b b) []):=by
 refine CU fun P hP=>tw ?_
 exact hP _ ⟨Et l5 now,rfl⟩
theorem dM(l1 l2 l3 l4 l5 l6 a b c:Int)(h:NQ l1 l2 l3 l4 l5 l6):Ah E0 (.call 262 [yD l1 l2 l3 l4 l5 l6,.i a,.i b,.i c] []) fun r=>∃ m1 m2 m3 m4 m5 m6 e:Int,(NQ m1 m2 m3 m4 m5 m6)/\r=some (.ret (.tup [yD m1 m2 m3 m4 m5 m6,.i e]) []):=by
 refine CU fun P hP=>tw ?_
 rcases AY a 1 with hc0|hc0
 ·refine tw ?_;exact hP _ ⟨0,0,0,0,0,0,1,clo,rfl⟩
 refine tw ?_
 rcases AY 100 a with hc1|hc1
 ·refine tw ?_;exact hP _ ⟨0,0,0,0,0,0,1,clo,rfl⟩
 refine tw ?_
 rcases AY b 0 with hc2|hc2
 ·refine tw ?_;exact hP _ ⟨0,0,0,0,0,0,1,clo,rfl⟩
 refine tw ?_
 rcases AY 1048576 b with hc3|hc3
 ·refine tw ?_;exact hP _ ⟨0,0,0,0,0,0,1,clo,rfl⟩
 refine tw ?_
 rcases AY c 0 with hc4|hc4
 ·refine tw ?_;exact hP _ ⟨0,0,0,0,0,0,1,clo,rfl⟩
 refine tw ?_
 rcases AY 1048576 c with hc5|hc5
 ·refine tw ?_;exact hP _ ⟨0,0,0,0,0,0,1,clo,rfl⟩
 refine tw ?_;refine hP _ ⟨min l1 a,a,b,l4,l5,c,0,?_,rfl⟩;(unfold NQ at *;omega)
abbrev asA(k s0 s1:Int)(d:List UInt8)(n o:Int)(x y z:List UInt8)(bs:List (List UInt8)):AV:=.agg [.i k,.i s0,.i s1,.sl .u8 d,.i n,.i o,.sl .u8 x,.sl .u8 y,.sl .u8 z,.sl (.sl .u8) bs]
def Qg(d x y z:List UInt8)(bs:List (List UInt8)):Prop:=d.length<=2000/\x.length<=2000/\y.length<=2000/\z.length<=2000/\bs.length<=100/\∀ b∈bs,b.length<=2000
theorem SI:Ah E0 (.call 243 [] []) fun r=>∃ l:List UInt8,(l.length=32)/\r=some (.ret (.sl .u8 l) []):=by
 refine CU fun P hP=>tw ?_
 exact hP _ ⟨Bd 32 0,A8,rfl⟩
theorem SK(n f:List UInt8):Ah E0 (.call 304 [.sl .u8 n,.sl .u8 f] []) fun r=>∃ e:Int,r=some (.ret (.i e) []):=by
 refine CU fun P hP=>tw ?_
 rcases AX (↑n.length) 32 with hc0|hc0
 ·refine tw ?_;exact hP _ ⟨1,rfl⟩
 refine tw ?_
 rcases AY 128 (↑f.length) with hc1|hc1
 ·refine tw ?_;exact hP _ ⟨4,rfl⟩
 refine tw ?_;exact hP _ ⟨0,rfl⟩
theorem dN(a b:Int):Ah E0 (.call 303 [.agg [.i a,.i b]] []) fun r=>∃ x:Bool,r=some (.ret (.b x) []):=by
 refine CU fun P hP=>tw ?_
 rcases DD 0 a with hc0|hc0
 ·refine tw ?_
  rcases DD a 65535 with hc1|hc1
  ·refine tw ?_
   rcases DD 0 b with hc2|hc2
   ·refine tw ?_;exact hP _ ⟨Et b 65535,rfl⟩
   refine tw ?_;exact hP _ ⟨false,rfl⟩
  refine tw ?_;exact hP _ ⟨false,rfl⟩
 refine tw ?_;exact hP _ ⟨false,rfl⟩
theorem Oo(l:List (List UInt8))(hl:l.length<=100):∀(n:Nat) (j:Int),0<=j->j+n=l.length->Ah E0 (.loop 305 0 0 0 [(0,.sl (.sl .u8) l),(3,.i j)] []) fun r=>r=some (.fin .ret 0 [(2,.b false)] [])\/r=some (.fin (.exit 0) 0 [] [])
 | 0,j,h0,hj=>by
  refine CU fun P hP=>?_
  refine tw ?_;exact hP _ (Or.inr rfl)
 | n+1,j,h0,hj=>by
  have ih:=Oo l hl n (j+1) zaa zaa
  refine CU fun P hP=>?_
  refine tw ?_;obtain⟨x0,m0,g0⟩:=EL (l:=l) (i:=j) zaa;rw[g0];refine tw ?_
  rcases AX (↑x0.length) 32 with hc1|hc1
  ·refine tw ?_;exact hP _ (Or.inl rfl)
  refine tw ?_;exact hP _ ih
theorem Yw(l:List (List UInt8))(hl:l.length<=100):Ah E0 (.call 305 [.sl (.sl .u8) l] []) fun r=>∃ x:Bool,r=some (.ret (.b x) []):=by
 refine CU fun P hP=>tw ?_
 rcases AY (↑l.length) 2 with hc0|hc0
 ·refine tw ?_;exact hP _ ⟨false,rfl⟩
 refine tw ?_
 rcases AY 8 (↑l.length) with hc1|hc1
 ·refine tw ?_;exact hP _ ⟨false,rfl⟩
 refine tw ?_
 obtain(yy2|yy2):=Oo l A8 (Int.toNat (↑l.length-(0))) 0 A8 zaa
 ·refine Am yy2 ?_;exact hP _ ⟨false,rfl⟩
 refine Am yy2 ?_;exact hP _ ⟨true,rfl⟩
theorem MM(k s0 s1:Int)(d:List UInt8)(n o:Int)(x y z:List UInt8)(bs:List (List UInt8))(h:Qg d x y z bs):Ah E0 (.call 273 [asA k s0 s1 d n o x y z bs] []) fun r=>∃ e:Int,r=some (.ret (.i e) []):=by
 have hb:=h.2.2.2.2.1
 refine CU fun P hP=>tw ?_
 rcases AL k 1 with hc0|hc0
 ·subst hc0;refine tw ?_;obtain⟨x1,yy1⟩:=dN s0 s1;refine Am yy1 ?_
  rcases bo x1 with rfl|rfl
  ·refine tw ?_
   rcases AL (↑d.length) 32 with hc3|hc3
   ·refine tw ?_;exact hP _ ⟨0,rfl⟩
   refine tw ?_;exact hP _ ⟨1,rfl⟩
  refine tw ?_;exact hP _ ⟨1,rfl⟩
 refine tw ?_
 rcases AL k 2 with hc4|hc4
 ·subst hc4;refine tw ?_
  rcases DD 1 n with hc5|hc5
  ·refine tw ?_
   rcases DD n 31 with hc6|hc6
   ·refine tw ?_;exact hP _ ⟨0,rfl⟩
   refine tw ?_;exact hP _ ⟨1,rfl⟩
  refine tw ?_;exact hP _ ⟨1,rfl⟩
 refine tw ?_
 rcases AL k 3 with hc7|hc7
 ·subst hc7;refine tw ?_
  rcases DD 1 n with hc8|hc8
  ·refine tw ?_
   rcases DD n 255 with hc9|hc9
   ·refine tw ?_;exact hP _ ⟨0,rfl⟩
   refine tw ?_;exact hP _ ⟨1,rfl⟩
  refine tw ?_;exact hP _ ⟨1,rfl⟩
 refine tw ?_
 rcases AL k 4 with hc10|hc10
 ·subst hc10;refine tw ?_
  rcases AY o 0 with hc11|hc11
  ·refine tw ?_;exact hP _ ⟨1,rfl⟩
  refine tw ?_
  rcases AY 3 o with hc12|hc12
  ·refine tw ?_;exact hP _ ⟨1,rfl⟩
  refine tw ?_;obtain⟨e13,yy13⟩:=SK y x;refine Am yy13 ?_;exact hP _ ⟨e13,rfl⟩
 refine tw ?_
 rcases AL k 5 with hc14|hc14
 ·subst hc14;refine tw ?_
  rcases DD 0 o with hc15|hc15
  ·refine tw ?_
   rcases DD o 3 with hc16|hc16
   ·refine tw ?_
    rcases DD 0 n with hc17|hc17
    ·refine tw ?_
     rcases DD n 1099511627776 with hc18|hc18
     ·refine tw ?_;exact hP _ ⟨0,rfl⟩
     refine tw ?_;exact hP _ ⟨1,rfl⟩
    refine tw ?_;exact hP _ ⟨1,rfl⟩
   refine tw ?_;exact hP _ ⟨1,rfl⟩
  refine tw ?_;exact hP _ ⟨1,rfl⟩
 refine tw ?_
 rcases AL k 6 with hc19|hc19
 ·subst hc19;refine tw ?_;obtain⟨e20,yy20⟩:=SK y z;refine Am yy20 ?_;exact hP _ ⟨e20,rfl⟩
 refine tw ?_
 rcases AL k 9 with hc21|hc21
 ·subst hc21;refine tw ?_;obtain⟨e22,yy22⟩:=SK y z;refine Am yy22 ?_;exact hP _ ⟨e22,rfl⟩
 refine tw ?_
 rcases AL k 7 with hc23|hc23
 ·subst hc23;refine tw ?_;exact hP _ ⟨0,rfl⟩
 refine tw ?_
 rcases AL k 8 with hc24|hc24
 ·subst hc24;refine tw ?_;obtain⟨x25,yy25⟩:=Yw bs A8;refine Am yy25 ?_
  rcases bo x25 with rfl|rfl
  ·refine tw ?_;exact hP _ ⟨0,rfl⟩
  refine tw ?_;exact hP _ ⟨1,rfl⟩
 refine tw ?_;exact hP _ ⟨19,rfl⟩
theorem F7(tag:Int)(ls:List (List UInt8))(hn:ls.length<=120)(hm:∀ x∈ls,x.length<=2000):Ah E0 (.call 122 [.i tag,.sl (.sl .u8) ls] []) fun r=>∃ l:List UInt8,(l.length<=300000)/\r=some (.ret (.sl .u8 l) []):=by
 have h:=nY tag ls 2000 hm
 have h2:ls.length*(2000+4)<=120*2004:=Nat.mul_le_mul_right _ hn
 exact⟨_,by omega,Gl tag ls zaa zaa⟩
theorem ni(w:List UInt8)(k s0 s1:Int)(d:List UInt8)(n o:Int)(x y z:List UInt8)(bs:List (List UInt8))(hw:w.length<=2000)(h:Qg d x y z bs):Ah E0 (.call 274 [.sl .u8 w,asA k s0 s1 d n o x y z bs] []) fun r=>∃ l:List UInt8,(l.length<=300000)/\r=some (.ret (.sl .u8 l) []):=by
 obtain⟨h1,h2,h3,h4,h5,h6⟩:=h
 refine CU fun P hP=>tw ?_
 rcases AL k 1 with hc0|hc0
 ·subst hc0;refine tw ?_;rw[CQ _ _ _ A8];refine tw ?_;rw[CQ _ _ _ A8];refine tw ?_;obtain⟨l1,h1_1,yy1⟩:=F7 8 (BI [[EM 1]] [w,CE (CE [] 2 s0) 2 s1,d]) A8 (by(rw[Aa];simp only[List.cons_append,List.nil_append,List.forall_mem_cons,List.not_mem_nil,false_implies,implies_true,and_true,List.length_cons,List.length_nil,AP,AB];first|assumption|omega|(refine⟨by omega,?_⟩;assumption)))
  refine Am yy1 ?_;exact hP _ ⟨l1,A8,rfl⟩
 refine tw ?_
 rcases AL k 2 with hc2|hc2
 ·subst hc2;refine tw ?_;obtain⟨l3,h3_1,yy3⟩:=F7 8 (BI [[EM 2]] [w,[EM n]]) A8 (by(rw[Aa];simp only[List.cons_append,List.nil_append,List.forall_mem_cons,List.not_mem_nil,false_implies,implies_true,and_true,List.length_cons,List.length_nil,AP,AB];first|assumption|omega|(refine⟨by omega,?_⟩;assumption)))
  refine Am yy3 ?_;exact hP _ ⟨l3,A8,rfl⟩
 refine tw ?_
 rcases AL k 3 with hc4|hc4
 ·subst hc4;refine tw ?_;obtain⟨l5,h5_1,yy5⟩:=F7 8 (BI [[EM 3]] [w,[EM n]]) A8 (by(rw[Aa];simp only[List.cons_append,List.nil_append,List.forall_mem_cons,List.not_mem_nil,false_implies,implies_true,and_true,List.length_cons,List.length_nil,AP,AB];first|assumption|omega|(refine⟨by omega,?_⟩;assumption)))
  refine Am yy5 ?_;exact hP _ ⟨l5,A8,rfl⟩
 refine tw ?_
 rcases AL k 4 with hc6|hc6
 ·subst hc6;refine tw ?_;obtain⟨l7,h7_1,yy7⟩:=F7 8 (BI [[EM 4]] [w,[EM o],x,y]) A8 (by(rw[Aa];simp only[List.cons_append,List.nil_append,List.forall_mem_cons,List.not_mem_nil,false_implies,implies_true,and_true,List.length_cons,List.length_nil,AP,AB];first|assumption|omega|(refine⟨by omega,?_⟩;assumption)))
  refine Am yy7 ?_;exact hP _ ⟨l7,A8,rfl⟩
 refine tw ?_
 rcases AL k 5 with hc8|hc8
 ·subst hc8;refine tw ?_;rw[CQ _ _ _ A8];refine tw ?_;obtain⟨l9,h9_1,yy9⟩:=F7 8 (BI [[EM 5]] [w,[EM o],CE [] 8 n]) A8 (by(rw[Aa];simp only[List.cons_append,List.nil_append,List.forall_mem_cons,List.not_mem_nil,false_implies,implies_true,and_true,List.length_cons,List.length_nil,AP,AB];first|assumption|omega|(refine⟨by omega,?_⟩;assumption)))
  refine Am yy9 ?_;exact hP _ ⟨l9,A8,rfl⟩
 refine tw ?_
 rcases AL k 6 with hc10|hc10
 ·subst hc10;refine tw ?_;obtain⟨l11,h11_1,yy11⟩:=F7 8 (BI [[EM 6]] [w,y,z]) A8 (by(rw[Aa];simp only[List.cons_append,List.nil_append,List.forall_mem_cons,List.not_mem_nil,false_implies,implies_true,and_true,List.length_cons,List.length_nil,AP,AB];first|assumption|omega|(refine⟨by omega,?_⟩;assumption)))
  refine Am yy11 ?_;exact hP _ ⟨l11,A8,rfl⟩
 refine tw ?_
 rcases AL k 7 with hc12|hc12
 ·subst hc12;refine tw ?_;obtain⟨l13,h13_1,yy13⟩:=F7 8 (BI [[EM 7]] [w]) A8 (by(rw[Aa];simp only[List.cons_append,List.nil_append,List.forall_mem_cons,List.not_mem_nil,false_implies,implies_true,and_true,List.length_cons,List.length_nil,AP,AB];first|assumption|omega|(refine⟨by omega,?_⟩;assumption)))
  refine Am yy13 ?_;exact hP _ ⟨l13,A8,rfl⟩
 refine tw ?_
 rcases AL k 8 with hc14|hc14
 ·subst hc14;refine tw ?_;obtain⟨l15,h15_1,yy15⟩:=F7 8 (BI [[EM 8]] bs) A8 (by(rw[Aa];simp only[List.cons_append,List.nil_append,List.forall_mem_cons,List.not_mem_nil,false_implies,implies_true,and_true,List.length_cons,List.length_nil,AP,AB];first|assumption|omega|(refine⟨by omega,?_⟩;assumption)))
  refine Am yy15 ?_;exact hP _ ⟨l15,A8,rfl⟩
 refine tw ?_
 rcases AL k 9 with hc16|hc16
 ·subst hc16;refine tw ?_;obtain⟨l17,h17_1,yy17⟩:=F7 8 (BI [[EM 9]] [y,z]) A8 (by(rw[Aa];simp only[List.cons_append,List.nil_append,List.forall_mem_cons,List.not_mem_nil,false_implies,implies_true,and_true,List.length_cons,List.length_nil,AP,AB];first|assumption|omega|(refine⟨by omega,?_⟩;assumption)))
  refine Am yy17 ?_;exact hP _ ⟨l17,A8,rfl⟩
 refine tw ?_;rw[Gl _ _ A8 A8];refine tw ?_;exact hP _ ⟨Ar 8 [[EM k]],A8,rfl⟩
theorem DW(w:List UInt8)(k s0 s1:Int)(d:List UInt8)(n o:Int)(x y z:List UInt8)(bs:List (List UInt8))(hw:w.length<=2000)(h:Qg d x y z bs):Ah E0 (.call 244 [.sl .u8 w,asA k s0 s1 d n o x y z bs] []) fun r=>∃ l:List UInt8,(l.length<=32)/\r=some (.ret (.sl .u8 l) []):=by
 refine CU fun P hP=>tw ?_
 obtain⟨e0,yy0⟩:=MM k s0 s1 d n o x y z bs A8;refine Am yy0 ?_
 rcases AX e0 0 with hc1|hc1
 ·refine tw ?_;exact hP _ ⟨[],A8,rfl⟩
 subst hc1;refine tw ?_;obtain⟨l2,h2_1,yy2⟩:=ni w k s0 s1 d n o x y z bs A8 A8;refine Am yy2 ?_;rw[H8 _ A8];refine tw ?_;exact hP _ ⟨sha256 l2,A8,rfl⟩
theorem UH(b:List UInt8)(hb:b.length<=10000):∀(n:Nat) (j:Int),0<=j->j+n=b.length->Ah E0 (.loop 323 0 0 0 [(0,.sl .u8 b),(3,.i j)] []) fun r=>∃ i:Int,(0<=i/\i<=b.length)/\r=some (.fin (.exit 0) 0 [(0,.sl .u8 b),(3,.i i)] [])
 | 0,j,h0,hj=>by
  refine CU fun P hP=>?_
  refine tw ?_;exact hP _ ⟨j,A8,rfl⟩
 | n+1,j,h0,hj=>by
  have ih:=UH b hb n (j+1) zaa zaa
  refine CU fun P hP=>?_
  refine tw ?_;obtain⟨x0,m0,g0⟩:=EL (l:=b) (i:=j) zaa;rw[g0];refine tw ?_
  rcases AL (↑x0.toNat) (↑(UInt8.ofNat 0).toNat) with hc1|hc1
  ·refine tw ?_;exact hP _ ih
  refine tw ?_;exact hP _ ⟨j,A8,rfl⟩
theorem Vy(a b:List UInt8)(ha:a.length<=10000)(hb:b.length=a.length):∀(n:Nat) (j:Int),0<=j->j+n=a.length->Ah E0 (.loop 322 0 0 0 [(5,.sl .u8 a),(6,.sl .u8 b),(7,.i j)] []) fun r=>(∃ x:Bool,r=some (.fin .ret 0 [(4,.b x)] []))\/r=some (.fin (.exit 0) 0 [] [])
 | 0,j,h0,hj=>by
  refine CU fun P hP=>?_
  refine tw ?_;exact hP _ (Or.inr rfl)
 | n+1,j,h0,hj=>by
  have ih:=Vy a b ha hb n (j+1) zaa zaa
  refine CU fun P hP=>?_
  refine tw ?_;obtain⟨x0,m0,g0⟩:=EL (l:=a) (i:=j) zaa;rw[g0];refine tw ?_;obtain⟨x1,m1,g1⟩:=EL (l:=b) (i:=j) zaa;rw[g1];refine tw ?_
  rcases AX (↑x0.toNat) (↑x1.toNat) with hc2|hc2
  ·refine tw ?_;rw[g0];refine tw ?_;rw[g1]
   conv=>arg 1;whnf
   try dsimp -iota -beta -eta -zeta only
   rw[drw zas];conv=>arg 1;whnf
   exact hP _ (Or.inl ⟨Bi BinOp.lss x0 x1,rfl⟩)
  refine tw ?_;exact hP _ ih
theorem YZ(b:List UInt8)(hb:b.length<=10000):Ah E0 (.call 323 [.sl .u8 b] []) fun r=>∃ l:List UInt8,(l.length<=b.length)/\r=some (.ret (.sl .u8 l) []):=by
 refine CU fun P hP=>tw ?_
 obtain⟨i0,⟨h0_1,h0_2⟩,yy0⟩:=UH b A8 (Int.toNat (↑b.length-(0))) 0 A8 zaa;refine Am yy0 ?_;exact hP _ ⟨List.take (Be b-i0).toNat (List.drop i0.toNat b),A8,rfl⟩
theorem La(a b:List UInt8)(ha:a.length<=10000)(hb:b.length<=10000):Ah E0 (.call 322 [.sl .u8 a,.sl .u8 b] []) fun r=>∃ x:Bool,r=some (.ret (.b x) []):=by
 refine CU fun P hP=>tw ?_
 obtain⟨l0,h0_1,yy0⟩:=YZ a A8;refine Am yy0 ?_;obtain⟨l1,h1_1,yy1⟩:=YZ b A8;refine Am yy1 ?_
 rcases AX (↑l0.length) (↑l1.length) with hc2|hc2
 ·refine tw ?_;exact hP _ ⟨FD (Be l0) (Be l1),rfl⟩
 refine tw ?_
 obtain(⟨x3,yy3⟩|yy3):=Vy l0 l1 A8 A8 (Int.toNat (↑l0.length-(0))) 0 A8 zaa
 ·refine Am yy3 ?_;exact hP _ ⟨x3,rfl⟩
 refine Am yy3 ?_;exact hP _ ⟨false,rfl⟩
theorem dO(o:Int)(a b:List UInt8)(ha:a.length<=10000)(hb:b.length<=10000):Ah E0 (.call 321 [.i o,.sl .u8 a,.sl .u8 b] []) fun r=>∃ x:Bool,r=some (.ret (.b x) []):=by
 refine CU fun P hP=>tw ?_
 rcases AL o 0 with hc0|hc0
 ·subst hc0;refine tw ?_;obtain⟨x1,yy1⟩:=La a b A8 A8;refine Am yy1 ?_
  rcases bo x1 with rfl|rfl
  ·refine tw ?_;exact hP _ ⟨false,rfl⟩
  refine tw ?_;obtain⟨x3,yy3⟩:=La b a A8 A8;rw[yy3]
  conv=>arg 1;whnf
  exact hP _ ⟨DX x3,rfl⟩
 refine tw ?_
 rcases AL o 1 with hc4|hc4
 ·subst hc4;refine tw ?_;obtain⟨x5,yy5⟩:=La a b A8 A8;refine Am yy5 ?_
  rcases bo x5 with rfl|rfl
  ·refine tw ?_;exact hP _ ⟨true,rfl⟩
  refine tw ?_;obtain⟨x7,yy7⟩:=La b a A8 A8;refine Am yy7 ?_;exact hP _ ⟨x7,rfl⟩
 refine tw ?_
 rcases AL o 2 with hc8|hc8
 ·subst hc8;refine tw ?_;obtain⟨x9,yy9⟩:=La a b A8 A8;refine Am yy9 ?_;exact hP _ ⟨x9,rfl⟩
 refine tw ?_
 rcases AL o 3 with hc10|hc10
 ·subst hc10;refine tw ?_;obtain⟨x11,yy11⟩:=La a b A8 A8;rw[yy11]
  conv=>arg 1;whnf
  exact hP _ ⟨DX x11,rfl⟩
 refine tw ?_;exact hP _ ⟨false,rfl⟩
end
section
attribute [local irreducible] Cj Dt D9 DT DK BH Du Ey Fh FD Et D7 CV Df DX and' Dk DU CG Ba Bl CJ CS BK BM BB BG Dv G7 Dw EM Dl Bh CO Bz C9 Bo BD Bi BO Be BZ Dx Bf DL Bd BI D6 Dy fits Dz Dn AZ Ap BL
attribute [local irreducible] E5 CP Bq nameB ES Em Ar
theorem jy(k z:Int):Ah E0 (.call 312 [.i k,.i z] []) fun r=>∃ b:Bool,(b=true->0<=z/\z<=128/\(k≠3\/z=8))/\r=some (.ret (.b b) []):=by
 refine CU fun P hP=>tw ?_
 rcases AL k 1 with hc0|hc0
 ·subst hc0;refine tw ?_
  rcases DD 1 z with hc1|hc1
  ·refine tw ?_
   refine hP _ ⟨Et z 128,?_,rfl⟩;(intro hz;simp only[Es,FB,decide_eq_true_eq,Bool.false_eq_true] at hz<;>omega)
  refine tw ?_
  refine hP _ ⟨false,?_,rfl⟩;(intro hz;simp only[Es,FB,decide_eq_true_eq,Bool.false_eq_true] at hz<;>omega)
 refine tw ?_
 rcases AL k 2 with hc2|hc2
 ·subst hc2;refine tw ?_
  refine hP _ ⟨Ey z 8,?_,rfl⟩;(intro hz;simp only[Es,FB,decide_eq_true_eq,Bool.false_eq_true] at hz<;>omega)
 refine tw ?_
 rcases AL k 3 with hc3|hc3
 ·subst hc3;refine tw ?_
  refine hP _ ⟨Ey z 8,?_,rfl⟩;(intro hz;simp only[Es,FB,decide_eq_true_eq,Bool.false_eq_true] at hz<;>omega)
 refine tw ?_
 rcases AL k 4 with hc4|hc4
 ·subst hc4;refine tw ?_
  refine hP _ ⟨Ey z 32,?_,rfl⟩;(intro hz;simp only[Es,FB,decide_eq_true_eq,Bool.false_eq_true] at hz<;>omega)
 refine tw ?_
 refine hP _ ⟨false,?_,rfl⟩;(intro hz;simp only[Es,FB,decide_eq_true_eq,Bool.false_eq_true] at hz<;>omega)
theorem xI(n k a z:Int)(u p:List UInt8):Ah E0 (.call 294 [.i n,.i k,.i a,.i z,.sl .u8 u,.sl .u8 p] []) fun r=>(∃ d:List UInt8,(CX n k p u d)/\r=some (.ret (.tup [lU n k a z p u false d,.i 0]) []))\/∃ e:Int,(e≠0)/\r=some (.ret (.tup [lU 0 0 0 0 [] [] false [],.i e]) []):=by
 refine CU fun P hP=>tw ?_
 rcases AY n 0 with hc0|hc0
 ·refine tw ?_;exact hP _ (Or.inr ⟨1,A8,rfl⟩)
 refine tw ?_
 rcases AY 255 n with hc1|hc1
 ·refine tw ?_;exact hP _ (Or.inr ⟨1,A8,rfl⟩)
 refine tw ?_;obtain⟨b2,h2_1,yy2⟩:=jy k z;refine Am yy2 ?_
 rcases bo b2 with rfl|rfl
 ·replace h2_1:=h2_1 rfl
  refine tw ?_
  rcases AX (↑p.length) 0 with hc4|hc4
  ·refine tw ?_
   rcases AX (↑p.length) 32 with hc5|hc5
   ·refine tw ?_;exact hP _ (Or.inr ⟨1,A8,rfl⟩)
   refine tw ?_
   rcases AY 32 (↑u.length) with hc6|hc6
   ·refine tw ?_;exact hP _ (Or.inr ⟨4,A8,rfl⟩)
   rw[G8 zaq]
   conv=>arg 1;whnf
   rw[Ae]
   conv=>arg 1;whnf
   rcases AY a 0 with hc7|hc7
   ·refine tw ?_;exact hP _ (Or.inr ⟨20,A8,rfl⟩)
   refine tw ?_
   rcases AY 127 a with hc8|hc8
   ·refine tw ?_;exact hP _ (Or.inr ⟨20,A8,rfl⟩)
   refine tw ?_
   rcases AL (BH BinOp.and a 21) 0 with hc9|hc9
   ·refine tw ?_;exact hP _ (Or.inr ⟨20,A8,rfl⟩)
   refine tw ?_
   rcases AL (BH BinOp.and a 42) 0 with hc10|hc10
   ·refine tw ?_;exact hP _ (Or.inr ⟨20,A8,rfl⟩)
   refine tw ?_
   rcases AX (BH BinOp.and a 12) 0 with hc11|hc11
   ·rw[Fa zaa]
    conv=>arg 1;whnf
    rw[Ae]
    conv=>arg 1;whnf
    rw[AA zaq]
    conv=>arg 1;whnf
    rw[MC zaa]
    conv=>arg 1;whnf
    rw[ER zaa]
    conv=>arg 1;whnf
    try dsimp -iota -beta -eta -zeta only
    exact hP _ (Or.inl ⟨Bd z 0,clo,rfl⟩)
   rw[EC zaa]
   conv=>arg 1;whnf
   rw[Ae]
   conv=>arg 1;whnf
   rw[MC zaa]
   conv=>arg 1;whnf
   rw[ER zaa]
   conv=>arg 1;whnf
   try dsimp -iota -beta -eta -zeta only
   exact hP _ (Or.inl ⟨Bd z 0,clo,rfl⟩)
  refine tw ?_
  rcases AY 32 (↑u.length) with hc12|hc12
  ·refine tw ?_;exact hP _ (Or.inr ⟨4,A8,rfl⟩)
  refine tw ?_
  rcases AY a 0 with hc13|hc13
  ·refine tw ?_;exact hP _ (Or.inr ⟨20,A8,rfl⟩)
  rw[G8 zaa]
  conv=>arg 1;whnf
  rw[Ae]
  conv=>arg 1;whnf
  rcases AY 127 a with hc14|hc14
  ·refine tw ?_;exact hP _ (Or.inr ⟨20,A8,rfl⟩)
  refine tw ?_
  rcases AL (BH BinOp.and a 21) 0 with hc15|hc15
  ·refine tw ?_;exact hP _ (Or.inr ⟨20,A8,rfl⟩)
  refine tw ?_
  rcases AL (BH BinOp.and a 42) 0 with hc16|hc16
  ·refine tw ?_;exact hP _ (Or.inr ⟨20,A8,rfl⟩)
  refine tw ?_
  rcases AX (BH BinOp.and a 12) 0 with hc17|hc17
  ·rw[Fa zaa]
   conv=>arg 1;whnf
   rw[Ae]
   conv=>arg 1;whnf
   rw[ER zaq]
   conv=>arg 1;whnf
   try dsimp -iota -beta -eta -zeta only
   exact hP _ (Or.inr ⟨20,A8,rfl⟩)
  refine tw ?_;exact hP _ (Or.inl ⟨Bd z 0,clo,rfl⟩)
 refine tw ?_;exact hP _ (Or.inr ⟨1,A8,rfl⟩)
theorem UI(o n z:Int)(hn : -1000000<=n/\n<=1099511627776)(hz:0<=z/\z<=100000):Ah E0 (.call 313 [.i o,.i n,.i z] []) fun r=>∃ b:Bool,(b=true->0<=o/\0<=n/\n<=z/\o<=z-n)/\r=some (.ret (.b b) []):=by
 refine CU fun P hP=>tw ?_
 rcases DD 0 o with hc0|hc0
 ·refine tw ?_
  rcases DD 0 n with hc1|hc1
  ·refine tw ?_
   rcases DD n z with hc2|hc2
   ·refine tw ?_
    refine hP _ ⟨Et o (z-n),?_,rfl⟩;(intro hz;simp only[Es,FB,decide_eq_true_eq,Bool.false_eq_true] at hz<;>omega)
   refine tw ?_
   refine hP _ ⟨false,?_,rfl⟩;(intro hz;simp only[Es,FB,decide_eq_true_eq,Bool.false_eq_true] at hz<;>omega)
  refine tw ?_
  refine hP _ ⟨false,?_,rfl⟩;(intro hz;simp only[Es,FB,decide_eq_true_eq,Bool.false_eq_true] at hz<;>omega)
 refine tw ?_
 refine hP _ ⟨false,?_,rfl⟩;(intro hz;simp only[Es,FB,decide_eq_true_eq,Bool.false_eq_true] at hz<;>omega)
theorem kC(n k a z:Int)(p u:List UInt8)(w:Bool)(d:List UInt8)(o:Int)(x:List UInt8)(h:CX n k p u d)(hx:x.length<=2000)(ho:0<=o/\o<=1099511627776):Ah E0 (.call 299 [lU n k a z p u w d,.i o,.sl .u8 x] []) fun r=>(∃(w':Bool) (d':List UInt8),(CX n k p u d')/\r=some (.ret (.tup [lU n k a z p u w' d',.i 0]) []))\/∃ e:Int,(e≠0)/\r=some (.ret (.tup [lU 0 0 0 0 [] [] false [],.i e]) []):=by
 unfold CX at h
 refine CU fun P hP=>tw ?_
 rcases AX k 1 with hc0|hc0
 ·refine tw ?_;exact hP _ (Or.inr ⟨19,A8,rfl⟩)
 subst hc0;refine tw ?_;obtain⟨b1,h1_1,yy1⟩:=UI o (Be x) (Be d) A8 A8;refine Am yy1 ?_
 rcases bo b1 with rfl|rfl
 ·replace h1_1:=h1_1 rfl
  refine tw ?_;rw[Hg _ A8];refine tw ?_;exact hP _ (Or.inl ⟨true,BI (BI (List.take o.toNat d) x) (List.take (Be d-(o+Be x)).toNat (List.drop (o+Be x).toNat d)),clo,rfl⟩)
 refine tw ?_;exact hP _ (Or.inr ⟨24,A8,rfl⟩)
theorem ny(n k a z:Int)(p u:List UInt8)(w:Bool)(d:List UInt8)(o m:Int)(h:CX n k p u d)(ho:0<=o/\o<=1099511627776)(hm:0<=m/\m<=1099511627776):Ah E0 (.call 298 [lU n k a z p u w d,.i o,.i m] []) fun r=>∃(l:List UInt8) (e:Int),r=some (.ret (.tup [.sl .u8 l,.i e]) []):=by
 unfold CX at h
 refine CU fun P hP=>tw ?_
 rcases bo w with rfl|rfl
 ·refine tw ?_;obtain⟨b1,h1_1,yy1⟩:=UI o m (Be d) A8 A8;refine Am yy1 ?_
  rcases bo b1 with rfl|rfl
  ·replace h1_1:=h1_1 rfl
   refine tw ?_;rw[Hg _ A8];refine tw ?_;exact hP _ ⟨List.take (o+m-o).toNat (List.drop o.toNat d),0,rfl⟩
  refine tw ?_;exact hP _ ⟨[],24,rfl⟩
 refine tw ?_;exact hP _ ⟨[],22,rfl⟩
theorem dP(n k a z:Int)(p u:List UInt8)(w:Bool)(d:List UInt8)(h:CX n k p u d):Ah E0 (.call 314 [lU n k a z p u w d] []) fun r=>∃ v:Int,r=some (.ret (.i v) []):=by
 unfold CX at h
 refine CU fun P hP=>tw ?_
 rw[Pj _];refine tw ?_;rw[show Y E0 (.call 40 [.pa 0 0,.i 8] [.var [.sl .u8 d,.i 0,.i 0]])=_ from GM d 0 0 8 zaa zaa];refine tw ?_;exact hP _ ⟨(J7 d 0 0 8).fst,rfl⟩
theorem nz(n k a z:Int)(p u:List UInt8)(w:Bool)(d:List UInt8)(m:Int)(h:CX n k p u d):Ah E0 (.call 300 [lU n k a z p u w d,.i m] []) fun r=>(∃(w':Bool) (d':List UInt8) (v:Int),(CX n k p u d')/\r=some (.ret (.tup [lU n k a z p u w' d',.i v,.i 0]) []))\/∃ e:Int,(e≠0)/\r=some (.ret (.tup [lU 0 0 0 0 [] [] false [],.i 0,.i e]) []):=by
 refine CU fun P hP=>tw ?_
 rcases AX k 2 with hc0|hc0
 ·refine tw ?_;exact hP _ (Or.inr ⟨19,A8,rfl⟩)
 subst hc0;refine tw ?_
 rcases bo w with rfl|rfl
 ·refine tw ?_;obtain⟨v2,yy2⟩:=dP n 2 a z p u true d A8;refine Am yy2 ?_
  rcases DD 1099511627776 v2 with hc3|hc3
  ·refine tw ?_;exact hP _ (Or.inr ⟨31,A8,rfl⟩)
  refine tw ?_;rw[CQ _ _ _ A8];refine tw ?_;refine hP _ (Or.inl ⟨true,CE [] 8 (Cj v2 1),max m (Cj v2 1),?_,rfl⟩);(unfold CX at *;simp only[AP,List.length_nil];omega)
 refine tw ?_
 rcases DD 1099511627776 m with hc4|hc4
 ·refine tw ?_;exact hP _ (Or.inr ⟨31,A8,rfl⟩)
 refine tw ?_;rw[CQ _ _ _ A8];refine tw ?_;refine hP _ (Or.inl ⟨true,CE [] 8 (Cj m 1),max m (Cj m 1),?_,rfl⟩);(unfold CX at *;simp only[AP,List.length_nil];omega)
theorem UJ(n a z:Int)(p u:List UInt8)(w:Bool)(o x:List UInt8)(hx:x.length=8):∀(q:Nat) (j:Int) (d:List UInt8),0<=j->j+q=d.length->d.length<=8->Ah E0 (.loop 301 0 0 3 [(1,.sl .u8 x),(2,.pa 0 0),(4,.pa 1 0),(6,.nm 2),(7,.i j)] [(0,some (.var [.i n,.i 3,.i a,.i z,.sl .u8 p,.sl .u8 u,.b w,.sl .u8 o])),(1,some (.var [.i 0,.i 0,.i 0,.i 0,.nil,.nil,.b false,.nil])),(2,some (.row 5 .u8 d))]) fun r=>∃ d':List UInt8,(d'.length=d.length)/\r=some (.fin (.exit 0) 2 [(2,.pa 0 0),(4,.pa 1 0),(6,.sl .u8 d')] [(0,some (.var [.i n,.i 3,.i a,.i z,.sl .u8 p,.sl .u8 u,.b w,.sl .u8 o])),(1,some (.var [.i 0,.i 0,.i 0,.i 0,.nil,.nil,.b false,.nil]))])
 | 0,j,d,h0,hj,hd=>by
  refine CU fun P hP=>?_
  refine tw ?_;exact hP _ ⟨d,A8,rfl⟩
 | q+1,j,d,h0,hj,hd=>by
  have ih:=fun d' (h:d'.length=d.length)=>UJ n a z p u w o x hx q (j+1) d' zaa zaa zaa
  have hs:∀ y,(Bf d j y).length=d.length:=fun y=>by rw[G5];simp
  refine CU fun P hP=>?_
  refine tw ?_;obtain⟨x0,m0,g0⟩:=EL (l:=d) (i:=j) zaa;rw[g0];refine tw ?_;obtain⟨x1,m1,g1⟩:=EL (l:=x) (i:=j) zaa;rw[g1];refine tw ?_;rw[g0];refine tw ?_
  obtain⟨d',h',e'⟩:=ih _ (hs _);rw[e'];rw[hs] at h';refine tw ?_;exact hP _ ⟨d',A8,rfl⟩
theorem o5(n k a z:Int)(p u:List UInt8)(w:Bool)(d:List UInt8)(x:List UInt8)(h:CX n k p u d):Ah E0 (.call 301 [lU n k a z p u w d,.sl .u8 x] []) fun r=>(∃(w':Bool) (d':List UInt8),(CX n k p u d')/\r=some (.ret (.tup [lU n k a z p u w' d',.i 0]) []))\/∃ e:Int,(e≠0)/\r=some (.ret (.tup [lU 0 0 0 0 [] [] false [],.i e]) []):=by
 unfold CX at h
 refine CU fun P hP=>tw ?_
 rcases AX k 3 with hc0|hc0
 ·refine tw ?_;exact hP _ (Or.inr ⟨19,A8,rfl⟩)
 subst hc0;refine tw ?_
 rcases AX (↑x.length) 8 with hc1|hc1
 ·refine tw ?_;exact hP _ (Or.inr ⟨24,A8,rfl⟩)
 refine tw ?_;rw[Hg _ A8];refine tw ?_;obtain⟨d'2,h2_1,yy2⟩:=UJ n a z p u w d x A8 (Int.toNat (↑d.length-(0))) 0 d A8 zaa A8;refine Am yy2 ?_;exact hP _ (Or.inl ⟨true,d'2,clo,rfl⟩)
theorem dQ(n k a z:Int)(p u:List UInt8)(w:Bool)(d:List UInt8)(x:List UInt8)(h:CX n k p u d)(hx:x.length<=2000):Ah E0 (.call 302 [lU n k a z p u w d,.sl .u8 x] []) fun r=>(∃(w':Bool) (d':List UInt8),(CX n k p u d')/\r=some (.ret (.tup [lU n k a z p u w' d',.i 0]) []))\/∃ e:Int,(e≠0)/\r=some (.ret (.tup [lU 0 0 0 0 [] [] false [],.i e]) []):=by
 unfold CX at h
 refine CU fun P hP=>tw ?_
 rcases AX k 4 with hc0|hc0
 ·refine tw ?_;exact hP _ (Or.inr ⟨19,A8,rfl⟩)
 subst hc0;refine tw ?_
 rcases AY 128 (↑x.length) with hc1|hc1
 ·refine tw ?_;exact hP _ (Or.inr ⟨4,A8,rfl⟩)
 refine tw ?_;rw[Hg _ A8];refine tw ?_;rw[H8 _ A8];refine tw ?_;exact hP _ (Or.inl ⟨true,sha256 (BI d x),clo,rfl⟩)
end
end Go.Proofs.YtnhgnfdbdflhcaaGreatDoor
