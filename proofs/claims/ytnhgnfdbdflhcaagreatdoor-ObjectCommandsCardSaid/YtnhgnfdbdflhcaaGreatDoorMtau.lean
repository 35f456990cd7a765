/-
  Own texts, laid together for this claim: contracts of functions of the program and its references, used by the statements of this seat.
-/
import Derived.Test.YtnhgnfdbdflhcaaGreatDoorMtab
import Derived.Test.YtnhgnfdbdflhcaaGreatDoorMtad
import Derived.Test.YtnhgnfdbdflhcaaGreatDoorMtae
import Derived.Test.YtnhgnfdbdflhcaaGreatDoorMtaf
import Derived.Test.YtnhgnfdbdflhcaaGreatDoorMtag
import Derived.Test.YtnhgnfdbdflhcaaGreatDoorMtai
import Derived.Test.YtnhgnfdbdflhcaaGreatDoorMtaj
import Derived.Test.YtnhgnfdbdflhcaaGreatDoorMtan
import Derived.Test.YtnhgnfdbdflhcaaGreatDoorMtao
import Derived.Test.YtnhgnfdbdflhcaaGreatDoorMtaq
import Derived.Test.YtnhgnfdbdflhcaaGreatDoorMtar
import Derived.Test.YtnhgnfdbdflhcaaGreatDoorMtas
import Derived.Test.YtnhgnfdbdflhcaaGreatDoorMtat
set_option linter.all false
set_option maxHeartbeats 40000000
set_option maxRecDepth 100000
namespace Go.Proofs.YtnhgnfdbdflhcaaGreatDoor
open Go Go.Ax Go.Eng
section
attribute [local irreducible] Cc Dn D7 DU DD BA Dp F7 FY FD Ez Ci CS DK DV and' DW DL C9 BR Bh CB CG BG BI Aw BC Dq Fh Dt ER DX Bl CE Bv Bz Bi Az Bg BK Bj BO Du Bc DF BZ BM Cj Di fits Dv Dk Ac Am BH
attribute [local irreducible] En Eg Fv CV nameB Eh wkey JF NH EL
theorem PK(k h:Int)(a s d:List UInt8)(ha:a.length<=100000)(hs:s.length<=100000)(hd:d.length<=100000):Y E0 (.call 96 [.i k,.i h,.agg [.sl .u8 a,.sl .u8 s,.sl .u8 d]] [])=some (.ret (.sl .u8 (Eh k h ⟨a,s,d⟩)) []):=by
 refine tq ?_
 rcases AL k 2 with hc0|hc0
 ·subst hc0;refine tq ?_;rw[A5S _ _ A7];refine tq ?_
  (unfold Eh;(repeat(first|rw[if_pos zaa]|rw[if_neg zaa]));try rfl)
 refine tq ?_;rw[I8 _ _ A7 A7];refine tq ?_
 (unfold Eh;(repeat(first|rw[if_pos zaa]|rw[if_neg zaa]));try rfl)
theorem MJ(k h:Int)(a s d:List UInt8)(ha:a.length<=100000)(hs:s.length<=100000)(hd:d.length<=100000):Y E0 (.call 183 [.agg [.sl .u8 a,.sl .u8 s,.sl .u8 d],.i k,.i h] [])=some (.ret (.sl .u8 (Eh k h ⟨a,s,d⟩)) []):=by
 refine tq ?_
 rcases AL k 2 with hc0|hc0
 ·subst hc0;refine tq ?_;rw[nH _ _ A7];refine tq ?_
  (unfold Eh;(repeat(first|rw[if_pos zaa]|rw[if_neg zaa]));try rfl)
 refine tq ?_;rw[F5 _ _ A7 A7];refine tq ?_
 (unfold Eh;(repeat(first|rw[if_pos zaa]|rw[if_neg zaa]));try rfl)
theorem Lh(e:Int):Y E0 (.call 94 [.i e] [])=some (.ret (.tup [.agg (PI Wu),.agg (Xu U6),.i e]) []):=by
 refine tq ?_
 rfl
theorem tX(a s d a' s' d':List UInt8)(ha:a.length<=100000)(hs:s.length<=100000)(hd:d.length<=100000):Y E0 (.call 143 [.agg [.sl .u8 a,.sl .u8 s,.sl .u8 d],.agg [.sl .u8 a',.sl .u8 s',.sl .u8 d']] [])=some (.ret (.b (Xa ⟨a,s,d⟩ ⟨a',s',d'⟩)) []):=by
 refine tq ?_;rw[Bq _ _ A7];refine tq ?_
 rcases Decidable.em (a=a') with hc0|hc0
 ·refine tq ?_;rw[Bq _ _ A7];refine tq ?_
  rcases Decidable.em (s=s') with hc1|hc1
  ·refine tq ?_;rw[Bq _ _ A7];refine tq ?_
   simp_all[Xa]
  refine tq ?_
  simp_all[Xa]
 refine tq ?_
 simp_all[Xa]
theorem nR(secret:List UInt8)(k a h:Int)(o u auth data:List UInt8)(hs:secret.length<=100000):Y E0 (.call 35 [.sl .u8 secret,.agg [.i k,.i a,.i h,.sl .u8 o,.sl .u8 u],.sl .u8 auth,.sl .u8 data] [])=some (.ret (.tup [.agg (PI (Be secret ⟨k,a,h,o,u⟩ auth data).1),.agg (Xu (Be secret ⟨k,a,h,o,u⟩ auth data).2.1),.i (Be secret ⟨k,a,h,o,u⟩ auth data).2.2]) []):=by
 have hu:=YM k
 have hd:=Ff (key:=secret) (label:=I4) (ctx:=[]) (n:=32) zaa
 have hE:BZ (uniq k) (0:UInt8)=List.replicate (uniq k).toNat 0:=by rw[FH]
 by_cases hk:k=2
 ·subst hk
  have hr:BZ 17 (0:UInt8)=List.replicate (uniq 2).toNat 0:=zbO
  rw[Ad]
  conv=>lhs;whnf
  rw[NC zaa]
  conv=>lhs;whnf
  rw[EH zaa]
  conv=>lhs;whnf
  rw[EH zaa]
  conv=>lhs;whnf
  rw[hr];refine tq ?_;rw[X3 ..];refine tq ?_
  rcases AX (CV {kind:=2,attr:=a,height:=h,policy:=o,unique:=List.replicate (uniq 2).toNat 0}) 0 with hc0|hc0
  ·refine tq ?_;rw[Lh _];refine tq ?_
   (unfold Be;dsimp only;(repeat(first|rw[if_pos zan]|rw[if_neg zan]));try rfl)
  refine tq ?_
  rcases AZ 32 (↑auth.length) with hc1|hc1
  ·refine tq ?_;rw[Lh _];refine tq ?_
   (unfold Be;dsimp only;(repeat(first|rw[if_pos zan]|rw[if_neg zan]));try rfl)
  refine tq ?_
  rcases AZ 128 (↑data.length) with hc2|hc2
  ·refine tq ?_;rw[Lh _];refine tq ?_
   (unfold Be;dsimp only;(repeat(first|rw[if_pos zan]|rw[if_neg zan]));try rfl)
  refine tq ?_
  rcases AZ 0 (↑data.length) with hc3|hc3
  ·refine tq ?_;rw[Lh _];refine tq ?_
   (unfold Be;dsimp only;(repeat(first|rw[if_pos zan]|rw[if_neg zan]));try rfl)
  refine tq ?_;rw[show strOf {data := #[115,101,101,100]}=I4 from rfl,H7 _ _ _ _ zaa zal zam];refine tq ?_;rw[PK _ _ _ _ _ A7 A7 A7];refine tq ?_
  (unfold Be;dsimp only;(repeat(first|rw[if_pos zan]|rw[if_neg zan]));try rfl)
 ·have hr:BZ 32 (0:UInt8)=List.replicate (uniq k).toNat 0:=by rw[FH,uniq,if_neg hk]
  rw[Ad]
  conv=>lhs;whnf
  rw[hr];refine tq ?_;rw[X3 ..];refine tq ?_
  rcases AX (CV {kind:=k,attr:=a,height:=h,policy:=o,unique:=List.replicate (uniq k).toNat 0}) 0 with hc0|hc0
  ·refine tq ?_;rw[Lh _];refine tq ?_
   (unfold Be;dsimp only;(repeat(first|rw[if_pos zan]|rw[if_neg zan]));try rfl)
  refine tq ?_
  rcases AZ 32 (↑auth.length) with hc1|hc1
  ·refine tq ?_;rw[Lh _];refine tq ?_
   (unfold Be;dsimp only;(repeat(first|rw[if_pos zan]|rw[if_neg zan]));try rfl)
  refine tq ?_
  rcases AZ 128 (↑data.length) with hc2|hc2
  ·refine tq ?_;rw[Lh _];refine tq ?_
   (unfold Be;dsimp only;(repeat(first|rw[if_pos zan]|rw[if_neg zan]));try rfl)
  refine tq ?_
  rcases AZ 0 (↑data.length) with hc3|hc3
  ·refine tq ?_
   rcases AX k 3 with hc4|hc4
   ·refine tq ?_;rw[Lh _];refine tq ?_
    (unfold Be;dsimp only;(repeat(first|rw[if_pos zan]|rw[if_neg zan]));try rfl)
   subst hc4;refine tq ?_;rw[show strOf {data := #[115,101,101,100]}=I4 from rfl,H7 _ _ _ _ zaa zal zam];refine tq ?_;rw[PK _ _ _ _ _ A7 A7 A7];refine tq ?_
   (unfold Be;dsimp only;(repeat(first|rw[if_pos zan]|rw[if_neg zan]));try rfl)
  refine tq ?_;rw[show strOf {data := #[115,101,101,100]}=I4 from rfl,H7 _ _ _ _ zaa zal zam];refine tq ?_;rw[PK _ _ _ _ _ A7 A7 A7];refine tq ?_
  (unfold Be;dsimp only;(repeat(first|rw[if_pos zan]|rw[if_neg zan]));try rfl)
theorem U7(secret:List UInt8)(k a h:Int)(o u auth data:List UInt8)(hs:secret.length<=100000):Y E0 (.call 123 [.sl .u8 secret,.agg [.i k,.i a,.i h,.sl .u8 o,.sl .u8 u],.sl .u8 auth,.sl .u8 data] [])=some (.ret (.tup [.agg (PI (Be secret ⟨k,a,h,o,u⟩ auth data).1),.agg (Xu (Be secret ⟨k,a,h,o,u⟩ auth data).2.1),.i (Be secret ⟨k,a,h,o,u⟩ auth data).2.2]) []):=by
 have hu:=YM k
 have hd:=Ff (key:=secret) (label:=I4) (ctx:=[]) (n:=32) zaa
 have hE:BZ (uniq k) (0:UInt8)=List.replicate (uniq k).toNat 0:=by rw[FH]
 by_cases hk:k=2
 ·subst hk
  have hr:BZ 17 (0:UInt8)=List.replicate (uniq 2).toNat 0:=zbO
  refine tq ?_;rw[Ei _]
  conv=>lhs;whnf
  rw[hE];refine tq ?_;rw[Ju ..];refine tq ?_
  rcases AX (CV {kind:=2,attr:=a,height:=h,policy:=o,unique:=List.replicate (uniq 2).toNat 0}) 0 with hc0|hc0
  ·refine tq ?_
   (unfold Be;dsimp only;(repeat(first|rw[if_pos zan]|rw[if_neg zan]));try rfl)
  refine tq ?_
  rcases AZ 32 (↑auth.length) with hc1|hc1
  ·refine tq ?_
   (unfold Be;dsimp only;(repeat(first|rw[if_pos zan]|rw[if_neg zan]));try rfl)
  refine tq ?_
  rcases AZ 128 (↑data.length) with hc2|hc2
  ·refine tq ?_
   (unfold Be;dsimp only;(repeat(first|rw[if_pos zan]|rw[if_neg zan]));try rfl)
  refine tq ?_
  rcases AZ 0 (↑data.length) with hc3|hc3
  ·refine tq ?_
   (unfold Be;dsimp only;(repeat(first|rw[if_pos zan]|rw[if_neg zan]));try rfl)
  refine tq ?_;rw[show strOf {data := #[115,101,101,100]}=I4 from rfl,Es _ _ _ _ zaa zal zam];refine tq ?_;rw[MJ _ _ _ _ _ A7 A7 A7];refine tq ?_
  (unfold Be;dsimp only;(repeat(first|rw[if_pos zan]|rw[if_neg zan]));try rfl)
 ·have hr:BZ 32 (0:UInt8)=List.replicate (uniq k).toNat 0:=by rw[FH,uniq,if_neg hk]
  refine tq ?_;rw[Ei _]
  conv=>lhs;whnf
  rw[hE];refine tq ?_;rw[Ju ..];refine tq ?_
  rcases AX (CV {kind:=k,attr:=a,height:=h,policy:=o,unique:=List.replicate (uniq k).toNat 0}) 0 with hc0|hc0
  ·refine tq ?_
   (unfold Be;dsimp only;(repeat(first|rw[if_pos zan]|rw[if_neg zan]));try rfl)
  refine tq ?_
  rcases AZ 32 (↑auth.length) with hc1|hc1
  ·refine tq ?_
   (unfold Be;dsimp only;(repeat(first|rw[if_pos zan]|rw[if_neg zan]));try rfl)
  refine tq ?_
  rcases AZ 128 (↑data.length) with hc2|hc2
  ·refine tq ?_
   (unfold Be;dsimp only;(repeat(first|rw[if_pos zan]|rw[if_neg zan]));try rfl)
  refine tq ?_
  rcases AZ 0 (↑data.length) with hc3|hc3
  ·refine tq ?_
   rcases AX k 3 with hc4|hc4
   ·refine tq ?_
    (unfold Be;dsimp only;(repeat(first|rw[if_pos zan]|rw[if_neg zan]));try rfl)
   subst hc4;refine tq ?_;rw[show strOf {data := #[115,101,101,100]}=I4 from rfl,Es _ _ _ _ zaa zal zam];refine tq ?_;rw[MJ _ _ _ _ _ A7 A7 A7];refine tq ?_
   (unfold Be;dsimp only;(repeat(first|rw[if_pos zan]|rw[if_neg zan]));try rfl)
  refine tq ?_;rw[show strOf {data := #[115,101,101,100]}=I4 from rfl,Es _ _ _ _ zaa zal zam];refine tq ?_;rw[MJ _ _ _ _ _ A7 A7 A7];refine tq ?_
  (unfold Be;dsimp only;(repeat(first|rw[if_pos zan]|rw[if_neg zan]));try rfl)
theorem jA(a s d:List UInt8)(k t h:Int)(o u:List UInt8)(hs:s.length<=100000)(ho:o.length<=60000)(hu:u.length<=60000):Y E0 (.call 184 [.agg [.sl .u8 a,.sl .u8 s,.sl .u8 d],.agg [.i k,.i t,.i h,.sl .u8 o,.sl .u8 u]] [])=some (.ret (.tup [.sl .u8 (wkey ⟨a,s,d⟩ (nameB ⟨k,t,h,o,u⟩)),.sl .u8 ((nameB ⟨k,t,h,o,u⟩).take 16)]) []):=by
 have hn:=Aa ⟨k,t,h,o,u⟩
 refine tq ?_;rw[Qg _ _ _ _ _ A7 A7];refine tq ?_;rw[show strOf {data := #[112,114,105,118,97,116,101]}=A3S from rfl,H7 _ _ _ _ zaa zal zaa];refine tq ?_
 (unfold wkey;rfl)
theorem X5(a s d:List UInt8)(nm:List UInt8)(hs:s.length<=100000)(hn:nm.length<=100000):Y E0 (.call 187 [.agg [.sl .u8 a,.sl .u8 s,.sl .u8 d],.sl .u8 nm] [])=some (.ret (.sl .u8 (wkey ⟨a,s,d⟩ nm)) []):=by
 refine tq ?_;rw[show strOf {data := #[112,114,105,118,97,116,101]}=A3S from rfl,Es _ _ _ _ zaa zal zaa];refine tq ?_
 (unfold wkey;rfl)
theorem A3i(a s d:List UInt8)(k t h:Int)(o u a' s' d':List UInt8)(hs:s.length<=100000)(ho:o.length<=60000)(hu:u.length<=60000):Y E0 (.call 128 [.agg [.sl .u8 a,.sl .u8 s,.sl .u8 d],.agg [.i k,.i t,.i h,.sl .u8 o,.sl .u8 u],.agg [.sl .u8 a',.sl .u8 s',.sl .u8 d']] [])=some (.ret (.sl .u8 (Ea ⟨a,s,d⟩ ⟨k,t,h,o,u⟩ ⟨a',s',d'⟩)) []):=by
 have hn:=Aa ⟨k,t,h,o,u⟩
 have he:=Hf (p:=⟨k,t,h,o,u⟩) zay zay
 have hw:=BP ⟨a,s,d⟩ (nameB ⟨k,t,h,o,u⟩)
 simp only at he
 refine tq ?_;rw[jA _ _ _ _ _ _ _ _ A7 A7 A7];refine tq ?_;rw[KL _ _ A7];refine tq ?_;rw[KL _ _ A7];refine tq ?_;rw[KL _ _ A7];refine tq ?_;rw[SB _ _ _ _ _ A7 A7];refine tq ?_;rw[A5Y _ _ _ _ A7 A7];refine tq ?_
 (unfold Ea PG;rfl)
theorem Zt(a s d:List UInt8)(k t h:Int)(o u a' s' d':List UInt8)(hs:s.length<=100000)(ho:o.length<=60000)(hu:u.length<=60000):Y E0 (.call 130 [.agg [.sl .u8 a,.sl .u8 s,.sl .u8 d],.agg [.i k,.i t,.i h,.sl .u8 o,.sl .u8 u],.agg [.sl .u8 a',.sl .u8 s',.sl .u8 d']] [])=some (.ret (.nm 0) [some (.row 5 .u8 (Ea ⟨a,s,d⟩ ⟨k,t,h,o,u⟩ ⟨a',s',d'⟩))]):=by
 have hn:=Aa ⟨k,t,h,o,u⟩
 have he:=Hf (p:=⟨k,t,h,o,u⟩) zay zay
 have hw:=BP ⟨a,s,d⟩ (nameB ⟨k,t,h,o,u⟩)
 simp only at he
 refine tq ?_;rw[GR _ _ _ _ _ A7 A7];refine tq ?_;rw[GM _ _ A7];refine tq ?_;rw[GM _ _ A7];refine tq ?_;rw[GM _ _ A7];refine tq ?_;rw[X5 _ _ _ _ A7 A7];refine tq ?_;rw[IY _ _ _ _ _ A7 A7];refine tq ?_;rw[A0V _ _ _ _ A7 A7];refine tq ?_
 (unfold Ea PG;rfl)
theorem A3j(a s d:List UInt8)(k t h:Int)(o u x:List UInt8)(hs:s.length<=100000)(ho:o.length<=60000)(hu:u.length<=60000)(hx:x.length<=1000000):Y E0 (.call 132 [.agg [.sl .u8 a,.sl .u8 s,.sl .u8 d],.agg [.i k,.i t,.i h,.sl .u8 o,.sl .u8 u],.sl .u8 x] [])=some (.ret (.tup [.agg (Xu (ES ⟨a,s,d⟩ ⟨k,t,h,o,u⟩ x).1),.i (ES ⟨a,s,d⟩ ⟨k,t,h,o,u⟩ x).2]) []):=by
 have hn:=Aa ⟨k,t,h,o,u⟩
 have he:=Hf (p:=⟨k,t,h,o,u⟩) zay zay
 have hw:=BP ⟨a,s,d⟩ (nameB ⟨k,t,h,o,u⟩)
 simp only at he
 have eo:=A5Z (wkey ⟨a,s,d⟩ (nameB ⟨k,t,h,o,u⟩)) (EL ⟨k,t,h,o,u⟩) x zaa zaa zaa
 have hl:=dR (key:=wkey ⟨a,s,d⟩ (nameB ⟨k,t,h,o,u⟩)) (ad:=EL ⟨k,t,h,o,u⟩) (b:=x)
 unfold ES
 generalize JF (wkey ⟨a,s,d⟩ (nameB ⟨k,t,h,o,u⟩)) (EL ⟨k,t,h,o,u⟩) x=R at *
 obtain⟨b,e⟩:=R
 dsimp only at eo hl ⊢
 have hb:b.length<=4294967296:=zaa
 by_cases hz:e=0
 ·subst hz;rw[if_neg zam];refine tq ?_;rw[jA _ _ _ _ _ _ _ _ A7 A7 A7];refine tq ?_;rw[SB _ _ _ _ _ A7 A7];refine tq ?_;rw[eo];refine tq ?_;rw[tH _ A7];refine tq ?_;rw[show Y E0 (.call 190 [.pa 0 0,.i 32] [.var [.sl .u8 b,.i 0,.i 0]])=_ from NL b 0 0 32 hb (Nat.zero_le _)];generalize g0:Ie b 0 0 32=x0;obtain⟨v0,p0,er0⟩:=x0;have k0:p0<=b.length:=zba;have l0:v0.length<=b.length:=zbw;have m0:v0.length<=32:=za4
  refine tq ?_;rw[NL b p0 er0 32 hb k0];generalize g1:Ie b p0 er0 32=x1;obtain⟨v1,p1,er1⟩:=x1;have k1:p1<=b.length:=zbn;have l1:v1.length<=b.length:=zbr;have m1:v1.length<=32:=za1
  refine tq ?_;rw[NL b p1 er1 128 hb k1];generalize g2:Ie b p1 er1 128=x2;obtain⟨v2,p2,er2⟩:=x2;have k2:p2<=b.length:=zaN;have l2:v2.length<=b.length:=zaS;have m2:v2.length<=128:=zaZ
  refine tq ?_;rw[iw _ _ _ A7 A7];refine tq ?_
  rcases AX (U2 b p2 er2) 0 with hc0|hc0
  ·refine tq ?_
   (rw[OU g0 g1 g2,if_pos zaa];try rfl)
  refine tq ?_;rw[PK _ _ _ _ _ A7 A7 A7];refine tq ?_;rw[nN _ _ A7];refine tq ?_
  rcases Decidable.em (u=Eh k h {auth:=v0,seed:=v1,data:=v2}) with hc1|hc1
  ·refine tq ?_
   (rw[OU g0 g1 g2,if_neg zaa,if_neg (by first|assumption|simp_all)];try rfl)
  refine tq ?_
  (rw[OU g0 g1 g2,if_neg zaa,if_pos (by first|assumption|simp_all)];try rfl)
 ·rw[if_pos hz];refine tq ?_;rw[jA _ _ _ _ _ _ _ _ A7 A7 A7];refine tq ?_;rw[SB _ _ _ _ _ A7 A7];refine tq ?_;rw[eo];refine tq ?_
  rfl
end
section
attribute [local irreducible] Cc Dn D7 DU DD BA Dp F7 FY FD Ez Ci CS DK DV and' DW DL C9 BR Bh CB CG BG BI Aw BC Dq Fh Dt ER DX Bl CE Bv Bz Bi Az Bg BK Bj BO Du Bc DF BZ BM Cj Di fits Dv Dk Ac Am BH
attribute [local irreducible] Dw CJ Be nameB EL Eh Ar ET
theorem Qr(h k a t:Int)(o u d:List UInt8):Y E0 (.call 9 [.i h,.i k,.i a,.i t,.sl .u8 o,.sl .u8 u,.sl .u8 d] [])=some (.ret (.agg [.i 9,.sl .i64 [h],.sl AY [],.sl .i64 [k,a,t],.sl (.sl .u8) [o,u,d]]) []):=by
 exact tq rfl
theorem yu(c s:Int)(bs:List (List UInt8))(hs:0<=s/\s<=100000):Y E0 (.call 12 [.i c,.i s,.sl (.sl .u8) bs] [])=some (.ret (.agg [.i c,.sl .i64 [512+s],.sl AY [],.sl .i64 [],.sl (.sl .u8) bs]) []):=by
 exact tq rfl
variable (sd au:List (List UInt8))(en:List UInt8)(ac re rs ck:Int)(od:Bool)(sb:List (List (List UInt8)))(su mc:Int)(ix:List (El Gp))(l1 l2 l3 l4 l5 l6:Int)(ks:List (El J8))(st sp:Bool)(rb:List (List (List UInt8)))(ru vc:Int)(sf:Bool)(dr:Int)(ss:List (El sesT))(ob:List (El objT))(rl wl:List Int)
theorem F9(e:Int):Y E0 (.call 30 [(sX sd au en ac re rs ck od sb su mc ix l1 l2 l3 l4 l5 l6 ks st sp rb ru vc sf dr ss ob rl wl),.i e] [])=some (.ret (.tup [(sX sd au en ac re rs ck od sb su mc ix l1 l2 l3 l4 l5 l6 ks st sp rb ru vc sf dr ss ob rl wl),.agg [.i e,.sl .i64 [],.sl (.sl .u8) [],.sl (.sl .u8) []]]) []):=by
 exact tq rfl
theorem G6(c h:Int)(hs:List Int)(az:List (El AY))(is:List Int)(bs:List (List UInt8))(hl:hs.length<=1000):Y E0 (.call 29 [.agg [.i c,.sl .i64 (h::hs),.sl AY az,.sl .i64 is,.sl (.sl .u8) bs]] [])=some (.ret (.i h) []):=by
 exact tq rfl
theorem NR(c x:Int)(hs:List Int)(az:List (El AY))(is:List Int)(bs:List (List UInt8))(hl:is.length<=1000):Y E0 (.call 45 [.agg [.i c,.sl .i64 hs,.sl AY az,.sl .i64 (x::is),.sl (.sl .u8) bs],.i 0] [])=some (.ret (.i x) []):=by
 exact tq rfl
theorem VV(c x y:Int)(hs:List Int)(az:List (El AY))(is:List Int)(bs:List (List UInt8))(hl:is.length<=1000):Y E0 (.call 45 [.agg [.i c,.sl .i64 hs,.sl AY az,.sl .i64 (x::y::is),.sl (.sl .u8) bs],.i 1] [])=some (.ret (.i y) []):=by
 exact tq rfl
theorem A3q(c x y z:Int)(hs:List Int)(az:List (El AY))(is:List Int)(bs:List (List UInt8))(hl:is.length<=1000):Y E0 (.call 45 [.agg [.i c,.sl .i64 hs,.sl AY az,.sl .i64 (x::y::z::is),.sl (.sl .u8) bs],.i 2] [])=some (.ret (.i z) []):=by
 exact tq rfl
theorem Gj(c:Int)(x:List UInt8)(hs:List Int)(az:List (El AY))(is:List Int)(bs:List (List UInt8))(hl:bs.length<=1000):Y E0 (.call 32 [.agg [.i c,.sl .i64 hs,.sl AY az,.sl .i64 is,.sl (.sl .u8) (x::bs)],.i 0] [])=some (.ret (.sl .u8 x) []):=by
 exact tq rfl
theorem Jw(c:Int)(x y:List UInt8)(hs:List Int)(az:List (El AY))(is:List Int)(bs:List (List UInt8))(hl:bs.length<=1000):Y E0 (.call 32 [.agg [.i c,.sl .i64 hs,.sl AY az,.sl .i64 is,.sl (.sl .u8) (x::y::bs)],.i 1] [])=some (.ret (.sl .u8 y) []):=by
 exact tq rfl
theorem Oc(c:Int)(x y z:List UInt8)(hs:List Int)(az:List (El AY))(is:List Int)(bs:List (List UInt8))(hl:bs.length<=1000):Y E0 (.call 32 [.agg [.i c,.sl .i64 hs,.sl AY az,.sl .i64 is,.sl (.sl .u8) (x::y::z::bs)],.i 2] [])=some (.ret (.sl .u8 z) []):=by
 exact tq rfl
theorem Oe(c k a t:Int)(hs:List Int)(az:List (El AY))(o:List UInt8)(bs:List (List UInt8))(hl:bs.length<=1000):Y E0 (.call 31 [.agg [.i c,.sl .i64 hs,.sl AY az,.sl .i64 [k,a,t],.sl (.sl .u8) (o::bs)]] [])=some (.ret (.agg [.i k,.i a,.i t,.sl .u8 o,.sl .u8 []]) []):=by
 refine tq ?_;rw[NR (hl:=A7) ..];refine tq ?_;rw[VV (hl:=A7) ..];refine tq ?_;rw[A3q (hl:=A7) ..];refine tq ?_;rw[Gj (hl:=A7) ..];exact tq rfl
theorem TN(sd au:List (List UInt8))(en:List UInt8)(ac re rs ck:Int)(od:Bool)(sb:List (List (List UInt8)))(su mc:Int)(ix:List (El Gp))(l1 l2 l3 l4 l5 l6:Int)(ks:List (El J8))(st sp:Bool)(rb:List (List (List UInt8)))(ru vc:Int)(sf:Bool)(dr:Int)(ss:List (El sesT))(ob:List (El objT))(rl wl:List Int)(p1 p2 p3:Int)(p4 p5 s1 s2 s3:List UInt8)(hr:Int)(hl:ob.length<=1000):∀(n j:Nat),j+n=ob.length->EW ob=j+EW (ob.drop j)->Y E0 (.loop 36 0 0 3 [(2,.pa 0 0),(3,.pa 1 0),(4,.pa 2 0),(11,.sl objT ob),(12,.i (Bj ob)),(13,.i (j:Int))] [(0,some (.var (sC sd au en ac re rs ck od sb su mc ix l1 l2 l3 l4 l5 l6 ks st sp rb ru vc sf dr ss ob rl wl))),(1,some (.var [.i p1,.i p2,.i p3,.sl .u8 p4,.sl .u8 p5,.sl .u8 s1,.sl .u8 s2,.sl .u8 s3,.i hr])),(2,some (.var [.nil,.nil,.nil,.i 0,.i 0,.i 0,.i 0,.b false,.nil,.i 0,.i 0,.nil,.i 0,.i 0,.i 0,.i 0,.i 0,.i 0,.nil,.b false,.b false,.nil,.i 0,.i 0,.b false,.i 0,.nil,.nil,.nil,.nil]))]) =
  if EW ob<ob.length then some (.fin .ret 3 [(2,.pa 0 0),(4,.pa 1 0),(5,.i (512+(EW ob:Int))),(6,.i 0)] [(0,some (.var [.sl (.sl .u8) sd,.sl (.sl .u8) au,.sl .u8 en,.i ac,.i re,.i rs,.i ck,.b od,.sl (.sl (.sl .u8)) sb,.i su,.i mc,.sl Gp ix,.i l1,.i l2,.i l3,.i l4,.i l5,.i l6,.sl J8 ks,.b st,.b sp,.sl (.sl (.sl .u8)) rb,.i ru,.i vc,.b sf,.i dr,.sl sesT ss,.nm 2,.sl .i64 rl,.sl .i64 wl])),(1,some (.var [.sl (.sl .u8) sd,.sl (.sl .u8) au,.sl .u8 en,.i ac,.i re,.i rs,.i ck,.b od,.sl (.sl (.sl .u8)) sb,.i su,.i mc,.sl Gp ix,.i l1,.i l2,.i l3,.i l4,.i l5,.i l6,.sl J8 ks,.b st,.b sp,.sl (.sl (.sl .u8)) rb,.i ru,.i vc,.b sf,.i dr,.sl sesT ss,.nm 2,.sl .i64 rl,.sl .i64 wl])),(2,some (.row 94 objT (ob.set (EW ob) ((p1,p2,p3,p4,p5),(s1,s2,s3),hr))))])
  else some (.fin (.exit 0) 2 [(2,.pa 0 0),(4,.pa 1 0)] [(0,some (.var (sC sd au en ac re rs ck od sb su mc ix l1 l2 l3 l4 l5 l6 ks st sp rb ru vc sf dr ss ob rl wl))),(1,some (.var [.nil,.nil,.nil,.i 0,.i 0,.i 0,.i 0,.b false,.nil,.i 0,.i 0,.nil,.i 0,.i 0,.i 0,.i 0,.i 0,.i 0,.nil,.b false,.b false,.nil,.i 0,.i 0,.b false,.i 0,.nil,.nil,.nil,.nil]))])
 | 0,j,hj,hf=>by
  rw[if_neg (by rw[List.drop_eq_nil_of_le zaa,EW] at hf;omega)]
  exact tq rfl
 | n+1,j,hj,hf=>by
  have hd:=List.drop_eq_getElem_cons (l:=ob) (i:=j) zaa
  rw[hd] at hf
  have hg:BO ob (j:Int)=some (ob[j]'zaa):=Fe zaa
  generalize ob[j]'zaa=x at *
  obtain⟨⟨k,a,t,o,u⟩,⟨y1,y2,y3⟩,h⟩:=x
  by_cases hk:k=0
  ·subst hk;rw[EW,if_pos rfl] at hf;rw[if_pos zaa,show EW ob=j from hf]
   have hs:∀ x,Bc ob (j:Int) x=ob.set j x:=fun x=>by rw[GG];simp
   refine to ?_;rw[hg];refine tq ?_;rw[A2n _ A7];refine to ?_;rw[hg];refine tq ?_
   (rw[hs])
  ·have ih:=TN sd au en ac re rs ck od sb su mc ix l1 l2 l3 l4 l5 l6 ks st sp rb ru vc sf dr ss ob rl wl p1 p2 p3 p4 p5 s1 s2 s3 hr hl n (j+1) zaa (by rw[hf,EW,if_neg hk];omega)
   rw[show((j+1:Nat):Int)=(j:Int)+1 from by omega] at ih
   refine to ?_;rw[hg];refine tq ?_;exact ih
theorem VW(p1 p2 p3:Int)(p4 p5 s1 s2 s3:List UInt8)(hr:Int)(hl:ob.length<=1000):Y E0 (.call 36 [(sX sd au en ac re rs ck od sb su mc ix l1 l2 l3 l4 l5 l6 ks st sp rb ru vc sf dr ss ob rl wl),.agg [.i p1,.i p2,.i p3,.sl .u8 p4,.sl .u8 p5,.sl .u8 s1,.sl .u8 s2,.sl .u8 s3,.i hr]] []) =
  if EW ob<ob.length then some (.ret (.tup [(sX sd au en ac re rs ck od sb su mc ix l1 l2 l3 l4 l5 l6 ks st sp rb ru vc sf dr ss (ob.set (EW ob) ((p1,p2,p3,p4,p5),(s1,s2,s3),hr)) rl wl),.i (512+(EW ob:Int)),.i 0]) []) else some (.ret (.tup [(sX sd au en ac re rs ck od sb su mc ix l1 l2 l3 l4 l5 l6 ks st sp rb ru vc sf dr ss ob rl wl),.i 0,.i 25]) []):=by
 have hq:=TN sd au en ac re rs ck od sb su mc ix l1 l2 l3 l4 l5 l6 ks st sp rb ru vc sf dr ss ob rl wl p1 p2 p3 p4 p5 s1 s2 s3 hr hl ob.length 0 zaa zam
 rw[show((0:Nat):Int)=0 from rfl] at hq
 by_cases hc:EW ob<ob.length
 ·rw[if_pos hc] at hq ⊢;refine tq ?_;rw[hq];exact tq rfl
 ·rw[if_neg hc] at hq ⊢;refine tq ?_;rw[hq];exact tq rfl
theorem TP(sd au:List (List UInt8))(en:List UInt8)(ac re rs ck:Int)(od:Bool)(sb:List (List (List UInt8)))(su mc:Int)(ix:List (El Gp))(l1 l2 l3 l4 l5 l6:Int)(ks:List (El J8))(st sp:Bool)(rb:List (List (List UInt8)))(ru vc:Int)(sf:Bool)(dr:Int)(ss:List (El sesT))(ob:List (El objT))(rl wl:List Int)(hl:ob.length<=1000):∀(n j:Nat),j+n=ob.length->EW ob=j+EW (ob.drop j)->Y E0 (.loop 124 0 0 1 [(1,.pa 0 0),(3,.i (j:Int))] [(0,some (.var (sC sd au en ac re rs ck od sb su mc ix l1 l2 l3 l4 l5 l6 ks st sp rb ru vc sf dr ss ob rl wl)))]) =
  if EW ob<ob.length then some (.fin .ret 0 [(2,.i (EW ob:Int))] []) else some (.fin (.exit 0) 0 [] [])
 | 0,j,hj,hf=>by
  rw[if_neg (by rw[List.drop_eq_nil_of_le zaa,EW] at hf;omega)]
  exact tq rfl
 | n+1,j,hj,hf=>by
  have hd:=List.drop_eq_getElem_cons (l:=ob) (i:=j) zaa
  rw[hd] at hf
  have hg:BO ob (j:Int)=some (ob[j]'zaa):=Fe zaa
  generalize ob[j]'zaa=x at *
  obtain⟨⟨k,a,t,o,u⟩,⟨y1,y2,y3⟩,h⟩:=x
  by_cases hk:k=0
  ·subst hk;rw[EW,if_pos rfl] at hf;rw[if_pos zaa,show EW ob=j from hf]
   refine to ?_;rw[hg];exact tq rfl
  ·have ih:=TP sd au en ac re rs ck od sb su mc ix l1 l2 l3 l4 l5 l6 ks st sp rb ru vc sf dr ss ob rl wl hl n (j+1) zaa (by rw[hf,EW,if_neg hk];omega)
   rw[show((j+1:Nat):Int)=(j:Int)+1 from by omega] at ih
   refine to ?_;rw[hg];refine tq ?_;exact ih
theorem VX(hl:ob.length<=1000):Y E0 (.call 124 [(sX sd au en ac re rs ck od sb su mc ix l1 l2 l3 l4 l5 l6 ks st sp rb ru vc sf dr ss ob rl wl)] [])=some (.ret (.i (if EW ob<ob.length then(EW ob:Int) else -1)) []):=by
 have hq:=TP sd au en ac re rs ck od sb su mc ix l1 l2 l3 l4 l5 l6 ks st sp rb ru vc sf dr ss ob rl wl hl ob.length 0 zaa zam
 rw[show((0:Nat):Int)=0 from rfl] at hq
 by_cases hc:EW ob<ob.length
 ·rw[if_pos hc] at hq ⊢;refine tq ?_;rw[hq];exact tq rfl
 ·rw[if_neg hc] at hq ⊢;refine tq ?_;rw[hq];exact tq rfl
theorem YO(k:Int)(p1 p2 p3:Int)(p4 p5 s1 s2 s3:List UInt8)(hr:Int)(hl:ob.length<=1000)(hk:0<=k/\k<ob.length):Y E0 (.call 125 [(sX sd au en ac re rs ck od sb su mc ix l1 l2 l3 l4 l5 l6 ks st sp rb ru vc sf dr ss ob rl wl),.i k,.agg [.i p1,.i p2,.i p3,.sl .u8 p4,.sl .u8 p5,.sl .u8 s1,.sl .u8 s2,.sl .u8 s3,.i hr]] [])=some (.ret ((sX sd au en ac re rs ck od sb su mc ix l1 l2 l3 l4 l5 l6 ks st sp rb ru vc sf dr ss (ob.set k.toNat ((p1,p2,p3,p4,p5),(s1,s2,s3),hr)) rl wl)) []):=by
 have hs:∀ x,Bc (BM [] ob) k x=ob.set k.toNat x:=fun x=>by rw[GG,Ag];rfl
 rw[Ad]
 conv=>lhs;whnf
 rw[Dy zaA]
 conv=>lhs;whnf
 rw[Gw zaA]
 conv=>lhs;whnf
 rw[DZ zaA]
 conv=>lhs;whnf
 try dsimp -iota -beta -eta -zeta only
 simp only[NO];try with_reducible rfl
theorem H8(h:Int)(p1 p2 p3:Int)(p4 p5 s1 s2 s3:List UInt8)(hr:Int)(hl:ob.length<=1000)(hx:Dl ob h=some ((p1,p2,p3,p4,p5),(s1,s2,s3),hr)):Y E0 (.call 85 [(sX sd au en ac re rs ck od sb su mc ix l1 l2 l3 l4 l5 l6 ks st sp rb ru vc sf dr ss ob rl wl),.i h] [])=some (.ret (.tup [.agg [.i p1,.i p2,.i p3,.sl .u8 p4,.sl .u8 p5,.sl .u8 s1,.sl .u8 s2,.sl .u8 s3,.i hr],.i 0]) []):=by
 have hh:512<=h:=by
  unfold Dl at hx;split at hx
  ·assumption
  ·cases hx
 rw[Dl,if_pos hh] at hx
 split at hx
 ·rename_i x hq
  split at hx
  ·cases hx
  ·rename_i hk
   obtain rfl:=Option.some.inj hx
   have hlt:=(List.getElem?_eq_some_iff.1 hq).1
   have hg:BO ob (h-512)=some ((p1,p2,p3,p4,p5),(s1,s2,s3),hr):=by rw[Nw];unfold lget0;rw[if_pos zaa];exact hq
   simp only at hk
   refine tq ?_;rw[hg];refine tq ?_;rw[hg]
   conv=>lhs;whnf
   try dsimp -iota -beta -eta -zeta only
   rw[Ad]
   conv=>lhs;whnf
 ·cases hx
theorem VY(c h k a t:Int)(hs:List Int)(az:List (El AY))(o u d:List UInt8)(hl:ob.length<=1000)(hsd:sd.length<=1000)(hsl:∀ l∈sd,l.length<=1000)(hhs:hs.length<=100)(ho:o.length<=50000)(hd:d.length<=50000):
  Y E0 (.call 8 [(sX sd au en ac re rs ck od sb su mc ix l1 l2 l3 l4 l5 l6 ks st sp rb ru vc sf dr ss ob rl wl),.agg [.i c,.sl .i64 (h::hs),.sl AY az,.sl .i64 [k,a,t],.sl (.sl .u8) [o,u,d]]] [])=some (.ret (.tup [(sX sd au en ac re rs ck od sb su mc ix l1 l2 l3 l4 l5 l6 ks st sp rb ru vc sf dr ss ((E8 sd ob h k a t o u d).1) rl wl),.agg (iZ (E8 sd ob h k a t o u d).2)]) []):=by
 unfold E8
 by_cases hc:0<=h/\h<sd.length
 ·rw[if_pos hc]
  have hg:BO sd h=some (sd.getD h.toNat []):=by rw[DZ zaa];simp[List.getD,List.getElem?_eq_getElem (show h.toNat<sd.length by omega)]
  have hm:(sd.getD h.toNat []).length<=1000:=by
   have:=hsl (sd[h.toNat]'zaa) (List.getElem_mem _)
   simpa [List.getD,List.getElem?_eq_getElem (show h.toNat<sd.length by omega)] using this
  unfold ET
  generalize sd.getD h.toNat []=seed at *
  have hlen:=KJ (secret:=Dw seed NJ (Ar 0 [[ER k,ER a,ER t],o,d]) 32) (auth:=u) (data:=d) (p:=⟨k,a,t,o,[]⟩)
  have hdl:=Ff (key:=seed) (label:=NJ) (ctx:=Ar 0 [[ER k,ER a,ER t],o,d]) (n:=32) zaa
  have em:=nR (Dw seed NJ (Ar 0 [[ER k,ER a,ER t],o,d]) 32) k a t o [] u d zaa
  generalize Be (Dw seed NJ (Ar 0 [[ER k,ER a,ER t],o,d]) 32) ⟨k,a,t,o,[]⟩ u d=M at *
  obtain⟨⟨qk,qa,qt,qo,qu⟩,⟨qx,qy,qz⟩,e⟩:=M
  dsimp only[PI,Xu] at *
  by_cases he:e=0
  ·subst he;rw[if_neg zam]
   unfold GX
   by_cases hf:EW ob<ob.length
   ·rw[if_pos hf];refine tq ?_;rw[G6 (hl:=A7) ..];refine tq ?_;rw[Oe (hl:=A7) ..];refine tq ?_;rw[Oc (hl:=A7) ..];refine tq ?_;rw[KH _ _ A7 A7];refine tq ?_;rw[hg];refine tq ?_;rw[show strOf {data := #[112,114,105,109,97,114,121]}=NJ from rfl,H7 _ _ _ _ zaa zal zbz]
    refine tq ?_;rw[Jw (hl:=A7) ..];refine tq ?_;rw[em];refine tq ?_;rw[VW _ _ _ _ _ _ _ _ _ _ _ _ _ _ _ _ _ _ _ _ _ _ _ _ _ _ _ _ _ _ _ _ _ _ _ _ _ _ _ hl,if_pos hf]
    conv=>lhs;whnf
    rw[Ad]
    conv=>lhs;whnf
    rw[Cf zaa]
    conv=>lhs;whnf
    try dsimp -iota -beta -eta -zeta only
    rw[AQ];rw[SB _ _ _ _ _ A7 A7];refine tq ?_;rw[Qg _ _ _ _ _ A7 A7];exact tq rfl
   ·rw[if_neg hf];refine tq ?_;rw[G6 (hl:=A7) ..];refine tq ?_;rw[Oe (hl:=A7) ..];refine tq ?_;rw[Oc (hl:=A7) ..];refine tq ?_;rw[KH _ _ A7 A7];refine tq ?_;rw[hg];refine tq ?_;rw[show strOf {data := #[112,114,105,109,97,114,121]}=NJ from rfl,H7 _ _ _ _ zaa zal zbz]
    refine tq ?_;rw[Jw (hl:=A7) ..];refine tq ?_;rw[em];refine tq ?_;rw[VW _ _ _ _ _ _ _ _ _ _ _ _ _ _ _ _ _ _ _ _ _ _ _ _ _ _ _ _ _ _ _ _ _ _ _ _ _ _ _ hl,if_neg hf]
    conv=>lhs;whnf
    rw[Ad]
    conv=>lhs;whnf
    rw[G8 zaa]
    conv=>lhs;whnf
    try dsimp -iota -beta -eta -zeta only
    rw[AQ];rw[F9 ..];exact tq rfl
  ·rw[if_pos he];refine tq ?_;rw[G6 (hl:=A7) ..];refine tq ?_;rw[Oe (hl:=A7) ..];refine tq ?_;rw[Oc (hl:=A7) ..];refine tq ?_;rw[KH _ _ A7 A7];refine tq ?_;rw[hg];refine tq ?_;rw[show strOf {data := #[112,114,105,109,97,114,121]}=NJ from rfl,H7 _ _ _ _ zaa zal zbz]
   refine tq ?_;rw[Jw (hl:=A7) ..];refine tq ?_;rw[em];refine tq ?_;rw[F9 ..];exact tq rfl
 ·rw[if_neg hc];refine tq ?_;rw[G6 (hl:=A7) ..];refine tq ?_
  rcases AZ h 0 with hc0|hc0
  ·refine tq ?_;rw[F9 ..]
   conv=>lhs;whnf
  rw[GL zaa]
  conv=>lhs;whnf
  rw[Gm zaA]
  conv=>lhs;whnf
  try dsimp -iota -beta -eta -zeta only
  rw[AQ];rw[F9 ..];exact tq rfl
end
end Go.Proofs.YtnhgnfdbdflhcaaGreatDoor
