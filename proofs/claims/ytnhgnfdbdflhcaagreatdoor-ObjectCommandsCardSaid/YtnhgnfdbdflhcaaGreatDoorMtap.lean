/-
  Own texts, laid together for this claim: contracts of functions of the program and its references, used by the statements of this seat.
-/
import Derived.Test.YtnhgnfdbdflhcaaGreatDoorMtab
import Derived.Test.YtnhgnfdbdflhcaaGreatDoorMtao
set_option linter.all false
set_option maxHeartbeats 40000000
set_option maxRecDepth 100000
namespace Go.Proofs.YtnhgnfdbdflhcaaGreatDoor
open Go Go.Ax
section
attribute [local irreducible] Cc Dn D7 DU DD BA Dp F7 FY FD Ez Ci CS DK DV and' DW DL C9 BR Bh CB CG BG BI Aw BC Dq Fh Dt ER DX Bl CE Bv Bz Bi Az Bg BK Bj BO Du Bc DF BZ BM Cj Di fits Dv Dk Ac Am BH
theorem Lt(b:List UInt8)(n p e:Int)(hb:b.length<=4294967296)(hp:0<=p)(h:p+n<=b.length)(hn:n<=8):∀(k:Nat) (acc:UInt64) (j:Int),j=n-k->0<=j ->
  Y E0 (.loop 40 0 1 1 [(0,.pa 0 0),(1,.i n),(5,.u64 acc),(6,.i j)] [(0,some (.var [.sl .u8 b,.i p,.i e]))])=some (.fin (.exit 0) 1 [(0,.pa 0 0),(1,.i n),(5,.u64 ((((b.drop p.toNat).take n.toNat).drop j.toNat).foldl (fun n x=>n<<<8|||x.toUInt64) acc))] [(0,some (.var [.sl .u8 b,.i p,.i e]))])
 | 0,acc,j,hj,hk=>by
  rw[Ad];conv=>lhs;whnf
  rw[GL zaa]
  conv=>lhs;whnf
  rw[List.drop_eq_nil_of_le zaC];rfl
 | k+1,acc,j,hj,hk=>by
  have hlt:j.toNat<((b.drop p.toNat).take n.toNat).length:=zaC
  rw[Ad];conv=>lhs;whnf
  rw[EZ zaa]
  conv=>lhs;whnf
  rw[Au zaa]
  rw[DZ zaa]
  conv=>lhs;whnf
  rw[drw zas];conv=>lhs;whnf
  rw[Au zaa]
  rw[Lt b n p e hb hp h hn k _ _ zaa zaa]
  conv=>lhs;whnf
  rw[show((b.drop p.toNat).take n.toNat).drop j.toNat=((b.drop p.toNat).take n.toNat)[j.toNat]::((b.drop p.toNat).take n.toNat).drop (j+1).toNat from by rw[List.drop_eq_getElem_cons hlt,show(j+1).toNat=j.toNat+1 from by omega],List.foldl_cons,lZ,lY,dB zal];simp only[List.getElem_take,List.getElem_drop,show(p+j).toNat=p.toNat+j.toNat from by omega];rfl
theorem Gs(b:List UInt8)(p:Nat)(e n:Int)(hb:b.length<=4294967296)(hp:p<=b.length):Y E0 (.call 40 [.pa 0 0,.i n] [.var [.sl .u8 b,.i p,.i e]])=some (.ret (.i (Hr b p e n).1) [some (.var [.sl .u8 b,.i (Hr b p e n).2.1,.i (Hr b p e n).2.2])]):=by
 have hv:∀ l:List UInt8,(l.drop (0:Int).toNat).foldl (fun(n:UInt64) (x:UInt8)=>n<<<8|||x.toUInt64) (UInt64.ofNat 0)=beN l:=fun _=>rfl
 by_cases h4:(b.length:Int)<(p:Int)+n
 ·rw[Ad];conv=>lhs;whnf
  rcases Bool.eq_false_or_eq_true (F7 e 0) with hc0|hc0
  ·rw[hc0];replace hc0:=ZA hc0;try simp only[BB] at hc0
   subst hc0
   conv=>lhs;whnf
   rw[GL zaa]
   conv=>lhs;whnf
   rcases Bool.eq_false_or_eq_true (FD 8 n) with hc1|hc1
   ·rw[hc1];replace hc1:=JQ hc1;try simp only[BB] at hc1
    conv=>lhs;whnf
    rw[Ad];conv=>lhs;whnf
    rw[G8 zaa]
    conv=>lhs;whnf
    unfold Hr;(repeat(first|rw[if_pos zab]|rw[if_neg zab]));try simp only[NO]
   ·rw[hc1];replace hc1:=JR hc1;try simp only[BB] at hc1
    conv=>lhs;whnf
    rw[Ad];conv=>lhs;whnf
    rw[Cf zaa]
    conv=>lhs;whnf
    rw[AQ]
    rw[Np _ _ _ _ zaa zaa zaa zaa]
    conv=>lhs;whnf
    rw[DT];conv=>lhs;whnf
    unfold Hr;(repeat(first|rw[if_pos zab]|rw[if_neg zab]));try simp only[NO]
  ·rw[hc0];replace hc0:=ZB hc0;try simp only[BB] at hc0
   conv=>lhs;whnf
   rw[Ad];conv=>lhs;whnf
   rw[G8 zaa]
   conv=>lhs;whnf
   unfold Hr;(repeat(first|rw[if_pos zab]|rw[if_neg zab]));try simp only[NO]
 ·by_cases h5:9223372036854775807<(beN ((b.drop p).take n.toNat)).toNat
  ·have hg:Az .geq (beN ((b.drop p).take n.toNat)) (UInt64.ofNat 9223372036854775808)=true:=by rw[IG,Gm zbe]
   rw[Ad];conv=>lhs;whnf
   rcases Bool.eq_false_or_eq_true (F7 e 0) with hc0|hc0
   ·rw[hc0];replace hc0:=ZA hc0;try simp only[BB] at hc0
    subst hc0
    conv=>lhs;whnf
    rcases Bool.eq_false_or_eq_true (FD n 1) with hc1|hc1
    ·rw[hc1];replace hc1:=JQ hc1;try simp only[BB] at hc1
     conv=>lhs;whnf
     rw[Ad];conv=>lhs;whnf
     rw[G8 zaa]
     conv=>lhs;whnf
     unfold Hr;(repeat(first|rw[if_pos zab]|rw[if_neg zab]));try simp only[NO]
    ·rw[hc1];replace hc1:=JR hc1;try simp only[BB] at hc1
     conv=>lhs;whnf
     rcases Bool.eq_false_or_eq_true (FD 8 n) with hc2|hc2
     ·rw[hc2];replace hc2:=JQ hc2;try simp only[BB] at hc2
      conv=>lhs;whnf
      rw[Ad];conv=>lhs;whnf
      rw[G8 zaa]
      conv=>lhs;whnf
      unfold Hr;(repeat(first|rw[if_pos zab]|rw[if_neg zab]));try simp only[NO]
     ·rw[hc2];replace hc2:=JR hc2;try simp only[BB] at hc2
      conv=>lhs;whnf
      rw[Ad];conv=>lhs;whnf
      rw[Cf zaa]
      conv=>lhs;whnf
      rw[AQ]
      rw[Jt _ _ _ _ zaa zaa zaa zaa]
      conv=>lhs;whnf
      rw[DT];conv=>lhs;whnf
      rw[Ee]
      rw[Lt b n p 0 hb zaa zaa zaa n.toNat _ 0 zaa zaa,hv,Int.toNat_natCast]
      conv=>lhs;whnf
      rw[hg];conv=>lhs;whnf
      unfold Hr;(repeat(first|rw[if_pos zab]|rw[if_neg zab]));try simp only[NO]
   ·rw[hc0];replace hc0:=ZB hc0;try simp only[BB] at hc0
    conv=>lhs;whnf
    rw[Ad];conv=>lhs;whnf
    rw[G8 zaa]
    conv=>lhs;whnf
    unfold Hr;(repeat(first|rw[if_pos zab]|rw[if_neg zab]));try simp only[NO]
  ·have hg:Az .geq (beN ((b.drop p).take n.toNat)) (UInt64.ofNat 9223372036854775808)=false:=by rw[IG,Si zbe]
   rw[Ad];conv=>lhs;whnf
   rcases Bool.eq_false_or_eq_true (F7 e 0) with hc0|hc0
   ·rw[hc0];replace hc0:=ZA hc0;try simp only[BB] at hc0
    subst hc0
    conv=>lhs;whnf
    rcases Bool.eq_false_or_eq_true (FD n 1) with hc1|hc1
    ·rw[hc1];replace hc1:=JQ hc1;try simp only[BB] at hc1
     conv=>lhs;whnf
     rw[Ad];conv=>lhs;whnf
     rw[G8 zaa]
     conv=>lhs;whnf
     unfold Hr;(repeat(first|rw[if_pos zab]|rw[if_neg zab]));try simp only[NO]
    ·rw[hc1];replace hc1:=JR hc1;try simp only[BB] at hc1
     conv=>lhs;whnf
     rcases Bool.eq_false_or_eq_true (FD 8 n) with hc2|hc2
     ·rw[hc2];replace hc2:=JQ hc2;try simp only[BB] at hc2
      conv=>lhs;whnf
      rw[Ad];conv=>lhs;whnf
      rw[G8 zaa]
      conv=>lhs;whnf
      unfold Hr;(repeat(first|rw[if_pos zab]|rw[if_neg zab]));try simp only[NO]
     ·rw[hc2];replace hc2:=JR hc2;try simp only[BB] at hc2
      conv=>lhs;whnf
      rw[Ad];conv=>lhs;whnf
      rw[Cf zaa]
      conv=>lhs;whnf
      rw[AQ]
      rw[Jt _ _ _ _ zaa zaa zaa zaa]
      conv=>lhs;whnf
      rw[DT];conv=>lhs;whnf
      rw[Ee]
      rw[Lt b n p 0 hb zaa zaa zaa n.toNat _ 0 zaa zaa,hv,Int.toNat_natCast]
      conv=>lhs;whnf
      rw[hg];conv=>lhs;whnf
      rw[RY zaa]
      rw[Au zaa]
      rw[show(p:Int)+n=((p+n.toNat:Nat):Int) from by omega];unfold Hr;(repeat(first|rw[if_pos zab]|rw[if_neg zab]))
   ·rw[hc0];replace hc0:=ZB hc0;try simp only[BB] at hc0
    conv=>lhs;whnf
    rw[Ad];conv=>lhs;whnf
    rw[G8 zaa]
    conv=>lhs;whnf
    unfold Hr;(repeat(first|rw[if_pos zab]|rw[if_neg zab]));try simp only[NO]
theorem IL(b:List UInt8)(p:Nat)(e n:Int)(hb:b.length<=4294967296)(hp:p<=b.length):Y E0 (.call 41 [.pa 0 0,.i n] [.var [.sl .u8 b,.i p,.i e]])=some (.ret (.sl .u8 (Ie b p e n).1) [some (.var [.sl .u8 b,.i (Ie b p e n).2.1,.i (Ie b p e n).2.2])]):=by
 by_cases h2:(b.length:Int)<(p:Int)+2
 ·rw[Ad];conv=>lhs;whnf
  rcases Bool.eq_false_or_eq_true (FY e 0) with hc0|hc0
  ·rw[hc0];replace hc0:=ZC hc0;try simp only[BB] at hc0
   conv=>lhs;whnf
   unfold Ie;(repeat(first|rw[if_pos zab]|rw[if_neg zab]));try simp only[NO]
  ·rw[hc0];replace hc0:=ZE hc0;try simp only[BB] at hc0
   subst hc0
   conv=>lhs;whnf
   rw[AQ]
   rw[Np _ _ _ _ zaa zaa zaa zaa]
   conv=>lhs;whnf
   rw[DT];conv=>lhs;whnf
   unfold Ie;(repeat(first|rw[if_pos zab]|rw[if_neg zab]));try simp only[NO]
 ·have hv:BA .or (Ci (Fh (b[p]'zaa)) (UInt64.ofNat 8).toNat) (Fh (b[((p:Int)+1).toNat]'zaa))=(FQ b p:Int):=by
   rw[show(UInt64.ofNat 8).toNat=8 from rfl,QI,QI,A5v,A2Q,lg,FQ]
   simp only[List.getD,List.getElem?_eq_getElem (show p<b.length by omega),List.getElem?_eq_getElem (show p+1<b.length by omega),show((p:Int)+1).toNat=p+1 from by omega,Option.getD_some]
  have hx:=(b.getD p 0).toNat_lt
  have hy:=(b.getD (p+1) 0).toNat_lt
  have hl:FQ b p<=65535:=by rw[FQ];omega
  by_cases h4:(b.length:Int)<(p:Int)+2+FQ b p
  ·rw[Ad];conv=>lhs;whnf
   rcases Bool.eq_false_or_eq_true (FY e 0) with hc0|hc0
   ·rw[hc0];replace hc0:=ZC hc0;try simp only[BB] at hc0
    conv=>lhs;whnf
    unfold Ie;(repeat(first|rw[if_pos zab]|rw[if_neg zab]));try simp only[NO]
   ·rw[hc0];replace hc0:=ZE hc0;try simp only[BB] at hc0
    subst hc0
    conv=>lhs;whnf
    rw[AQ]
    rw[Jt _ _ _ _ zaa zaa zaa zaa]
    conv=>lhs;whnf
    rw[DT];conv=>lhs;whnf
    rw[Fe zaa]
    conv=>lhs;whnf
    rw[Au zaa]
    rw[DZ zaa]
    conv=>lhs;whnf
    rw[hv];conv=>lhs;whnf
    rw[drw zas];conv=>lhs;whnf
    rcases Bool.eq_false_or_eq_true (FD n ↑(FQ b p)) with hc1|hc1
    ·rw[hc1];replace hc1:=JQ hc1;try simp only[BB] at hc1
     conv=>lhs;whnf
     unfold Ie;(repeat(first|rw[if_pos zab]|rw[if_neg zab]));try simp only[NO]
    ·rw[hc1];replace hc1:=JR hc1;try simp only[BB] at hc1
     conv=>lhs;whnf
     rw[Au zaa]
     rw[AQ]
     rw[Np _ _ _ _ zaa zaa zaa zaa]
     conv=>lhs;whnf
     rw[DT];conv=>lhs;whnf
     unfold Ie;(repeat(first|rw[if_pos zab]|rw[if_neg zab]));try simp only[NO]
  ·rw[Ad];conv=>lhs;whnf
   rcases Bool.eq_false_or_eq_true (FY e 0) with hc0|hc0
   ·rw[hc0];replace hc0:=ZC hc0;try simp only[BB] at hc0
    conv=>lhs;whnf
    unfold Ie;(repeat(first|rw[if_pos zab]|rw[if_neg zab]));try simp only[NO]
   ·rw[hc0];replace hc0:=ZE hc0;try simp only[BB] at hc0
    subst hc0
    conv=>lhs;whnf
    rw[AQ]
    rw[Jt _ _ _ _ zaa zaa zaa zaa]
    conv=>lhs;whnf
    rw[DT];conv=>lhs;whnf
    rw[Fe zaa]
    conv=>lhs;whnf
    rw[Au zaa]
    rw[DZ zaa]
    conv=>lhs;whnf
    rw[hv];conv=>lhs;whnf
    rw[drw zas];conv=>lhs;whnf
    rcases Bool.eq_false_or_eq_true (FD n ↑(FQ b p)) with hc1|hc1
    ·rw[hc1];replace hc1:=JQ hc1;try simp only[BB] at hc1
     conv=>lhs;whnf
     unfold Ie;(repeat(first|rw[if_pos zab]|rw[if_neg zab]));try simp only[NO]
    ·rw[hc1];replace hc1:=JR hc1;try simp only[BB] at hc1
     conv=>lhs;whnf
     rw[Au zaa]
     rw[AQ]
     rw[Jt _ _ _ _ zaa zaa zaa zaa]
     conv=>lhs;whnf
     rw[DT];conv=>lhs;whnf
     rw[Au (a:=2) (b:=↑(FQ b p)) zaa]
     rw[Au zaa]
     rw[CY zaa]
     rw[KG zaa]
     conv=>lhs;whnf
     rw[Dy zar]
     conv=>lhs;whnf
     rw[drw zas];conv=>lhs;whnf
     unfold Ie;(repeat(first|rw[if_pos zab]|rw[if_neg zab]));simp only[Ag,List.nil_append,show(p:Int)+(2+(FQ b p:Int))-(FQ b p:Int)=((p+2:Nat):Int) from by omega,show(p:Int)+(2+(FQ b p:Int))-((p+2:Nat):Int)=FQ b p from by omega,Int.toNat_natCast];rw[show(p:Int)+(2+(FQ b p:Int))=((p+2+FQ b p:Nat):Int) from by omega]
end
end Go.Proofs.YtnhgnfdbdflhcaaGreatDoor
