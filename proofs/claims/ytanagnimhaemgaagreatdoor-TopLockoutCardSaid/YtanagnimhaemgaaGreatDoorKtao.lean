/-
  Own texts, laid together for this claim: contracts of functions of the program and its references, used by the statements of this seat.
-/
import Derived.Test.YtanagnimhaemgaaGreatDoorKtac
import Derived.Test.YtanagnimhaemgaaGreatDoorKtad
import Derived.Test.YtanagnimhaemgaaGreatDoorKtan
set_option linter.all false
set_option maxHeartbeats 40000000
set_option maxRecDepth 100000
namespace Go.Proofs.YtanagnimhaemgaaGreatDoor
open Go Go.Ax
section
attribute [local irreducible] Bl CS CU CJ Bh Ak CV Du EN E5 EH Be BN CE Bz and' CG CO BC Ag Ar BF BG AY Aa AP AX CW Dv CX DT C9 BJ BD BA BB Au AQ Az Ac Aw Ah CY BL Bi BR BI CB CZ CP fits Cb CQ A8 AA AZ
theorem KX(b:List UInt8)(n p e:Int)(hb:b.length<=4294967296)(hp:0<=p)(h:p+n<=b.length)(hn:n<=8):∀(k:Nat) (acc:UInt64) (j:Int),j=n-k->0<=j ->
  Y E0 (.loop 61 0 1 1 [(0,.pa 0 0),(1,.i n),(5,.u64 acc),(6,.i j)] [(0,some (.var [.sl .u8 b,.i p,.i e]))])=some (.fin (.exit 0) 1 [(0,.pa 0 0),(1,.i n),(5,.u64 ((((b.drop p.toNat).take n.toNat).drop j.toNat).foldl (fun n x=>n<<<8|||x.toUInt64) acc))] [(0,some (.var [.sl .u8 b,.i p,.i e]))])
 | 0,acc,j,hj,hk=>by
  rw[AU];conv=>lhs;whnf
  rw[Iw zaa]
  conv=>lhs;whnf
  rw[List.drop_eq_nil_of_le zar];rfl
 | k+1,acc,j,hj,hk=>by
  have hlt:j.toNat<((b.drop p.toNat).take n.toNat).length:=zar
  rw[AU];conv=>lhs;whnf
  rw[Dn zaa]
  conv=>lhs;whnf
  rw[D7 zaa]
  rw[DZ zaa]
  conv=>lhs;whnf
  rw[drw zai];conv=>lhs;whnf
  rw[D7 zaa]
  rw[KX b n p e hb hp h hn k _ _ zaa zaa]
  conv=>lhs;whnf
  rw[show((b.drop p.toNat).take n.toNat).drop j.toNat=((b.drop p.toNat).take n.toNat)[j.toNat]::((b.drop p.toNat).take n.toNat).drop (j+1).toNat from by rw[List.drop_eq_getElem_cons hlt,show(j+1).toNat=j.toNat+1 from by omega],List.foldl_cons,dY,dW,Xr zac];simp only[List.getElem_take,List.getElem_drop,show(p+j).toNat=p.toNat+j.toNat from by omega];rfl
theorem JF(b:List UInt8)(p:Nat)(e n:Int)(hb:b.length<=4294967296)(hp:p<=b.length):Y E0 (.call 61 [.pa 0 0,.i n] [.var [.sl .u8 b,.i p,.i e]])=some (.ret (.i (IZ b p e n).1) [some (.var [.sl .u8 b,.i (IZ b p e n).2.1,.i (IZ b p e n).2.2])]):=by
 have hv:∀ l:List UInt8,(l.drop (0:Int).toNat).foldl (fun(n:UInt64) (x:UInt8)=>n<<<8|||x.toUInt64) (UInt64.ofNat 0)=yl l:=fun _=>rfl
 by_cases h4:(b.length:Int)<(p:Int)+n
 ·rw[AU];conv=>lhs;whnf
  rcases Bool.eq_false_or_eq_true (Du e 0) with hc0|hc0
  ·rw[hc0];replace hc0:=WB hc0;try simp only[AC] at hc0
   subst hc0
   conv=>lhs;whnf
   rw[Iw zaa]
   conv=>lhs;whnf
   rcases Bool.eq_false_or_eq_true (E5 8 n) with hc1|hc1
   ·rw[hc1];replace hc1:=Jb hc1;try simp only[AC] at hc1
    conv=>lhs;whnf
    rw[AU];conv=>lhs;whnf
    rw[Ko zaa]
    conv=>lhs;whnf
    unfold IZ;(repeat(first|rw[if_pos zab]|rw[if_neg zab]));try simp only[NO]
   ·rw[hc1];replace hc1:=Jc hc1;try simp only[AC] at hc1
    conv=>lhs;whnf
    rw[AU];conv=>lhs;whnf
    rw[Jh zaa]
    conv=>lhs;whnf
    rw[Aj]
    rw[P7 _ _ _ _ zaa zaa zaa zaa]
    conv=>lhs;whnf
    rw[DJ];conv=>lhs;whnf
    unfold IZ;(repeat(first|rw[if_pos zab]|rw[if_neg zab]));try simp only[NO]
  ·rw[hc0];replace hc0:=WC hc0;try simp only[AC] at hc0
   conv=>lhs;whnf
   rw[AU];conv=>lhs;whnf
   rw[Ko zaa]
   conv=>lhs;whnf
   unfold IZ;(repeat(first|rw[if_pos zab]|rw[if_neg zab]));try simp only[NO]
 ·by_cases h5:9223372036854775807<(yl ((b.drop p).take n.toNat)).toNat
  ·have hg:AQ .geq (yl ((b.drop p).take n.toNat)) (UInt64.ofNat 9223372036854775808)=true:=by rw[IX,Fh zaM]
   rw[AU];conv=>lhs;whnf
   rcases Bool.eq_false_or_eq_true (Du e 0) with hc0|hc0
   ·rw[hc0];replace hc0:=WB hc0;try simp only[AC] at hc0
    subst hc0
    conv=>lhs;whnf
    rcases Bool.eq_false_or_eq_true (E5 n 1) with hc1|hc1
    ·rw[hc1];replace hc1:=Jb hc1;try simp only[AC] at hc1
     conv=>lhs;whnf
     rw[AU];conv=>lhs;whnf
     rw[Ko zaa]
     conv=>lhs;whnf
     unfold IZ;(repeat(first|rw[if_pos zab]|rw[if_neg zab]));try simp only[NO]
    ·rw[hc1];replace hc1:=Jc hc1;try simp only[AC] at hc1
     conv=>lhs;whnf
     rcases Bool.eq_false_or_eq_true (E5 8 n) with hc2|hc2
     ·rw[hc2];replace hc2:=Jb hc2;try simp only[AC] at hc2
      conv=>lhs;whnf
      rw[AU];conv=>lhs;whnf
      rw[Ko zaa]
      conv=>lhs;whnf
      unfold IZ;(repeat(first|rw[if_pos zab]|rw[if_neg zab]));try simp only[NO]
     ·rw[hc2];replace hc2:=Jc hc2;try simp only[AC] at hc2
      conv=>lhs;whnf
      rw[AU];conv=>lhs;whnf
      rw[Jh zaa]
      conv=>lhs;whnf
      rw[Aj]
      rw[KP _ _ _ _ zaa zaa zaa zaa]
      conv=>lhs;whnf
      rw[DJ];conv=>lhs;whnf
      rw[Eo]
      rw[KX b n p 0 hb zaa zaa zaa n.toNat _ 0 zaa zaa,hv,Int.toNat_natCast]
      conv=>lhs;whnf
      rw[hg];conv=>lhs;whnf
      unfold IZ;(repeat(first|rw[if_pos zab]|rw[if_neg zab]));try simp only[NO]
   ·rw[hc0];replace hc0:=WC hc0;try simp only[AC] at hc0
    conv=>lhs;whnf
    rw[AU];conv=>lhs;whnf
    rw[Ko zaa]
    conv=>lhs;whnf
    unfold IZ;(repeat(first|rw[if_pos zab]|rw[if_neg zab]));try simp only[NO]
  ·have hg:AQ .geq (yl ((b.drop p).take n.toNat)) (UInt64.ofNat 9223372036854775808)=false:=by rw[IX,UY zaM]
   rw[AU];conv=>lhs;whnf
   rcases Bool.eq_false_or_eq_true (Du e 0) with hc0|hc0
   ·rw[hc0];replace hc0:=WB hc0;try simp only[AC] at hc0
    subst hc0
    conv=>lhs;whnf
    rcases Bool.eq_false_or_eq_true (E5 n 1) with hc1|hc1
    ·rw[hc1];replace hc1:=Jb hc1;try simp only[AC] at hc1
     conv=>lhs;whnf
     rw[AU];conv=>lhs;whnf
     rw[Ko zaa]
     conv=>lhs;whnf
     unfold IZ;(repeat(first|rw[if_pos zab]|rw[if_neg zab]));try simp only[NO]
    ·rw[hc1];replace hc1:=Jc hc1;try simp only[AC] at hc1
     conv=>lhs;whnf
     rcases Bool.eq_false_or_eq_true (E5 8 n) with hc2|hc2
     ·rw[hc2];replace hc2:=Jb hc2;try simp only[AC] at hc2
      conv=>lhs;whnf
      rw[AU];conv=>lhs;whnf
      rw[Ko zaa]
      conv=>lhs;whnf
      unfold IZ;(repeat(first|rw[if_pos zab]|rw[if_neg zab]));try simp only[NO]
     ·rw[hc2];replace hc2:=Jc hc2;try simp only[AC] at hc2
      conv=>lhs;whnf
      rw[AU];conv=>lhs;whnf
      rw[Jh zaa]
      conv=>lhs;whnf
      rw[Aj]
      rw[KP _ _ _ _ zaa zaa zaa zaa]
      conv=>lhs;whnf
      rw[DJ];conv=>lhs;whnf
      rw[Eo]
      rw[KX b n p 0 hb zaa zaa zaa n.toNat _ 0 zaa zaa,hv,Int.toNat_natCast]
      conv=>lhs;whnf
      rw[hg];conv=>lhs;whnf
      rw[PY zaa]
      rw[D7 zaa]
      rw[show(p:Int)+n=((p+n.toNat:Nat):Int) from by omega];unfold IZ;(repeat(first|rw[if_pos zab]|rw[if_neg zab]))
   ·rw[hc0];replace hc0:=WC hc0;try simp only[AC] at hc0
    conv=>lhs;whnf
    rw[AU];conv=>lhs;whnf
    rw[Ko zaa]
    conv=>lhs;whnf
    unfold IZ;(repeat(first|rw[if_pos zab]|rw[if_neg zab]));try simp only[NO]
theorem Wx(b:List UInt8)(p:Nat)(e n:Int)(hb:b.length<=4294967296)(hp:p<=b.length):Y E0 (.call 62 [.pa 0 0,.i n] [.var [.sl .u8 b,.i p,.i e]])=some (.ret (.sl .u8 (MH b p e n).1) [some (.var [.sl .u8 b,.i (MH b p e n).2.1,.i (MH b p e n).2.2])]):=by
 by_cases h2:(b.length:Int)<(p:Int)+2
 ·rw[AU];conv=>lhs;whnf
  rcases Bool.eq_false_or_eq_true (EN e 0) with hc0|hc0
  ·rw[hc0];replace hc0:=WE hc0;try simp only[AC] at hc0
   conv=>lhs;whnf
   unfold MH;(repeat(first|rw[if_pos zab]|rw[if_neg zab]));try simp only[NO]
  ·rw[hc0];replace hc0:=WF hc0;try simp only[AC] at hc0
   subst hc0
   conv=>lhs;whnf
   rw[Aj]
   rw[P7 _ _ _ _ zaa zaa zaa zaa]
   conv=>lhs;whnf
   rw[DJ];conv=>lhs;whnf
   unfold MH;(repeat(first|rw[if_pos zab]|rw[if_neg zab]));try simp only[NO]
 ·have hv:Ak .or (Be (Dv (b[p]'zaa)) (UInt64.ofNat 8).toNat) (Dv (b[((p:Int)+1).toNat]'zaa))=(FK b p:Int):=by
   rw[show(UInt64.ofNat 8).toNat=8 from rfl,Oj,Oj,yj,kU,WH,FK]
   simp only[List.getD,List.getElem?_eq_getElem (show p<b.length by omega),List.getElem?_eq_getElem (show p+1<b.length by omega),show((p:Int)+1).toNat=p+1 from by omega,Option.getD_some]
  have hx:=(b.getD p 0).toNat_lt
  have hy:=(b.getD (p+1) 0).toNat_lt
  have hl:FK b p<=65535:=by rw[FK];omega
  by_cases h4:(b.length:Int)<(p:Int)+2+FK b p
  ·rw[AU];conv=>lhs;whnf
   rcases Bool.eq_false_or_eq_true (EN e 0) with hc0|hc0
   ·rw[hc0];replace hc0:=WE hc0;try simp only[AC] at hc0
    conv=>lhs;whnf
    unfold MH;(repeat(first|rw[if_pos zab]|rw[if_neg zab]));try simp only[NO]
   ·rw[hc0];replace hc0:=WF hc0;try simp only[AC] at hc0
    subst hc0
    conv=>lhs;whnf
    rw[Aj]
    rw[KP _ _ _ _ zaa zaa zaa zaa]
    conv=>lhs;whnf
    rw[DJ];conv=>lhs;whnf
    rw[O4 zaa]
    conv=>lhs;whnf
    rw[D7 zaa]
    rw[DZ zaa]
    conv=>lhs;whnf
    rw[hv];conv=>lhs;whnf
    rw[drw zai];conv=>lhs;whnf
    rcases Bool.eq_false_or_eq_true (E5 n ↑(FK b p)) with hc1|hc1
    ·rw[hc1];replace hc1:=Jb hc1;try simp only[AC] at hc1
     conv=>lhs;whnf
     unfold MH;(repeat(first|rw[if_pos zab]|rw[if_neg zab]));try simp only[NO]
    ·rw[hc1];replace hc1:=Jc hc1;try simp only[AC] at hc1
     conv=>lhs;whnf
     rw[D7 zaa]
     rw[Aj]
     rw[P7 _ _ _ _ zaa zaa zaa zaa]
     conv=>lhs;whnf
     rw[DJ];conv=>lhs;whnf
     unfold MH;(repeat(first|rw[if_pos zab]|rw[if_neg zab]));try simp only[NO]
  ·rw[AU];conv=>lhs;whnf
   rcases Bool.eq_false_or_eq_true (EN e 0) with hc0|hc0
   ·rw[hc0];replace hc0:=WE hc0;try simp only[AC] at hc0
    conv=>lhs;whnf
    unfold MH;(repeat(first|rw[if_pos zab]|rw[if_neg zab]));try simp only[NO]
   ·rw[hc0];replace hc0:=WF hc0;try simp only[AC] at hc0
    subst hc0
    conv=>lhs;whnf
    rw[Aj]
    rw[KP _ _ _ _ zaa zaa zaa zaa]
    conv=>lhs;whnf
    rw[DJ];conv=>lhs;whnf
    rw[O4 zaa]
    conv=>lhs;whnf
    rw[D7 zaa]
    rw[DZ zaa]
    conv=>lhs;whnf
    rw[hv];conv=>lhs;whnf
    rw[drw zai];conv=>lhs;whnf
    rcases Bool.eq_false_or_eq_true (E5 n ↑(FK b p)) with hc1|hc1
    ·rw[hc1];replace hc1:=Jb hc1;try simp only[AC] at hc1
     conv=>lhs;whnf
     unfold MH;(repeat(first|rw[if_pos zab]|rw[if_neg zab]));try simp only[NO]
    ·rw[hc1];replace hc1:=Jc hc1;try simp only[AC] at hc1
     conv=>lhs;whnf
     rw[D7 zaa]
     rw[Aj]
     rw[KP _ _ _ _ zaa zaa zaa zaa]
     conv=>lhs;whnf
     rw[DJ];conv=>lhs;whnf
     rw[D7 (a:=2) (b:=↑(FK b p)) zaa]
     rw[D7 zaa]
     rw[EI zaa]
     rw[Lc zaa]
     conv=>lhs;whnf
     rw[EF zak]
     conv=>lhs;whnf
     rw[drw zai];conv=>lhs;whnf
     unfold MH;(repeat(first|rw[if_pos zab]|rw[if_neg zab]));simp only[Ap,List.nil_append,show(p:Int)+(2+(FK b p:Int))-(FK b p:Int)=((p+2:Nat):Int) from by omega,show(p:Int)+(2+(FK b p:Int))-((p+2:Nat):Int)=FK b p from by omega,Int.toNat_natCast];rw[show(p:Int)+(2+(FK b p:Int))=((p+2+FK b p:Nat):Int) from by omega]
end
end Go.Proofs.YtanagnimhaemgaaGreatDoor
