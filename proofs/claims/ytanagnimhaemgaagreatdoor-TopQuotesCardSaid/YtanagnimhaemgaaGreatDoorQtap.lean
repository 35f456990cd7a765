/-
  Own texts, laid together for this claim: contracts of functions of the program and its references, used by the statements of this seat.
-/
import Derived.Test.YtanagnimhaemgaaGreatDoorQtac
import Derived.Test.YtanagnimhaemgaaGreatDoorQtao
set_option linter.all false
set_option maxHeartbeats 40000000
set_option maxRecDepth 100000
namespace Go.Proofs.YtanagnimhaemgaaGreatDoor
open Go Go.Ax
section
attribute [local irreducible] Bl CQ CS Bo Bg Ar CU Dw EN Dy EC Bf BU Bv Bz and' C9 CB BK Au BA BL BN Aa Ad AP AZ CV Dq CW DI CE BP BM BF BG BB AU BC Ae Ap Ai CX BH Bh Ba BO CG CY CJ fits CZ CO A8 AA Ac
theorem Ky(b:List UInt8)(n p e:Int)(hb:b.length<=4294967296)(hp:0<=p)(h:p+n<=b.length)(hn:n<=8):∀(k:Nat) (acc:UInt64) (j:Int),j=n-k->0<=j ->
  Y E0 (.loop 61 0 1 1 [(0,.pa 0 0),(1,.i n),(5,.u64 acc),(6,.i j)] [(0,some (.var [.sl .u8 b,.i p,.i e]))])=some (.fin (.exit 0) 1 [(0,.pa 0 0),(1,.i n),(5,.u64 ((((b.drop p.toNat).take n.toNat).drop j.toNat).foldl (fun n x=>n<<<8|||x.toUInt64) acc))] [(0,some (.var [.sl .u8 b,.i p,.i e]))])
 | 0,acc,j,hj,hk=>by
  rw[AO];conv=>lhs;whnf
  rw[Gz zaa]
  conv=>lhs;whnf
  rw[List.drop_eq_nil_of_le zat];rfl
 | k+1,acc,j,hj,hk=>by
  have hlt:j.toNat<((b.drop p.toNat).take n.toNat).length:=zat
  rw[AO];conv=>lhs;whnf
  rw[Dp zaa]
  conv=>lhs;whnf
  rw[Bc zaa]
  rw[D8 zaa]
  conv=>lhs;whnf
  rw[drw zaj];conv=>lhs;whnf
  rw[Bc zaa]
  rw[Ky b n p e hb hp h hn k _ _ zaa zaa]
  conv=>lhs;whnf
  rw[show((b.drop p.toNat).take n.toNat).drop j.toNat=((b.drop p.toNat).take n.toNat)[j.toNat]::((b.drop p.toNat).take n.toNat).drop (j+1).toNat from by rw[List.drop_eq_getElem_cons hlt,show(j+1).toNat=j.toNat+1 from by omega],List.foldl_cons,jf,jc,ZP zad];simp only[List.getElem_take,List.getElem_drop,show(p+j).toNat=p.toNat+j.toNat from by omega];rfl
theorem EY(b:List UInt8)(p:Nat)(e n:Int)(hb:b.length<=4294967296)(hp:p<=b.length):Y E0 (.call 61 [.pa 0 0,.i n] [.var [.sl .u8 b,.i p,.i e]])=some (.ret (.i (Ey b p e n).1) [some (.var [.sl .u8 b,.i (Ey b p e n).2.1,.i (Ey b p e n).2.2])]):=by
 have hv:∀ l:List UInt8,(l.drop (0:Int).toNat).foldl (fun(n:UInt64) (x:UInt8)=>n<<<8|||x.toUInt64) (UInt64.ofNat 0)=beN l:=fun _=>rfl
 by_cases h4:(b.length:Int)<(p:Int)+n
 ·rw[AO];conv=>lhs;whnf
  rcases Bool.eq_false_or_eq_true (Dw e 0) with hc0|hc0
  ·rw[hc0];replace hc0:=XZ hc0;try simp only[AC] at hc0
   subst hc0
   conv=>lhs;whnf
   rw[Gz zaa]
   conv=>lhs;whnf
   rcases Bool.eq_false_or_eq_true (Dy 8 n) with hc1|hc1
   ·rw[hc1];replace hc1:=J7 hc1;try simp only[AC] at hc1
    conv=>lhs;whnf
    rw[AO];conv=>lhs;whnf
    rw[IY zaa]
    conv=>lhs;whnf
    unfold Ey;(repeat(first|rw[if_pos zab]|rw[if_neg zab]));try simp only[NO]
   ·rw[hc1];replace hc1:=J8 hc1;try simp only[AC] at hc1
    conv=>lhs;whnf
    rw[AO];conv=>lhs;whnf
    rw[DY zaa]
    conv=>lhs;whnf
    rw[Ak]
    rw[N8 _ _ _ _ zaa zaa zaa zaa]
    conv=>lhs;whnf
    rw[DF];conv=>lhs;whnf
    unfold Ey;(repeat(first|rw[if_pos zab]|rw[if_neg zab]));try simp only[NO]
  ·rw[hc0];replace hc0:=Xa hc0;try simp only[AC] at hc0
   conv=>lhs;whnf
   rw[AO];conv=>lhs;whnf
   rw[IY zaa]
   conv=>lhs;whnf
   unfold Ey;(repeat(first|rw[if_pos zab]|rw[if_neg zab]));try simp only[NO]
 ·by_cases h5:9223372036854775807<(beN ((b.drop p).take n.toNat)).toNat
  ·have hg:AU .geq (beN ((b.drop p).take n.toNat)) (UInt64.ofNat 9223372036854775808)=true:=by rw[IZ,Fg zaU]
   rw[AO];conv=>lhs;whnf
   rcases Bool.eq_false_or_eq_true (Dw e 0) with hc0|hc0
   ·rw[hc0];replace hc0:=XZ hc0;try simp only[AC] at hc0
    subst hc0
    conv=>lhs;whnf
    rcases Bool.eq_false_or_eq_true (Dy n 1) with hc1|hc1
    ·rw[hc1];replace hc1:=J7 hc1;try simp only[AC] at hc1
     conv=>lhs;whnf
     rw[AO];conv=>lhs;whnf
     rw[IY zaa]
     conv=>lhs;whnf
     unfold Ey;(repeat(first|rw[if_pos zab]|rw[if_neg zab]));try simp only[NO]
    ·rw[hc1];replace hc1:=J8 hc1;try simp only[AC] at hc1
     conv=>lhs;whnf
     rcases Bool.eq_false_or_eq_true (Dy 8 n) with hc2|hc2
     ·rw[hc2];replace hc2:=J7 hc2;try simp only[AC] at hc2
      conv=>lhs;whnf
      rw[AO];conv=>lhs;whnf
      rw[IY zaa]
      conv=>lhs;whnf
      unfold Ey;(repeat(first|rw[if_pos zab]|rw[if_neg zab]));try simp only[NO]
     ·rw[hc2];replace hc2:=J8 hc2;try simp only[AC] at hc2
      conv=>lhs;whnf
      rw[AO];conv=>lhs;whnf
      rw[DY zaa]
      conv=>lhs;whnf
      rw[Ak]
      rw[JQ _ _ _ _ zaa zaa zaa zaa]
      conv=>lhs;whnf
      rw[DF];conv=>lhs;whnf
      rw[EQ]
      rw[Ky b n p 0 hb zaa zaa zaa n.toNat _ 0 zaa zaa,hv,Int.toNat_natCast]
      conv=>lhs;whnf
      rw[hg];conv=>lhs;whnf
      unfold Ey;(repeat(first|rw[if_pos zab]|rw[if_neg zab]));try simp only[NO]
   ·rw[hc0];replace hc0:=Xa hc0;try simp only[AC] at hc0
    conv=>lhs;whnf
    rw[AO];conv=>lhs;whnf
    rw[IY zaa]
    conv=>lhs;whnf
    unfold Ey;(repeat(first|rw[if_pos zab]|rw[if_neg zab]));try simp only[NO]
  ·have hg:AU .geq (beN ((b.drop p).take n.toNat)) (UInt64.ofNat 9223372036854775808)=false:=by rw[IZ,TG zaU]
   rw[AO];conv=>lhs;whnf
   rcases Bool.eq_false_or_eq_true (Dw e 0) with hc0|hc0
   ·rw[hc0];replace hc0:=XZ hc0;try simp only[AC] at hc0
    subst hc0
    conv=>lhs;whnf
    rcases Bool.eq_false_or_eq_true (Dy n 1) with hc1|hc1
    ·rw[hc1];replace hc1:=J7 hc1;try simp only[AC] at hc1
     conv=>lhs;whnf
     rw[AO];conv=>lhs;whnf
     rw[IY zaa]
     conv=>lhs;whnf
     unfold Ey;(repeat(first|rw[if_pos zab]|rw[if_neg zab]));try simp only[NO]
    ·rw[hc1];replace hc1:=J8 hc1;try simp only[AC] at hc1
     conv=>lhs;whnf
     rcases Bool.eq_false_or_eq_true (Dy 8 n) with hc2|hc2
     ·rw[hc2];replace hc2:=J7 hc2;try simp only[AC] at hc2
      conv=>lhs;whnf
      rw[AO];conv=>lhs;whnf
      rw[IY zaa]
      conv=>lhs;whnf
      unfold Ey;(repeat(first|rw[if_pos zab]|rw[if_neg zab]));try simp only[NO]
     ·rw[hc2];replace hc2:=J8 hc2;try simp only[AC] at hc2
      conv=>lhs;whnf
      rw[AO];conv=>lhs;whnf
      rw[DY zaa]
      conv=>lhs;whnf
      rw[Ak]
      rw[JQ _ _ _ _ zaa zaa zaa zaa]
      conv=>lhs;whnf
      rw[DF];conv=>lhs;whnf
      rw[EQ]
      rw[Ky b n p 0 hb zaa zaa zaa n.toNat _ 0 zaa zaa,hv,Int.toNat_natCast]
      conv=>lhs;whnf
      rw[hg];conv=>lhs;whnf
      rw[QD zaa]
      rw[Bc zaa]
      rw[show(p:Int)+n=((p+n.toNat:Nat):Int) from by omega];unfold Ey;(repeat(first|rw[if_pos zab]|rw[if_neg zab]))
   ·rw[hc0];replace hc0:=Xa hc0;try simp only[AC] at hc0
    conv=>lhs;whnf
    rw[AO];conv=>lhs;whnf
    rw[IY zaa]
    conv=>lhs;whnf
    unfold Ey;(repeat(first|rw[if_pos zab]|rw[if_neg zab]));try simp only[NO]
theorem KC(b:List UInt8)(p:Nat)(e n:Int)(hb:b.length<=4294967296)(hp:p<=b.length):Y E0 (.call 62 [.pa 0 0,.i n] [.var [.sl .u8 b,.i p,.i e]])=some (.ret (.sl .u8 (JK b p e n).1) [some (.var [.sl .u8 b,.i (JK b p e n).2.1,.i (JK b p e n).2.2])]):=by
 by_cases h2:(b.length:Int)<(p:Int)+2
 ·rw[AO];conv=>lhs;whnf
  rcases Bool.eq_false_or_eq_true (EN e 0) with hc0|hc0
  ·rw[hc0];replace hc0:=Xb hc0;try simp only[AC] at hc0
   conv=>lhs;whnf
   unfold JK;(repeat(first|rw[if_pos zab]|rw[if_neg zab]));try simp only[NO]
  ·rw[hc0];replace hc0:=Xc hc0;try simp only[AC] at hc0
   subst hc0
   conv=>lhs;whnf
   rw[Ak]
   rw[N8 _ _ _ _ zaa zaa zaa zaa]
   conv=>lhs;whnf
   rw[DF];conv=>lhs;whnf
   unfold JK;(repeat(first|rw[if_pos zab]|rw[if_neg zab]));try simp only[NO]
 ·have hv:Ar .or (Bf (Dq (b[p]'zaa)) (UInt64.ofNat 8).toNat) (Dq (b[((p:Int)+1).toNat]'zaa))=(FQ b p:Int):=by
   rw[show(UInt64.ofNat 8).toNat=8 from rfl,Jn,Jn,A26,qc,Xe,FQ]
   simp only[List.getD,List.getElem?_eq_getElem (show p<b.length by omega),List.getElem?_eq_getElem (show p+1<b.length by omega),show((p:Int)+1).toNat=p+1 from by omega,Option.getD_some]
  have hx:=(b.getD p 0).toNat_lt
  have hy:=(b.getD (p+1) 0).toNat_lt
  have hl:FQ b p<=65535:=by rw[FQ];omega
  by_cases h4:(b.length:Int)<(p:Int)+2+FQ b p
  ·rw[AO];conv=>lhs;whnf
   rcases Bool.eq_false_or_eq_true (EN e 0) with hc0|hc0
   ·rw[hc0];replace hc0:=Xb hc0;try simp only[AC] at hc0
    conv=>lhs;whnf
    unfold JK;(repeat(first|rw[if_pos zab]|rw[if_neg zab]));try simp only[NO]
   ·rw[hc0];replace hc0:=Xc hc0;try simp only[AC] at hc0
    subst hc0
    conv=>lhs;whnf
    rw[Ak]
    rw[JQ _ _ _ _ zaa zaa zaa zaa]
    conv=>lhs;whnf
    rw[DF];conv=>lhs;whnf
    rw[IC zaa]
    conv=>lhs;whnf
    rw[Bc zaa]
    rw[D8 zaa]
    conv=>lhs;whnf
    rw[hv];conv=>lhs;whnf
    rw[drw zaj];conv=>lhs;whnf
    rcases Bool.eq_false_or_eq_true (Dy n ↑(FQ b p)) with hc1|hc1
    ·rw[hc1];replace hc1:=J7 hc1;try simp only[AC] at hc1
     conv=>lhs;whnf
     unfold JK;(repeat(first|rw[if_pos zab]|rw[if_neg zab]));try simp only[NO]
    ·rw[hc1];replace hc1:=J8 hc1;try simp only[AC] at hc1
     conv=>lhs;whnf
     rw[Bc zaa]
     rw[Ak]
     rw[N8 _ _ _ _ zaa zaa zaa zaa]
     conv=>lhs;whnf
     rw[DF];conv=>lhs;whnf
     unfold JK;(repeat(first|rw[if_pos zab]|rw[if_neg zab]));try simp only[NO]
  ·rw[AO];conv=>lhs;whnf
   rcases Bool.eq_false_or_eq_true (EN e 0) with hc0|hc0
   ·rw[hc0];replace hc0:=Xb hc0;try simp only[AC] at hc0
    conv=>lhs;whnf
    unfold JK;(repeat(first|rw[if_pos zab]|rw[if_neg zab]));try simp only[NO]
   ·rw[hc0];replace hc0:=Xc hc0;try simp only[AC] at hc0
    subst hc0
    conv=>lhs;whnf
    rw[Ak]
    rw[JQ _ _ _ _ zaa zaa zaa zaa]
    conv=>lhs;whnf
    rw[DF];conv=>lhs;whnf
    rw[IC zaa]
    conv=>lhs;whnf
    rw[Bc zaa]
    rw[D8 zaa]
    conv=>lhs;whnf
    rw[hv];conv=>lhs;whnf
    rw[drw zaj];conv=>lhs;whnf
    rcases Bool.eq_false_or_eq_true (Dy n ↑(FQ b p)) with hc1|hc1
    ·rw[hc1];replace hc1:=J7 hc1;try simp only[AC] at hc1
     conv=>lhs;whnf
     unfold JK;(repeat(first|rw[if_pos zab]|rw[if_neg zab]));try simp only[NO]
    ·rw[hc1];replace hc1:=J8 hc1;try simp only[AC] at hc1
     conv=>lhs;whnf
     rw[Bc zaa]
     rw[Ak]
     rw[JQ _ _ _ _ zaa zaa zaa zaa]
     conv=>lhs;whnf
     rw[DF];conv=>lhs;whnf
     rw[Bc (a:=2) (b:=↑(FQ b p)) zaa]
     rw[Bc zaa]
     rw[DU zaa]
     rw[Jm zaa]
     conv=>lhs;whnf
     rw[Dx zai]
     conv=>lhs;whnf
     rw[drw zaj];conv=>lhs;whnf
     unfold JK;(repeat(first|rw[if_pos zab]|rw[if_neg zab]));simp only[Am,List.nil_append,show(p:Int)+(2+(FQ b p:Int))-(FQ b p:Int)=((p+2:Nat):Int) from by omega,show(p:Int)+(2+(FQ b p:Int))-((p+2:Nat):Int)=FQ b p from by omega,Int.toNat_natCast];rw[show(p:Int)+(2+(FQ b p:Int))=((p+2+FQ b p:Nat):Int) from by omega]
end
end Go.Proofs.YtanagnimhaemgaaGreatDoor
