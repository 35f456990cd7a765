/- Own texts of this claim: contracts of functions. -/
import Derived.Test.YtlpkjhhfhannpaaGreatDoorBtao
set_option linter.all false
set_option maxHeartbeats 40000000
set_option maxRecDepth 100000
namespace Go.Proofs.YtlpkjhhfhannpaaGreatDoor
open Go Go.Ax Go.Eng
attribute [local irreducible] CS Cj CP CW CQ BC Cm ED ES Dx EG CJ Bi Ce CX and' Cf CU BL Au BI BP BR Ag Ai AY Ae D5 EJ D6 DX Cb BZ BQ BM BO BJ AZ BK Aj Ak Ap D7 BB CV BU BF CO D8 Cc fits D9 Ci AC AQ Ah
variable {c:Int}{α:Type}{p:Prop}{h a i:Nat}{nb:Int}
theorem A1E(b:List UInt8)(hb:b.length<=100000):Y E0 (.call 127 [.sl .u8 b] [])=some (.ret (.tup [.i (if iq b=0 then((b.getD 4 0).toNat:Int) else 0),.i (iq b)]) []):=by
 by_cases h1:2048<b.length
 ·rw[show iq b=4 from by unfold iq;rw[if_pos h1],if_neg zaj]
  refine tq ?_
  with_reducible rfl
 by_cases h2:b.length<5
 ·rw[show iq b=2 from by unfold iq;rw[if_neg h1,if_pos h2],if_neg zaj]
  refine tq ?_
  with_reducible rfl
 have g:∀ k:Nat,k<5->Ap b (k:Int)=some (b.getD k 0):=fun k hk=>by
  rw[DU,List.getD_eq_getElem?_getD,List.getElem?_eq_getElem zaa];rfl
 have g0:Ap b 0=some (b.getD 0 0):=g 0 zaj
 have g1:Ap b 1=some (b.getD 1 0):=g 1 zaj
 have g2:Ap b 2=some (b.getD 2 0):=g 2 zaj
 have g3:Ap b 3=some (b.getD 3 0):=g 3 zaj
 have g4:Ap b 4=some (b.getD 4 0):=g 4 zaj
 have hv:BC .or (CJ (EJ (b.getD 2 0)) (UInt64.ofNat 8).toNat) (EJ (b.getD 3 0))=(EH b 2:Int):=by
  rw[show(UInt64.ofNat 8).toNat=8 from rfl,LP,LP,xw,iC,U5,EH]
 have hE:iq b=if b.getD 0 0≠83\/b.getD 1 0≠87 then 5 else if b.length<EH b 2 then 2 else if EH b 2<b.length then 3 else 0:=by unfold iq;rw[if_neg h1,if_neg h2]
 have hw:EJ (b.getD 4 0)=((b.getD 4 0).toNat:Int):=LP _
 generalize EH b 2=n at *
 generalize b.getD 0 0=x0 at *
 generalize b.getD 1 0=x1 at *
 generalize b.getD 2 0=x2 at *
 generalize b.getD 3 0=x3 at *
 generalize b.getD 4 0=x4 at *
 by_cases c0:x0=83
 ·by_cases c1:x1=87
  ·rw[if_neg (by simp[c0,c1])] at hE
   subst c0 c1
   by_cases c2:b.length<n
   ·rw[if_pos c2] at hE;rw[hE,if_neg zaj]
    refine tq ?_
    rw[g0]
    refine tq ?_
    rw[g1]
    refine tq ?_
    rw[g2]
    refine tq ?_
    rw[g3]
    conv=>lhs;whnf
    try dsimp -iota -beta -eta -zeta only
    rw[hv]
    exact tq rfl
   ·rw[if_neg c2] at hE
    by_cases c3:n<b.length
    ·rw[if_pos c3] at hE;rw[hE,if_neg zaj]
     refine tq ?_
     rw[g0]
     refine tq ?_
     rw[g1]
     refine tq ?_
     rw[g2]
     refine tq ?_
     rw[g3]
     conv=>lhs;whnf
     try dsimp -iota -beta -eta -zeta only
     rw[hv]
     exact tq rfl
    ·rw[if_neg c3] at hE;rw[hE,if_pos rfl,<-hw]
     refine tq ?_
     rw[g0]
     refine tq ?_
     rw[g1]
     refine tq ?_
     rw[g2]
     refine tq ?_
     rw[g3]
     conv=>lhs;whnf
     try dsimp -iota -beta -eta -zeta only
     rw[hv]
     refine tq ?_
     rw[g4]
     conv=>lhs;whnf
     rw[AL]
     conv=>lhs;whnf
  ·rw[if_pos (.inr c1)] at hE;rw[hE,if_neg zaj]
   subst c0
   have c1':(x1.toNat:Int)≠((UInt8.ofNat 87).toNat:Int):=fun e=>c1 (UInt8.toNat_inj.1 (Int.ofNat.inj e))
   refine tq ?_
   rw[g0]
   refine tq ?_
   rw[g1]
   exact tq rfl
 ·rw[if_pos (.inl c0)] at hE;rw[hE,if_neg zaj]
  have c0':(x0.toNat:Int)≠((UInt8.ofNat 83).toNat:Int):=fun e=>c0 (UInt8.toNat_inj.1 (Int.ofNat.inj e))
  refine tq ?_
  rw[g0]
  exact tq rfl
theorem A96{q:Prop}[Decidable p]{a b t:α}(h:(if p then a else b)=t)(k:b=t->q):p\/q:=by
 by_cases hp:p
 ·exact .inl hp
 ·rw[if_neg hp] at h;exact .inr (k h)
theorem zC{t:Nat×Nat×Nat×Int}(h:Yl c=some t):c=1\/c=2\/c=4\/c=5\/c=6\/c=7\/c=8\/c=9\/c=10\/c=11\/c=12\/c=13\/c=14\/c=15\/c=16\/c=17\/c=18\/c=19\/c=20\/c=21\/c=22\/c=23\/c=24\/c=25\/c=26\/c=27\/c=28\/c=29\/c=30\/c=31\/c=32\/c=33:=by
 unfold Yl at h
 iterate 31 refine A96 h fun h=>?_
 rcases A96 (q:=False) h (fun h=>by cases h) with h|h
 ·exact h
 ·cases h
theorem Fj{h2 a2 i2:Nat}{nb2:Int}(hs:Yl c=some (h,a,i,nb))(hs2:Yl c=some (h2,a2,i2,nb2)):h=h2/\a=a2/\i=i2/\nb=nb2:=by
 rw[hs] at hs2
 cases hs2
 exact⟨rfl,rfl,rfl,rfl⟩
theorem A5M(hs:Yl c=some (h,a,i,nb)):Y E0 (.loop 128 0 0 0 [(0,.i c),(9,.agg fmC),(10,.i 0)] [])=some (.fin .ret 0 [(2,.i (h:Int)),(3,.i (a:Int)),(4,.i (i:Int)),(5,.i nb),(6,.b true)] []):=by
 rw[AL];conv=>lhs;whnf
 refine tq ?_
 by_cases h1:c=1
 ·subst h1
  obtain⟨rfl,rfl,rfl,rfl⟩:=Fj hs zbe
  exact tq rfl
 refine tq ?_
 by_cases h2:c=2
 ·subst h2
  obtain⟨rfl,rfl,rfl,rfl⟩:=Fj hs zbe
  exact tq rfl
 refine tq ?_
 by_cases h4:c=4
 ·subst h4
  obtain⟨rfl,rfl,rfl,rfl⟩:=Fj hs zbe
  exact tq rfl
 refine tq ?_
 by_cases h5:c=5
 ·subst h5
  obtain⟨rfl,rfl,rfl,rfl⟩:=Fj hs zbe
  exact tq rfl
 refine tq ?_
 by_cases h6:c=6
 ·subst h6
  obtain⟨rfl,rfl,rfl,rfl⟩:=Fj hs zbe
  exact tq rfl
 refine tq ?_
 by_cases h7:c=7
 ·subst h7
  obtain⟨rfl,rfl,rfl,rfl⟩:=Fj hs zbe
  exact tq rfl
 refine tq ?_
 by_cases h8:c=8
 ·subst h8
  obtain⟨rfl,rfl,rfl,rfl⟩:=Fj hs zbe
  exact tq rfl
 refine tq ?_
 by_cases h9:c=9
 ·subst h9
  obtain⟨rfl,rfl,rfl,rfl⟩:=Fj hs zbe
  exact tq rfl
 refine tq ?_
 by_cases h10:c=10
 ·subst h10
  obtain⟨rfl,rfl,rfl,rfl⟩:=Fj hs zbe
  exact tq rfl
 refine tq ?_
 by_cases h11:c=11
 ·subst h11
  obtain⟨rfl,rfl,rfl,rfl⟩:=Fj hs zbe
  exact tq rfl
 refine tq ?_
 by_cases h12:c=12
 ·subst h12
  obtain⟨rfl,rfl,rfl,rfl⟩:=Fj hs zbe
  exact tq rfl
 refine tq ?_
 by_cases h13:c=13
 ·subst h13
  obtain⟨rfl,rfl,rfl,rfl⟩:=Fj hs zbe
  exact tq rfl
 refine tq ?_
 by_cases h14:c=14
 ·subst h14
  obtain⟨rfl,rfl,rfl,rfl⟩:=Fj hs zbe
  exact tq rfl
 refine tq ?_
 by_cases h15:c=15
 ·subst h15
  obtain⟨rfl,rfl,rfl,rfl⟩:=Fj hs zbe
  exact tq rfl
 refine tq ?_
 by_cases h16:c=16
 ·subst h16
  obtain⟨rfl,rfl,rfl,rfl⟩:=Fj hs zbe
  exact tq rfl
 refine tq ?_
 by_cases h17:c=17
 ·subst h17
  obtain⟨rfl,rfl,rfl,rfl⟩:=Fj hs zbe
  exact tq rfl
 refine tq ?_
 by_cases h18:c=18
 ·subst h18
  obtain⟨rfl,rfl,rfl,rfl⟩:=Fj hs zbe
  exact tq rfl
 refine tq ?_
 by_cases h19:c=19
 ·subst h19
  obtain⟨rfl,rfl,rfl,rfl⟩:=Fj hs zbe
  exact tq rfl
 refine tq ?_
 by_cases h20:c=20
 ·subst h20
  obtain⟨rfl,rfl,rfl,rfl⟩:=Fj hs zbe
  exact tq rfl
 refine tq ?_
 by_cases h21:c=21
 ·subst h21
  obtain⟨rfl,rfl,rfl,rfl⟩:=Fj hs zbe
  exact tq rfl
 refine tq ?_
 by_cases h22:c=22
 ·subst h22
  obtain⟨rfl,rfl,rfl,rfl⟩:=Fj hs zbe
  exact tq rfl
 refine tq ?_
 by_cases h23:c=23
 ·subst h23
  obtain⟨rfl,rfl,rfl,rfl⟩:=Fj hs zbe
  exact tq rfl
 refine tq ?_
 by_cases h24:c=24
 ·subst h24
  obtain⟨rfl,rfl,rfl,rfl⟩:=Fj hs zbe
  exact tq rfl
 refine tq ?_
 by_cases h25:c=25
 ·subst h25
  obtain⟨rfl,rfl,rfl,rfl⟩:=Fj hs zbe
  exact tq rfl
 refine tq ?_
 by_cases h26:c=26
 ·subst h26
  obtain⟨rfl,rfl,rfl,rfl⟩:=Fj hs zbe
  exact tq rfl
 refine tq ?_
 by_cases h27:c=27
 ·subst h27
  obtain⟨rfl,rfl,rfl,rfl⟩:=Fj hs zbe
  exact tq rfl
 refine tq ?_
 by_cases h28:c=28
 ·subst h28
  obtain⟨rfl,rfl,rfl,rfl⟩:=Fj hs zbe
  exact tq rfl
 refine tq ?_
 by_cases h29:c=29
 ·subst h29
  obtain⟨rfl,rfl,rfl,rfl⟩:=Fj hs zbe
  exact tq rfl
 refine tq ?_
 by_cases h30:c=30
 ·subst h30
  obtain⟨rfl,rfl,rfl,rfl⟩:=Fj hs zbe
  exact tq rfl
 refine tq ?_
 by_cases h31:c=31
 ·subst h31
  obtain⟨rfl,rfl,rfl,rfl⟩:=Fj hs zbe
  exact tq rfl
 refine tq ?_
 by_cases h32:c=32
 ·subst h32
  obtain⟨rfl,rfl,rfl,rfl⟩:=Fj hs zbe
  exact tq rfl
 refine tq ?_
 obtain rfl:c=33:=by have hc:=zC hs;omega
 obtain⟨rfl,rfl,rfl,rfl⟩:=Fj hs zbe
 exact tq rfl
theorem jJ(hs:Yl c=some (h,a,i,nb)):Y E0 (.call 128 [.i c] [])=some (.ret (.tup [.i (h:Int),.i (a:Int),.i (i:Int),.i nb,.b true]) []):=by
 have k:=A5M hs
 refine tq ?_
 rw[k]
 exact tq rfl
theorem ACA[Decidable p]{x:α}{b:Option α}(h:(if p then some x else b)=none):¬p/\b=none:=by
 by_cases hp:p
 ·rw[if_pos hp] at h;cases h
 ·rw[if_neg hp] at h;exact⟨hp,h⟩
theorem ACB[Decidable p]{x t:α}{b:Option α}{Q:α->Prop}(h:(if p then some x else b)=some t)(hx:Q x)(k:b=some t->Q t):Q t:=by
 by_cases hp:p
 ·rw[if_pos hp] at h;cases h;exact hx
 ·rw[if_neg hp] at h;exact k h
theorem A97(hs:Yl c=none):c<=0\/c=3\/34<=c:=by
 unfold Yl at hs
 iterate 32 obtain⟨_,hs⟩:=ACA hs
 omega
theorem A5N{t:Nat×Nat×Nat×Int}(h:Yl c=some t):t.1<=10/\t.2.1<=10/\t.2.2.1<=10 /\ -1<=t.2.2.2/\t.2.2.2<=8:=by
 unfold Yl at h
 iterate 32 refine ACB (Q:=fun t:Nat×Nat×Nat×Int=>t.1<=10/\t.2.1<=10/\t.2.2.1<=10 /\ -1<=t.2.2.2/\t.2.2.2<=8) h zaj fun h=>?_
 cases h
theorem A1F(hs:Yl c=none):Y E0 (.loop 128 0 0 0 [(0,.i c),(9,.agg fmC),(10,.i 0)] [])=some (.fin (.exit 0) 0 [] []):=by
 have hn:=A97 hs
 rw[AL];conv=>lhs;whnf
 repeat(first|exact tq rfl|refine tq ?_)
theorem A7z(hs:Yl c=none):Y E0 (.call 128 [.i c] [])=some (.ret (.tup [.i 0,.i 0,.i 0,.i 0,.b false]) []):=by
 have k:=A1F hs
 refine tq ?_
 rw[k]
 exact tq rfl
theorem dR(hs:Yl c=some (h,a,i,nb)):Y E0 (.call 49 [.i c] [])=some (.ret (.tup [.agg [.i (h:Int),.i (a:Int),.i (i:Int),.i nb],.b true]) []):=by
 rcases zC hs with rfl|rfl|rfl|rfl|rfl|rfl|rfl|rfl|rfl|rfl|rfl|rfl|rfl|rfl|rfl|rfl|rfl|rfl|rfl|rfl|rfl|rfl|rfl|rfl|rfl|rfl|rfl|rfl|rfl|rfl|rfl|rfl<;>(obtain⟨rfl,rfl,rfl,rfl⟩:=Fj hs zbe;refine tq ?_;rw[Eb];refine tq ?_;rfl)
structure qOK (c:Int) (hs:List Int) (az:List (El AB)) (is:List Int) (bs:List (List UInt8)):Prop where
 ex:∃ nb,Yl c=some (hs.length,az.length,is.length,nb)/\rqG c nb hs az is bs/\((bs.length:Int)=nb\/nb<0/\bs.length<=8)
theorem AAV{x:List UInt8}(hs:Yl c=some (h,a,i,nb))(hx:x.length<=2043)(he:dE x h a i nb=0):qOK c (dH x h).1 (dA x h a).1 (dI x h a i).1 (dB x h a i).1:=by
 obtain⟨e1,e2,e3,e4,e5,e6,e7,e8,e9,e10,e11⟩:=AEV he
 have hn:=of_decide_eq_true (show decide ((dN x h a i).1=nb\/nb<0/\(dN x h a i).1<=8)=true from e2)
 have hsz:=A5N hs
 have hcc:=zC hs
 have hcb:0<=c/\c<=255:=zaa
 clear hcc
 dsimp only at hsz
 have hct:=Va (dN x h a i).1 nb
 rw[e2,<-e10] at hct
 rw[<-e10] at hn
 refine⟨nb,by rw[e3,e4,e5];exact hs,⟨by rw[e3,e4,e5];exact jJ hs,hct,by rw[e3,e4,e5];exact dR hs,?_,by omega,by omega,by omega,by omega,by omega,e6,e7,e8,e9,?_⟩,by omega⟩
 ·rcases hn with hn|hn
  ·rw[<-hn];exact OD _
  ·rw[show nb = -1 from by omega];exact ZM _ zaa
 ·unfold IY I4
  simp only[List.length_append,Bh,List.length_cons,List.length_nil]
  omega
theorem qw(b:List UInt8)(hb:b.length<=100000):∃(c:Int) (hs:List Int) (az:List (El AB)) (is:List Int) (bs:List (List UInt8)),Y E0 (.call 85 [.sl .u8 b] [])=some (.ret (.tup [rq c hs az is bs,.i (VZ b)]) [])/\(VZ b=0->qOK c hs az is bs):=by
 have hst:=A1E b hb
 by_cases h0:iq b=0
 ·have hl:5<=b.length/\b.length<=2048:=by
   unfold iq at h0
   split at h0
   ·cases h0
   split at h0
   ·cases h0
   omega
  rw[if_pos h0,h0] at hst
  have hc:VZ b=match Yl ((b.getD 4 0).toNat:Int) with
   | none=>6
   | some (h,a,i,nb)=>dE (b.drop 5) h a i nb:=by unfold VZ;rw[if_neg (by simp[h0])];rfl
  rw[hc]
  generalize ((b.getD 4 0).toNat:Int)=c at *
  cases hs:Yl c with
  | none =>
   refine⟨0,[],[],[],[],?_,fun h=>by cases h⟩
   have k:=A7z hs
   show _=some (Rsp.ret (.tup [rq 0 [] [] [] [],.i 6]) [])
   refine tq ?_
   rw[hst]
   refine tq ?_
   rw[k]
   exact tq rfl
  | some t =>
   obtain⟨h,a,i,nb⟩:=t
   have hsz:h<=10/\a<=10/\i<=10/\nb<=8:=by
    have:=A5N hs
    dsimp only at this
    omega
   have hx:List.take (Ak b-5).toNat (List.drop (Int.toNat 5) b)=b.drop 5:=by
    rw[AP,show Int.toNat 5=5 from rfl,List.take_of_length_le zaY]
   show ∃ c' hs' az' is' bs',Y E0 _=some (Rsp.ret (.tup [rq c' hs' az' is' bs',.i (dE (b.drop 5) h a i nb)]) [])/\(dE (b.drop 5) h a i nb=0->_)
   have hlx:(b.drop 5).length<=2043:=zaY
   generalize b.drop 5=x at *
   by_cases h1:(dI x h a i).2.2.2=true
   ·have he:dE x h a i nb=1:=by unfold dE;rw[if_pos h1]
    rw[he]
    exact⟨0,[],[],[],[],A7j b x c nb h a i hst hx hl (jJ hs) hsz.1 hsz.2.1 hsz.2.2.1 hsz.2.2.2 h1,fun h=>by cases h⟩
   have h1':(dI x h a i).2.2.2=false:=by cases hh:(dI x h a i).2.2.2;rfl;exact absurd hh h1
   by_cases h2:(dN x h a i).2.2=0/\JZ nb (dN x h a i).1=false
   ·have he:dE x h a i nb=1:=by unfold dE;rw[if_neg h1,if_pos h2]
    rw[he]
    exact⟨0,[],[],[],[],A7k b x c nb h a i hst hx hl (jJ hs) hsz.1 hsz.2.1 hsz.2.2.1 hsz.2.2.2 h1' h2.1 h2.2,fun h=>by cases h⟩
   have he:dE x h a i nb=PI x (dB x h a i).2.1 (dB x h a i).2.2:=by unfold dE;rw[if_neg h1,if_neg h2]
   have k:=A7l b x c nb h a i hst hx hl (jJ hs) hsz.1 hsz.2.1 hsz.2.2.1 hsz.2.2.2 h1' (fun h0=>by cases hh:JZ nb (dN x h a i).1;exact absurd ⟨h0,hh⟩ h2;rfl)
   rw[<-he] at k
   by_cases hz:dE x h a i nb=0
   ·rw[Dz hz,cond_true] at k
    have hq:=AAV hs hlx hz
    rw[hz]
    exact⟨c,_,_,_,_,k,fun _=>hq⟩
   ·rw[Aa hz,cond_false] at k
    exact⟨0,[],[],[],[],k,fun h=>absurd h hz⟩
 ·rw[if_neg h0] at hst
  have hc:VZ b=iq b:=by unfold VZ;rw[if_pos h0]
  rw[hc]
  refine⟨0,[],[],[],[],?_,fun h=>absurd h h0⟩
  generalize iq b=e at *
  refine tq ?_
  rw[hst]
  exact tq rfl
end Go.Proofs.YtlpkjhhfhannpaaGreatDoor
