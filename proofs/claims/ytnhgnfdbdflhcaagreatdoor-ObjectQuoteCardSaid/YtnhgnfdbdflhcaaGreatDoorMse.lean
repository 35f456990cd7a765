/-
  Own texts, laid together for this claim: contracts of functions of the program and its references, used by the statements of this seat.
-/
import Derived.Test.YtnhgnfdbdflhcaaGreatDoorMsd
set_option linter.all false
set_option maxHeartbeats 40000000
set_option maxRecDepth 100000
namespace Go.Ax
open Go Go.Eng Go.RowKit
variable {h:Int}{l:List (El objT)}
def Yd(h:Int):List (El H5)->Nat
 | []=>0
 | x::l=>if h=256+x.1 then 0 else Yd h l+1
def L9(h:Int)(l:List (El H5)):Int:=if Yd h l<l.length then(Yd h l:Int) else -1
theorem Iq(h:Int)(l:List (El H5)): -1<=L9 h l/\L9 h l<l.length:=by unfold L9;split<;>omega
def MP(h:Int)(l:List (El objT)):Int:=if GK l h=none then -1 else h-512
theorem W9{x:El objT}(e:GK l h=some x):512<=h/\l[(h-512).toNat]?=some x/\x.1.1≠0:=by
 unfold GK at e
 split at e
 ·rename_i h0
  split at e
  ·rename_i y hy
   split at e
   ·cases e
   ·cases e;exact⟨h0,hy,by assumption⟩
  ·cases e
 ·cases e
theorem SL(h:Int)(l:List (El objT)): -1<=MP h l/\MP h l<l.length:=by
 unfold MP
 split
 ·omega
 ·rename_i hn
  obtain⟨x,hx⟩:=Option.ne_none_iff_exists'.1 hn
  obtain⟨h1,h2,_⟩:=W9 hx
  have h3:=(List.getElem?_eq_some_iff.1 h2).1
  omega
theorem QZ(hs:0<=MP h l):∃ x,GK l h=some x/\x∈l/\BZ l (MP h l)=some x:=by
 have hl:=SL h l
 unfold MP at *
 split at hs
 ·omega
 ·rename_i hn
  rw[if_neg hn] at hl ⊢
  obtain⟨x,hx⟩:=Option.ne_none_iff_exists'.1 hn
  obtain⟨h1,h2,_⟩:=W9 hx
  obtain⟨h3,h4⟩:=List.getElem?_eq_some_iff.1 h2;exact⟨x,hx,h4▸List.getElem_mem _,by rw[E8 ⟨hs,hl.2⟩];exact congrArg some h4⟩
theorem A35{j:Nat}(hj:j<l.length):MP h l=(j:Int)↔h=512+(j:Int)/\(l[j]'hj).1.1≠0:=by
 unfold MP GK
 by_cases hh:h=512+(j:Int)
 ·subst hh;rw[if_pos (show(512:Int)<=512+(j:Int) by omega),show(512+(j:Int)-512).toNat=j by omega,List.getElem?_eq_getElem hj]
  by_cases hk:(l[j]'hj).1.1=0
  ·simp only[hk,if_true];constructor
   ·intro e;omega
   ·intro e;exact absurd rfl e.2
  ·simp only[if_neg hk,reduceCtorEq,if_false];constructor
   ·intro _;exact⟨trivial,hk⟩
   ·intro _;omega
 ·constructor
  ·intro e
   split at e
   ·omega
   ·omega
  ·intro e;exact absurd e.1 hh
def ssI(h:Int)(l:List (El sesT)):Int:=if 768<=h then(match l[(h-768).toNat]? with|some x=>if x.1=0 then -1 else h-768|none => -1) else -1
theorem A1W{l:List (El sesT)}(hz:0<=ssI h l):ssI h l=h-768/\0<=h-768/\h-768<l.length:=by
 unfold ssI at *
 split at hz
 ·rename_i h0
  rw[if_pos h0]
  split at hz
  ·rename_i x hx
   have h1:=(List.getElem?_eq_some_iff.1 hx).1
   split at hz
   ·omega
   ·rename_i hn
    rw[if_neg hn];omega
  ·omega
 ·omega
end Go.Ax
namespace Go.Ax
open Go.Eng
theorem aC{ks:List (El Ja)}{u:List UInt8}{h:Int}(he:(Ee ks u h).2.2≠0):(Ee ks u h).1=ks:=by
 unfold Ee at he ⊢
 split
 ·rename_i hk
  rw[if_pos hk] at he
  split
  ·rfl
  ·rename_i h2;rw[if_neg h2] at he;exact absurd rfl he
 ·rename_i hk
  rw[if_neg hk] at he
  split
  ·rfl
  ·rename_i h2;rw[if_neg h2] at he;exact absurd rfl he
theorem A1c(par s:Sen)(p:Pub):(FH par p s).length<=1200:=by
 unfold FH
 have hn:=Ac p
 by_cases h:1024<(YL s).length
 ·rw[PT,if_pos (.inr h)];simp
 ·rw[Zm za6 zaa,List.length_take];omega
theorem xO(par:Sen)(p:Pub)(b:List UInt8):(Eu par p b).1.auth.length<=32/\(Eu par p b).1.seed.length<=32/\(Eu par p b).1.data.length<=128:=by
 unfold Eu
 split
 ·simp[SB]
 ·unfold uH
  dsimp only
  split
  ·simp[SB]
  ·split
   ·simp[SB]
   ·refine⟨?_,?_,?_⟩
    ·have:=J3 (b:=(Jg (wkey par (nameB p)) (ES p) b).1) (at':=0) (e:=0) (most:=32) zal;simp only;omega
    ·simp only
     generalize Js (Jg (wkey par (nameB p)) (ES p) b).1 0 0 32=A
     have:=J3 (b:=(Jg (wkey par (nameB p)) (ES p) b).1) (at':=A.2.1) (e:=A.2.2) (most:=32) zal;omega
    ·simp only
     generalize Js (Jg (wkey par (nameB p)) (ES p) b).1 0 0 32=A
     generalize Js (Jg (wkey par (nameB p)) (ES p) b).1 A.2.1 A.2.2 32=B
     have:=J3 (b:=(Jg (wkey par (nameB p)) (ES p) b).1) (at':=B.2.1) (e:=B.2.2) (most:=128) zal;omega
end Go.Ax
namespace Go.Proofs.YtnhgnfdbdflhcaaGreatDoor
open Go Go.Ax Go.Eng
variable {a k:Int}
section
attribute [local irreducible] Cj Dt D9 DT DK BH Du Ey Fh FD Et D7 CV Df DX and' Dk DU CG Ba Bl CJ CS BK BM BB BG Dv G7 Dw EM Dl Bh CO Bz C9 Bo BD Bi BO Be BZ Dx Bf DL Bd BI D6 Dy fits Dz Dn AZ Ap BL
attribute [local irreducible] E5 CP Bq nameB ES Em Ar
theorem A1U(n:Nat):FY n (U9 n):=by
 refine⟨Aj _ _,fun x hx=>?_⟩
 simp only[U9,Nl,List.mem_map] at hx
 obtain⟨i,_,rfl⟩:=hx
 simp
theorem Ya(h:0<=a/\a<=3):Ox a (N8 a)/\(a/2%2=1->N8 a≠[]):=by
 have hb:=A1U
 unfold N8 Ox
 rcases(show a=0\/a=1\/a=2\/a=3 by omega) with rfl|rfl|rfl|rfl
 ·exact⟨.inl rfl,by decide⟩
 ·exact⟨.inr ⟨_,_,rfl,.inr (hb 20),.inl rfl,fun h=>absurd h zal⟩,fun h=>absurd h zal⟩
 ·exact⟨.inr ⟨_,_,rfl,.inl rfl,.inr (hb 32),fun _=>hb 32⟩,fun _=>by simp⟩
 ·exact⟨.inr ⟨_,_,rfl,.inr (hb 20),.inr (hb 32),fun _=>hb 32⟩,fun _=>by simp⟩
theorem rg_of{b0 b1 c0 c1:List (List UInt8)}(h2:a/2%2=1->FY 32 b1)(k0:b0=[]/\c0=[]\/FY 20 c0)(k1:b1=[]/\c1=[]\/FY 32 c1):Ox a [c0,c1]:=by
 refine .inr ⟨c0,c1,rfl,?_,?_,fun ha=>?_⟩
 ·rcases k0 with⟨_,h⟩|h
  ·exact .inl h
  ·exact .inr h
 ·rcases k1 with⟨_,h⟩|h
  ·exact .inl h
  ·exact .inr h
 ·rcases k1 with⟨h,_⟩|h
  ·have:=(h2 ha).1;rw[h] at this;simp at this
  ·exact h
theorem OU(a:Int):Ox a []:=.inl rfl
theorem dR(u i:Int)(ds:List (List UInt8))(hd:ds.length=2)(hdm:∀ x∈ds,x.length<=10000):Ah E0 (.loop 286 0 0 2 [(2,AV.i i),(3,AV.sl Ty.u8.sl ds),(4,AV.pa 0 0),(8,AV.pa 1 0),(10,AV.i 0)] [(0,some (Rs.var [AV.sl Ty.u8.sl.sl [],AV.i u])),(1,some (Rs.var [AV.nil,AV.i 0]))]) fun r=>r=some (.fin .ret 2 [(2,AV.i i),(3,AV.sl Ty.u8.sl ds),(4,AV.pa 0 0),(8,AV.pa 1 0),(9,AV.i 27)] [(0,some (Rs.var [AV.sl Ty.u8.sl.sl [],AV.i u])),(1,some (Rs.var [AV.nil,AV.i 0]))])\/r=some (.fin (.exit 0) 2 [(2,AV.i i),(3,AV.sl Ty.u8.sl ds),(4,AV.pa 0 0),(8,AV.pa 1 0)] [(0,some (Rs.var [AV.sl Ty.u8.sl.sl [],AV.i u])),(1,some (Rs.var [AV.nil,AV.i 0]))]):=by
 refine CU fun P hP=>?_
 refine tw ?_;rw[GG _ _ A8];refine tw ?_;obtain⟨x0,f0,g0⟩:=DF hdm (i:=0) A8;rw[g0];refine tw ?_
 rcases AY 0 (↑x0.length) with hc1|hc1
 ·refine tw ?_;exact hP _ (Or.inl rfl)
 refine tw ?_;refine tw ?_;rw[GG _ _ A8];refine tw ?_;obtain⟨x2,f2,g2⟩:=DF hdm (i:=1) A8;rw[g2];refine tw ?_
 rcases AY 0 (↑x2.length) with hc3|hc3
 ·refine tw ?_;exact hP _ (Or.inl rfl)
 refine tw ?_;refine tw ?_;exact hP _ (Or.inr rfl)
theorem dS(u i:Int)(ds:List (List UInt8))(hd:ds.length=2)(hdm:∀ x∈ds,x.length<=10000):Ah E0 (.loop 286 1 0 2 [(2,AV.i i),(3,AV.sl Ty.u8.sl ds),(4,AV.pa 0 0),(8,AV.pa 1 0),(11,AV.i 0)] [(0,some (Rs.var [AV.sl Ty.u8.sl.sl [],AV.i u])),(1,some (Rs.var [AV.nil,AV.i 0]))]) fun r=>r=some (.fin (.exit 2) 2 [(2,AV.i i),(3,AV.sl Ty.u8.sl ds),(4,AV.pa 0 0),(8,AV.pa 1 0)] [(0,some (Rs.var [AV.sl Ty.u8.sl.sl [],AV.i u])),(1,some (Rs.var [AV.nil,AV.i 0]))]):=by
 refine CU fun P hP=>?_
 refine tw ?_;rw[GG _ _ A8];refine tw ?_;refine tw ?_;rw[GG _ _ A8];refine tw ?_;refine tw ?_;exact hP _ rfl
theorem dU(u i:Int)(ds:List (List UInt8))(hd:ds.length=2)(hdm:∀ x∈ds,x.length<=10000):Ah E0 (.loop 286 2 0 3 [(2,AV.i i),(3,AV.sl Ty.u8.sl ds),(4,AV.pa 0 0),(8,AV.pa 1 0),(12,.pa 2 0),(13,AV.i 0)] [(0,some (Rs.var [AV.sl Ty.u8.sl.sl [],AV.i u])),(1,some (Rs.var [AV.nil,AV.i 0])),(2,some (.var [.nil,.i u]))]) fun r=>r=some (.fin (.exit 4) 2 [(8,.pa 0 0),(12,.pa 1 0)] [(0,some (.var [.nil,.i 0])),(1,some (.var [.nil,.i u]))]):=by
 refine CU fun P hP=>?_
 refine tw ?_;rw[GG _ _ A8];refine tw ?_;refine tw ?_;rw[GG _ _ A8];refine tw ?_;refine tw ?_;exact hP _ rfl
theorem kD(u:Int)(d:List UInt8):Ah E0 (.loop 287 0 0 2 [(1,AV.sl Ty.u8 d),(2,AV.pa 0 0),(5,AV.nm 1),(6,AV.i 0)] [(0,some (Rs.var [AV.sl Ty.u8.sl.sl [],AV.i u])),(1,some (Rs.row 22 Ty.u8.sl (Bd 2 [])))]) fun r=>r=some (.fin (.exit 0) 0 [(5,.sl (.sl .u8) (Bd 2 []))] []):=by
 refine CU fun P hP=>?_
 refine tw ?_;rw[GG _ _ A8];refine tw ?_;refine tw ?_;rw[GG _ _ A8];refine tw ?_;refine tw ?_;exact hP _ rfl
theorem kE(u i:Int):Ah E0 (.loop 289 0 0 3 [(2,AV.i i),(3,AV.pa 0 0),(6,AV.pa 1 0),(9,.pa 2 0),(10,AV.i 0)] [(0,some (Rs.var [AV.sl Ty.u8.sl.sl [],AV.i u])),(1,some (Rs.var [AV.nil,AV.i 0])),(2,some (.var [.nil,.i u]))]) fun r=>r=some (.fin (.exit 0) 2 [(6,.pa 0 0),(9,.pa 1 0)] [(0,some (.var [.nil,.i 0])),(1,some (.var [.nil,.i u]))]):=by
 refine CU fun P hP=>?_
 refine tw ?_;rw[GG _ _ A8];refine tw ?_;refine tw ?_;rw[GG _ _ A8];refine tw ?_;refine tw ?_;exact hP _ rfl
theorem dV(u s0 s1:Int):Ah E0 (.loop 54 0 0 2 [(2,AV.pa 0 0),(3,AV.pa 1 0),(6,AV.i 0)] [(0,some (Rs.var [AV.sl Ty.u8.sl.sl [],AV.i u])),(1,some (Rs.var [AV.i s0,AV.i s1]))]) fun r=>(r=some (.fin .ret 2 [(2,.pa 0 0),(3,.pa 1 0),(4,.nil),(5,.i 1)] [(0,some (Rs.var [AV.sl Ty.u8.sl.sl [],AV.i u])),(1,some (Rs.var [AV.i s0,AV.i s1]))]))\/r=some (.fin (.exit 0) 2 [(2,.pa 0 0),(3,.pa 1 0)] [(0,some (Rs.var [AV.sl Ty.u8.sl.sl [],AV.i u])),(1,some (Rs.var [AV.i s0,AV.i s1]))]):=by
 refine CU fun P hP=>?_
 refine tw ?_
 rcases AY s0 0 with hc0|hc0
 ·refine tw ?_;exact hP _ (Or.inl rfl)
 refine tw ?_
 rcases AY 65535 s0 with hc1|hc1
 ·refine tw ?_;exact hP _ (Or.inl rfl)
 refine tw ?_;refine tw ?_
 rcases AY s1 0 with hc2|hc2
 ·refine tw ?_;exact hP _ (Or.inl rfl)
 refine tw ?_
 rcases AY 65535 s1 with hc3|hc3
 ·refine tw ?_;exact hP _ (Or.inl rfl)
 refine tw ?_;refine tw ?_;exact hP _ (Or.inr rfl)
theorem Py(u s0 s1 a:Int)(ha:a=0/\s0=0\/a=1/\s1=0):∀(n j:Nat),j+n=16->Y E0 (.loop 54 2 0 3 [(2,AV.pa 0 0),(3,AV.pa 1 0),(7,AV.nm 2),(8,AV.i a),(9,AV.i (j:Int))] [(0,some (Rs.var [AV.sl Ty.u8.sl.sl [],AV.i u])),(1,some (Rs.var [AV.i s0,AV.i s1])),(2,some (Rs.row 5 Ty.u8 []))])=some (.fin (.exit 4) 3 [(2,AV.pa 0 0),(3,AV.pa 1 0),(7,AV.nm 2),(8,AV.i a)] [(0,some (Rs.var [AV.sl Ty.u8.sl.sl [],AV.i u])),(1,some (Rs.var [AV.i s0,AV.i s1])),(2,some (Rs.row 5 Ty.u8 []))])
 | 0,j,hj=>by
  obtain rfl:j=16:=zaa
  exact tq rfl
 | n+1,j,hj=>by
  have ih:=Py u s0 s1 a ha n (j+1) zaa
  rw[show((j+1:Nat):Int)=(j:Int)+1 from by omega] at ih
  have hb:=uP j zaa
  rcases ha with⟨rfl,rfl⟩|⟨rfl,rfl⟩
  ·rw[Ae];conv=>lhs;whnf
   rw[ET zaa]
   conv=>lhs;whnf
   try dsimp -iota -beta -eta -zeta only
   rw[Gj zaa]
   conv=>lhs;whnf
   rw[ET zaa]
   conv=>lhs;whnf
   rw[AA (by rw[hb];decide)]
   refine tq ?_;exact ih
  ·rw[Ae];conv=>lhs;whnf
   rw[ET zaa]
   conv=>lhs;whnf
   try dsimp -iota -beta -eta -zeta only
   rw[Gj zaa]
   conv=>lhs;whnf
   rw[ET zaa]
   conv=>lhs;whnf
   rw[AA (by rw[hb];decide)]
   refine tq ?_;exact ih
theorem dW(u s0 s1:Int):Ah E0 (.loop 54 1 0 3 [(2,AV.pa 0 0),(3,AV.pa 1 0),(7,AV.nm 2),(8,AV.i 0)] [(0,some (Rs.var [AV.sl Ty.u8.sl.sl [],AV.i u])),(1,some (Rs.var [AV.i s0,AV.i s1])),(2,some (Rs.row 5 Ty.u8 []))]) fun r=>(∃ x:List UInt8,r=some (.fin .ret 1 [(3,AV.pa 0 0),(4,AV.nil),(5,AV.i 27),(7,AV.sl Ty.u8 x)] [(0,some (Rs.var [AV.i s0,AV.i s1]))]))\/r=some (.fin (.exit 2) 1 [(3,AV.pa 0 0),(7,AV.sl Ty.u8 [])] [(0,some (Rs.var [AV.i s0,AV.i s1]))]):=by
 have e0:=fun h:s0=0=>Py u s0 s1 0 (.inl ⟨rfl,h⟩) 16 0 zaa
 have e1:=fun h:s1=0=>Py u s0 s1 1 (.inr ⟨rfl,h⟩) 16 0 zaa
 simp only[show((0:Nat):Int)=0 from rfl] at e0 e1
 refine CU fun P hP=>?_
 refine tw ?_
 rcases AX s0 0 with hc0|hc0
 ·refine tw ?_;rw[GG _ _ A8];refine tw ?_;exact hP _ (Or.inl ⟨[],rfl⟩)
 subst hc0
 replace e0:=e0 rfl
 refine tw ?_;rw[e0];refine tw ?_;refine tw ?_
 rcases AX s1 0 with hc1|hc1
 ·refine tw ?_;rw[GG _ _ A8];refine tw ?_;exact hP _ (Or.inl ⟨[],rfl⟩)
 subst hc1
 replace e1:=e1 rfl
 refine tw ?_;rw[e1];refine tw ?_;refine tw ?_;exact hP _ (Or.inr rfl)
theorem xJ(u lo i:Int)(ds:List (List UInt8))(hd:ds.length<=100)(hdm:∀ x∈ds,x.length<=10000):Ah E0 (.call 286 [Om [] u,.i lo,.i i,.sl (.sl .u8) ds] []) fun r=>r=some (.ret (.tup [Om [] (Cj u 1),.i 0]) [])\/∃ e:Int,(e≠0)/\r=some (.ret (.tup [Om [] 0,.i e]) []):=by
 refine CU fun P hP=>tw ?_
 rcases AY lo 0 with hc0|hc0
 ·refine tw ?_;exact hP _ (Or.inr ⟨1,A8,rfl⟩)
 refine tw ?_
 rcases AY 4 lo with hc1|hc1
 ·refine tw ?_;exact hP _ (Or.inr ⟨1,A8,rfl⟩)
 refine tw ?_
 rcases AY i 0 with hc2|hc2
 ·refine tw ?_;exact hP _ (Or.inr ⟨1,A8,rfl⟩)
 refine tw ?_
 rcases DD 16 i with hc3|hc3
 ·refine tw ?_;exact hP _ (Or.inr ⟨1,A8,rfl⟩)
 refine tw ?_
 rcases AX (↑ds.length) 2 with hc4|hc4
 ·refine tw ?_;exact hP _ (Or.inr ⟨1,A8,rfl⟩)
 refine tw ?_;obtain⟨x5,⟨h5_1,h5_2⟩,yy5⟩:=OT i false;refine Am yy5 ?_
 rcases AY lo x5 with hc6|hc6
 ·refine tw ?_;exact hP _ (Or.inr ⟨13,A8,rfl⟩)
 refine tw ?_
 obtain(yy7|yy7):=dR u i ds A8 A8
 ·refine Am yy7 ?_;exact hP _ (Or.inr ⟨27,A8,rfl⟩)
 refine Am yy7 ?_
 obtain yy8:=dS u i ds A8 A8
 refine Am yy8 ?_;rw[YX]
 conv=>arg 1;whnf
 rw[Ae]
 conv=>arg 1;whnf
 try dsimp -iota -beta -eta -zeta only
 rw[EY]
 obtain yy9:=dU u i ds A8 A8
 refine Am yy9 ?_;exact hP _ (Or.inl rfl)
theorem kF(a:Int)(rb:List (List (List UInt8)))(u lo i:Int)(ds:List (List UInt8))(h:Ox a rb)(hd:ds.length<=100)(hdm:∀ x∈ds,x.length<=10000):Ah E0 (.call 286 [Om rb u,.i lo,.i i,.sl (.sl .u8) ds] []) fun r=>(∃ c:List (List (List UInt8)),(Ox a c/\(rb≠[]->c≠[]))/\r=some (.ret (.tup [Om c (Cj u 1),.i 0]) []))\/∃ e:Int,(e≠0)/\r=some (.ret (.tup [Om [] 0,.i e]) []):=by
 rcases h with rfl|⟨b0,b1,rfl,h0,h1,h2⟩
 ·rcases xJ u lo i ds hd hdm with e|e
  ·exact .inl ⟨[],⟨OU a,id⟩,e⟩
  ·exact .inr e
 ·rcases je b0 b1 u lo i ds h0 h1 hd hdm with⟨c0,c1,⟨k0,k1⟩,e⟩|e
  ·exact .inl ⟨[c0,c1],⟨rg_of h2 k0 k1,fun _=>by simp⟩,e⟩
  ·exact .inr e
theorem o7(u:Int)(d:List UInt8)(hd:d.length<=10000):Ah E0 (.call 287 [Om [] u,.sl .u8 d] []) fun r=>∃ l:List (List UInt8),(WM l)/\r=some (.ret (.sl (.sl .u8) l) []):=by
 refine CU fun P hP=>tw ?_
 obtain yy0:=kD u d
 refine Am yy0 ?_;refine hP _ ⟨Bd 2 [],?_,rfl⟩;exact dg0
theorem aB(a:Int)(rb:List (List (List UInt8)))(u:Int)(d:List UInt8)(h:Ox a rb)(hd:d.length<=10000):Ah E0 (.call 287 [Om rb u,.sl .u8 d] []) fun r=>∃ l:List (List UInt8),(WM l)/\r=some (.ret (.sl (.sl .u8) l) []):=by
 rcases h with rfl|⟨b0,b1,rfl,h0,h1,h2⟩
 ·exact o7 u d hd
 ·exact xH b0 b1 u d hd
theorem o8(a:Int)(rb:List (List (List UInt8)))(u lo i:Int)(d:List UInt8)(h:Ox a rb)(hd:d.length<=10000):Ah E0 (.call 288 [Om rb u,.i lo,.i i,.sl .u8 d] []) fun r=>(∃ c:List (List (List UInt8)),(Ox a c/\(rb≠[]->c≠[]))/\r=some (.ret (.tup [Om c (Cj u 1),.i 0]) []))\/∃ e:Int,(e≠0)/\r=some (.ret (.tup [Om [] 0,.i e]) []):=by
 have hq:∀ l:List (List UInt8),WM l->l.length<=100/\∀ x∈l,x.length<=10000:=fun l hl=>⟨by have:=hl.1;omega,fun x hx=>by have:=hl.2 x hx;omega⟩
 refine CU fun P hP=>tw ?_
 rcases AY 128 (↑d.length) with hc0|hc0
 ·refine tw ?_;exact hP _ (Or.inr ⟨4,A8,rfl⟩)
 refine tw ?_;obtain⟨l1,h1_1,yy1⟩:=aB a rb u d h A8;refine Am yy1 ?_
 obtain(⟨c2,⟨h2_1,h2_2⟩,yy2⟩|⟨e2_3,h2_4,yy2⟩):=kF a rb u lo i l1 h (by(exact(hq _ zat).1)) (by(exact(hq _ zat).2))
 ·refine Am yy2 ?_;exact hP _ (Or.inl ⟨c2,clo,rfl⟩)
 refine Am yy2 ?_;exact hP _ (Or.inr ⟨e2_3,A8,rfl⟩)
theorem kG(u lo i:Int):Ah E0 (.call 289 [Om [] u,.i lo,.i i] []) fun r=>r=some (.ret (.tup [Om [] (Cj u 1),.i 0]) [])\/∃ e:Int,(e≠0)/\r=some (.ret (.tup [Om [] 0,.i e]) []):=by
 refine CU fun P hP=>tw ?_
 rcases AY lo 0 with hc0|hc0
 ·refine tw ?_;exact hP _ (Or.inr ⟨1,A8,rfl⟩)
 refine tw ?_
 rcases AY 4 lo with hc1|hc1
 ·refine tw ?_;exact hP _ (Or.inr ⟨1,A8,rfl⟩)
 refine tw ?_
 rcases AY i 0 with hc2|hc2
 ·refine tw ?_;exact hP _ (Or.inr ⟨1,A8,rfl⟩)
 refine tw ?_
 rcases DD 16 i with hc3|hc3
 ·refine tw ?_;exact hP _ (Or.inr ⟨1,A8,rfl⟩)
 refine tw ?_;obtain⟨x4,⟨h4_1,h4_2⟩,yy4⟩:=OT i true;refine Am yy4 ?_
 rcases AY x4 0 with hc5|hc5
 ·refine tw ?_;exact hP _ (Or.inr ⟨13,A8,rfl⟩)
 refine tw ?_
 rcases AY lo x4 with hc6|hc6
 ·refine tw ?_;exact hP _ (Or.inr ⟨13,A8,rfl⟩)
 refine tw ?_;rw[YX];refine tw ?_
 obtain yy7:=kE u i
 refine Am yy7 ?_;exact hP _ (Or.inl rfl)
theorem o9(a:Int)(rb:List (List (List UInt8)))(u lo i:Int)(h:Ox a rb):Ah E0 (.call 289 [Om rb u,.i lo,.i i] []) fun r=>(∃ c:List (List (List UInt8)),(Ox a c/\(rb≠[]->c≠[]))/\r=some (.ret (.tup [Om c (Cj u 1),.i 0]) []))\/∃ e:Int,(e≠0)/\r=some (.ret (.tup [Om [] 0,.i e]) []):=by
 rcases h with rfl|⟨b0,b1,rfl,h0,h1,h2⟩
 ·rcases kG u lo i with e|e
  ·exact .inl ⟨[],⟨OU a,id⟩,e⟩
  ·exact .inr e
 ·rcases nU b0 b1 u lo i h0 h1 with⟨c0,c1,⟨k0,k1⟩,e⟩|e
  ·exact .inl ⟨[c0,c1],⟨rg_of h2 k0 k1,fun _=>by simp⟩,e⟩
  ·exact .inr e
theorem oC(a:Int)(rb:List (List (List UInt8)))(u k i:Int)(h:Ox a rb):Ah E0 (.call 285 [Om rb u,.i k,.i i] []) fun r=>∃(l:List UInt8) (e:Int),r=some (.ret (.tup [.sl .u8 l,.i e]) []):=by
 rcases h with rfl|⟨b0,b1,rfl,h0,h1,h2⟩
 ·refine CU fun P hP=>tw ?_
  rcases AY k 0 with hc0|hc0
  ·refine tw ?_;exact hP _ ⟨[],1,rfl⟩
  refine tw ?_
  rcases DD 2 k with hc1|hc1
  ·refine tw ?_;exact hP _ ⟨[],1,rfl⟩
  refine tw ?_
  rcases AY i 0 with hc2|hc2
  ·refine tw ?_;exact hP _ ⟨[],1,rfl⟩
  refine tw ?_
  rcases DD 16 i with hc3|hc3
  ·refine tw ?_;exact hP _ ⟨[],1,rfl⟩
  refine tw ?_;rw[GG _ _ A8];refine tw ?_;exact hP _ ⟨[],27,rfl⟩
 ·exact nX b0 b1 u k i h0 h1
theorem xK(u s0 s1:Int):Ah E0 (.call 54 [Om [] u,.agg [.i s0,.i s1]] []) fun r=>∃(l:List UInt8) (e:Int),(l.length<=32)/\r=some (.ret (.tup [.sl .u8 l,.i e]) []):=by
 refine CU fun P hP=>tw ?_
 obtain(yy0|yy0):=dV u s0 s1
 ·refine Am yy0 ?_;exact hP _ ⟨[],1,A8,rfl⟩
 refine Am yy0 ?_
 obtain(⟨x1,yy1⟩|yy1):=dW u s0 s1
 ·refine Am yy1 ?_;exact hP _ ⟨[],27,A8,rfl⟩
 refine Am yy1 ?_;rw[CQ _ _ _ A8];refine tw ?_;rw[CQ _ _ _ A8];refine tw ?_;rw[F8 _ _ (by simp[Ai,AB]) zao];refine tw ?_;exact hP _ ⟨sha256 (Ar 5 [CE (CE [] 2 s0) 2 s1,[]]),0,A8,rfl⟩
theorem Yb(a:Int)(rb:List (List (List UInt8)))(u s0 s1:Int)(h:Ox a rb):Ah E0 (.call 54 [Om rb u,.agg [.i s0,.i s1]] []) fun r=>∃(l:List UInt8) (e:Int),(l.length<=32)/\r=some (.ret (.tup [.sl .u8 l,.i e]) []):=by
 rcases h with rfl|⟨b0,b1,rfl,h0,h1,h2⟩
 ·exact xK u s0 s1
 ·rcases jr b0 b1 u s0 s1 h0 h1 with⟨e,_,he⟩|⟨_,he⟩
  ·exact⟨[],e,by simp,he⟩
  ·exact⟨_,0,by unfold dK;rw[A7];exact Nat.le_refl _,he⟩
theorem kH(a:Int)(rb:List (List (List UInt8)))(u:Int)(h:Ox a rb)(hn:rb≠[]):Ah E0 (.call 89 [Om rb u] []) fun r=>∃ c:List (List (List UInt8)),(Ox a c/\c≠[])/\r=some (.ret (Om c u) []):=by
 rcases h with rfl|⟨b0,b1,rfl,h0,h1,h2⟩
 ·exact absurd rfl hn
 ·obtain⟨c0,c1,⟨k0,k1⟩,e⟩:=jm b0 b1 u h0 h1;exact⟨[c0,c1],⟨rg_of h2 k0 k1,by simp⟩,e⟩
theorem ND:(List.replicate 3 ses0).length=3/\∀ x∈List.replicate 3 ses0,Gn x:=by
 refine⟨by simp,fun x hx=>?_⟩
 rw[List.eq_of_mem_replicate hx];exact⟨by decide,by decide⟩
theorem NE:(List.replicate 3 obj0).length=3/\∀ x∈List.replicate 3 obj0,FZ x:=by
 refine⟨by simp,fun x hx=>?_⟩
 rw[List.eq_of_mem_replicate hx];exact⟨by decide,by decide,by decide,by decide,by decide,by decide,by decide⟩
theorem kJ(s:MS)(m:Int)(hi:Kp a k s)(hk:k<=900):Ah E0 (.call 26 [av s,.i m] []) fun r=>(∃ t:MS,(Kp a (k+1) t/\t.st=true)/\r=some (.ret (.tup [av t,.i 0]) []))\/∃(t:MS) (e:Int),(e≠0)/\r=some (.ret (.tup [av t,.i e]) []):=by
 have hn:=Ya hi.ac.2
 have h1:=hi.ac
 have h2:=hi.re
 have h3:=hi.rs
 have h4:=hi.kk
 have hs:=hi.sb
 have hs2:=hi.su
 refine CU fun P hP=>tw ?_
 rcases bo (s.st) with hc0|hc0
 ·rw[hc0];refine tw ?_;exact hP _ (Or.inr ⟨⟨[],[],[],0,0,0,0,false,[],0,0,[],0,0,0,0,0,0,[],false,false,[],0,0,false,0,[],[],[],[]⟩,28,A8,rfl⟩)
 rw[hc0];refine tw ?_
 rcases bo (s.sp) with hc1|hc1
 ·rw[hc1];refine tw ?_;exact hP _ (Or.inr ⟨⟨[],[],[],0,0,0,0,false,[],0,0,[],0,0,0,0,0,0,[],false,false,[],0,0,false,0,[],[],[],[]⟩,28,A8,rfl⟩)
 rw[hc1];refine tw ?_
 rcases AX m 0 with hc2|hc2
 ·refine tw ?_
  rcases AX m 1 with hc3|hc3
  ·refine tw ?_;exact hP _ (Or.inr ⟨⟨[],[],[],0,0,0,0,false,[],0,0,[],0,0,0,0,0,0,[],false,false,[],0,0,false,0,[],[],[],[]⟩,1,A8,rfl⟩)
  subst hc3;refine tw ?_
  rcases AL (↑s.sb.length) 0 with hc4|hc4
  ·refine tw ?_;exact hP _ (Or.inr ⟨⟨[],[],[],0,0,0,0,false,[],0,0,[],0,0,0,0,0,0,[],false,false,[],0,0,false,0,[],[],[],[]⟩,16,A8,rfl⟩)
  refine tv ?_;obtain⟨c5,⟨h5_1,h5_2⟩,yy5⟩:=kH a s.sb s.su hs (by(intro hz;simp_all))
  refine Am yy5 ?_;refine hP _ (Or.inl ⟨{s with rs:=s.rs+1,od:=false,sb:=[],su:=0,st:=true,sp:=false,rb:=c5,ru:=s.su,vc:=s.ck,sf:=s.od},?_,rfl⟩);exact⟨{hi.up (k':=k+1) zaa with rs:=by show 0<=s.rs+1/\s.rs+1<=k+1;omega,sb:=OU a,su:=by show 0<=(0:Int)/\(0:Int)<=k+1;omega,rb:=by assumption,st:=fun _ _=>by assumption,ru:=by show 0<=s.su/\s.su<=k+1;omega,vc:=hi.ck},rfl⟩
 subst hc2;refine tv ?_;rw[jh _ A8];refine tw ?_;refine hP _ (Or.inl ⟨{s with re:=s.re+1,rs:=0,od:=false,sb:=[],su:=0,st:=true,sp:=false,rb:=N8 s.ac,ru:=0,vc:=s.ck,sf:=s.od},?_,rfl⟩);exact⟨{hi.up (k':=k+1) zaa with re:=by show 0<=s.re+1/\s.re+1<=k+1;omega,rs:=by show 0<=(0:Int)/\(0:Int)<=k+1;omega,sb:=OU a,su:=by show 0<=(0:Int)/\(0:Int)<=k+1;omega,rb:=by rw[h1.1];exact hn.1,st:=fun _ h=>by show N8 s.ac≠[];rw[h1.1];exact hn.2 h,ru:=by show 0<=(0:Int)/\(0:Int)<=k+1;omega,vc:=hi.ck},rfl⟩
theorem oD(s:MS)(m:Int)(hi:Kp a k s):Ah E0 (.call 252 [av s,.i m] []) fun r=>(∃ t:MS,(Kp a k t)/\r=some (.ret (.tup [av t,.i 0]) []))\/∃(t:MS) (e:Int),(e≠0)/\r=some (.ret (.tup [av t,.i e]) []):=by
 refine CU fun P hP=>tw ?_
 rcases bo (s.st) with hc0|hc0
 ·rw[hc0];refine tw ?_
  rcases AX m 0 with hc1|hc1
  ·refine tw ?_
   rcases AX m 1 with hc2|hc2
   ·refine tw ?_;exact hP _ (Or.inr ⟨⟨[],[],[],0,0,0,0,false,[],0,0,[],0,0,0,0,0,0,[],false,false,[],0,0,false,0,[],[],[],[]⟩,1,A8,rfl⟩)
   subst hc2;refine tw ?_;rw[ML ..];refine tw ?_;refine hP _ (Or.inl ⟨{s with ck:=s.vc,od:=s.sf,sb:=s.rb,su:=s.ru,st:=false,sp:=true,rb:=[],ru:=0,vc:=0,sf:=false,dr:=0,ss:=List.replicate 3 ses0,ob:=List.replicate 3 obj0,rl:=[],wl:=[]},?_,rfl⟩);exact {hi with ck:=hi.vc,sb:=hi.rb,su:=hi.ru,rb:=OU a,st:=fun h=>zaU,ru:=⟨Int.le_refl _,hi.kk.1⟩,vc:=(by show 0<=(0:Int)/\(0:Int)<=1099511627776;decide),dr:=⟨Int.le_refl _,hi.kk.1⟩,ssl:=ND.1,ssm:=ND.2,obl:=NE.1,obm:=NE.2,rl:=hi.kk.1,wl:=hi.kk.1}
  subst hc1;refine tw ?_;rw[ML ..];refine tw ?_;refine hP _ (Or.inl ⟨{s with ck:=s.vc,od:=s.sf,sb:=[],su:=0,st:=false,sp:=true,rb:=[],ru:=0,vc:=0,sf:=false,dr:=0,ss:=List.replicate 3 ses0,ob:=List.replicate 3 obj0,rl:=[],wl:=[]},?_,rfl⟩);exact {hi with ck:=hi.vc,sb:=OU a,su:=⟨Int.le_refl _,hi.kk.1⟩,rb:=OU a,st:=fun h=>zaU,ru:=⟨Int.le_refl _,hi.kk.1⟩,vc:=(by show 0<=(0:Int)/\(0:Int)<=1099511627776;decide),dr:=⟨Int.le_refl _,hi.kk.1⟩,ssl:=ND.1,ssm:=ND.2,obl:=NE.1,obm:=NE.2,rl:=hi.kk.1,wl:=hi.kk.1}
 rw[hc0];refine tw ?_;exact hP _ (Or.inr ⟨⟨[],[],[],0,0,0,0,false,[],0,0,[],0,0,0,0,0,0,[],false,false,[],0,0,false,0,[],[],[],[]⟩,28,A8,rfl⟩)
theorem oG(s:MS)(n:Int)(hi:Kp a k s)(hn : -1000000<=n/\n<=1000000):Ah E0 (.call 157 [av s,.i n] []) fun r=>(∃ t:MS,(Kp a k t/\t.st=s.st)/\r=some (.ret (.tup [av t,.i 0]) []))\/∃(t:MS) (e:Int),(e≠0)/\r=some (.ret (.tup [av t,.i e]) []):=by
 have hv:=hi.vc
 refine CU fun P hP=>tw ?_
 rcases bo (s.st) with hc0|hc0
 ·rw[hc0];refine tw ?_
  rcases AY n 1 with hc1|hc1
  ·refine tw ?_;exact hP _ (Or.inr ⟨⟨[],[],[],0,0,0,0,false,[],0,0,[],0,0,0,0,0,0,[],false,false,[],0,0,false,0,[],[],[],[]⟩,1,A8,rfl⟩)
  refine tw ?_
  rcases AY (1099511627776-n) s.vc with hc2|hc2
  ·refine tw ?_;exact hP _ (Or.inr ⟨⟨[],[],[],0,0,0,0,false,[],0,0,[],0,0,0,0,0,0,[],false,false,[],0,0,false,0,[],[],[],[]⟩,31,A8,rfl⟩)
  refine tw ?_
  rcases AX ((s.vc+n)/64) (s.vc/64) with hc3|hc3
  ·refine tw ?_;refine hP _ (Or.inl ⟨{s with ck:=s.vc+n,st:=true,vc:=s.vc+n,sf:=true},?_,rfl⟩);exact⟨{hi with ck:=zbb,st:=fun _=>hi.st hc0,vc:=zbb},hc0.symm⟩
  refine tw ?_;refine hP _ (Or.inl ⟨{s with st:=true,vc:=s.vc+n},?_,rfl⟩);exact⟨{hi with st:=fun _=>hi.st hc0,vc:=zbb},hc0.symm⟩
 rw[hc0];refine tw ?_;exact hP _ (Or.inr ⟨⟨[],[],[],0,0,0,0,false,[],0,0,[],0,0,0,0,0,0,[],false,false,[],0,0,false,0,[],[],[],[]⟩,28,A8,rfl⟩)
end
section
attribute [local irreducible] Cj Dt D9 DT DK BH Du Ey Fh FD Et D7 CV Df DX and' Dk DU CG Ba Bl CJ CS BK BM BB BG Dv G7 Dw EM Dl Bh CO Bz C9 Bo BD Bi BO Be BZ Dx Bf DL Bd BI D6 Dy fits Dz Dn AZ Ap BL
attribute [local irreducible] E5 CP Bq nameB ES Em Ar
theorem UK(s:MS)(m:Int){a k:Int}(hi:Kp a k s)(hk:k<=900):∀(n:Nat) (j:Int),0<=j->j+n=s.ss.length->Ah E0 (.loop 290 0 0 2 [(1,.i m),(2,.pa 0 0),(4,.pa 1 0),(7,.i j)] [(0,some (.var (cv s))),(1,some (.var [.nil,.nil,.nil,.i 0,.i 0,.i 0,.i 0,.b false,.nil,.i 0,.i 0,.nil,.i 0,.i 0,.i 0,.i 0,.i 0,.i 0,.nil,.b false,.b false,.nil,.i 0,.i 0,.b false,.i 0,.nil,.nil,.nil,.nil]))]) fun r=>(∃(t:MS) (h:Int),(Kp a (k+1) t/\768<=h/\h<771)/\r=some (.fin .ret 1 [(4,.pa 0 0),(5,.i h),(6,.i 0)] [(0,some (.var (cv t)))]))\/r=some (.fin (.exit 0) 1 [(4,.pa 0 0)] [(0,some (.var [.nil,.nil,.nil,.i 0,.i 0,.i 0,.i 0,.b false,.nil,.i 0,.i 0,.nil,.i 0,.i 0,.i 0,.i 0,.i 0,.i 0,.nil,.b false,.b false,.nil,.i 0,.i 0,.b false,.i 0,.nil,.nil,.nil,.nil]))])
 | 0,j,h0,hj=>by
  have hl:=hi.ssl
  refine CU fun P hP=>?_
  refine tw ?_;exact hP _ (Or.inr rfl)
 | n+1,j,h0,hj=>by
  have hl:=hi.ssl
  have ih:=UK s m hi hk n (j+1) zaa zaa
  refine CU fun P hP=>?_
  refine tw ?_;obtain⟨⟨x0a,x0b,x0c,x0d,x0e,x0f,x0g,x0h⟩,f0,g0⟩:=DF hi.ssm (i:=j) A8;simp only[GL,G6,Gn,FZ,CX,DI,DJ,D8] at f0;rw[g0];refine tw ?_
  rcases AL x0a 0 with hc1|hc1
  ·subst hc1;refine tw ?_;obtain⟨t2,b2_1,⟨h2_2,h2_3,h2_4⟩,yy2⟩:=UF s 16 hi A8 A8;refine Am yy2 ?_;obtain⟨l3,h3_1,yy3⟩:=SI;refine Am yy3 ?_;obtain⟨t4,⟨h4_1,h4_2,h4_3,h4_4⟩,yy4⟩:=EF t2 j m b2_1 l3 (-1) 31 0 0 false h2_2 (by(rw[Kp.ssl zat];omega)) zau
   refine Am yy4 ?_;exact hP _ (Or.inl ⟨t4,768+j,clo,rfl⟩)
  refine tw ?_;exact hP _ ih
theorem oH(s:MS)(m:Int)(hi:Kp a k s)(hk:k<=900):Ah E0 (.call 290 [av s,.i m] []) fun r=>(∃(t:MS) (h:Int),(Kp a (k+1) t/\768<=h/\h<771)/\r=some (.ret (.tup [av t,.i h,.i 0]) []))\/∃(t:MS) (h e:Int),(e≠0)/\r=some (.ret (.tup [av t,.i h,.i e]) []):=by
 have hl:=hi.ssl
 refine CU fun P hP=>tw ?_
 rcases AY m 1 with hc0|hc0
 ·refine tw ?_;exact hP _ (Or.inr ⟨⟨[],[],[],0,0,0,0,false,[],0,0,[],0,0,0,0,0,0,[],false,false,[],0,0,false,0,[],[],[],[]⟩,0,1,A8,rfl⟩)
 refine tw ?_
 rcases AY 3 m with hc1|hc1
 ·refine tw ?_;exact hP _ (Or.inr ⟨⟨[],[],[],0,0,0,0,false,[],0,0,[],0,0,0,0,0,0,[],false,false,[],0,0,false,0,[],[],[],[]⟩,0,1,A8,rfl⟩)
 refine tw ?_
 obtain(⟨t2,h2_1,⟨h2_2,h2_3,h2_4⟩,yy2⟩|yy2):=UK s m hi A8 (Int.toNat (↑s.ss.length-(0))) 0 A8 zaa
 ·refine Am yy2 ?_;exact hP _ (Or.inl ⟨t2,h2_1,clo,rfl⟩)
 refine Am yy2 ?_;exact hP _ (Or.inr ⟨⟨[],[],[],0,0,0,0,false,[],0,0,[],0,0,0,0,0,0,[],false,false,[],0,0,false,0,[],[],[],[]⟩,0,25,A8,rfl⟩)
end
section
attribute [local irreducible] Cj Dt D9 DT DK BH Du Ey Fh FD Et D7 CV Df DX and' Dk DU CG Ba Bl CJ CS BK BM BB BG Dv G7 Dw EM Dl Bh CO Bz C9 Bo BD Bi BO Be BZ Dx Bf DL Bd BI D6 Dy fits Dz Dn AZ Ap BL
attribute [local irreducible] Gf Ej E5 CP Bq nameB ES Em Ar
theorem Kp.sf_{s:MS}{b:Bool}(h:Kp a k s):Kp a k {s with sf:=b}:={h with}
theorem Kp.st_{s:MS}{b:Bool}(h:Kp a k s)(hb:s.st=b):Kp a k {s with st:=b}:={h with st:=fun e=>h.st (hb.trans e)}
theorem as0{y z:List UInt8}(hy:y.length<=2000)(hz:z.length<=2000):Qg [] [] y z []:=⟨by simp,by simp,hy,hz,by simp,by simp⟩
theorem asD{d d' x y z:List UInt8}{bs:List (List UInt8)}(h:Qg d x y z bs)(hd:d'.length<=2000):Qg d' x y z bs:=⟨hd,h.2⟩
theorem oI(s:MS)(c:Int)(n d:List UInt8)(u l m t:Int)(b:Bool)(ka s0 s1:Int)(dd:List UInt8)(na o:Int)(x y z:List UInt8)(bs:List (List UInt8))(hi:Kp a k s)(hx:DJ n d l)(ha:Qg dd x y z bs):Ah E0 (.call 317 [av s,seA c n d u l m t b,asA ka s0 s1 dd na o x y z bs] []) fun r=>∃(u' e:Int) (d':List UInt8),(Qg d' x y z bs)/\r=some (.ret (.tup [seA c n d u' l m t b,asA ka s0 s1 d' na o x y z bs,.i e]) []):=by
 unfold Qg at *
 have hr:=hi.rb
 refine CU fun P hP=>tw ?_
 rcases AL c 2 with hc0|hc0
 ·subst hc0;refine tw ?_;obtain⟨l1,e1_1,h1_2,yy1⟩:=Yb a s.rb s.ru s0 s1 hr;refine Am yy1 ?_
  rcases AX e1_1 0 with hc2|hc2
  ·refine tw ?_;exact hP _ ⟨u,e1_1,dd,A8,rfl⟩
  subst hc2;refine tw ?_
  rcases AY 0 (↑dd.length) with hc3|hc3
  ·refine tw ?_;rw[CY _ _ A8];refine tw ?_
   rcases Decidable.em (dd=l1) with hc4|hc4
   ·refine tw ?_
    rcases AX u (-1) with hc5|hc5
    ·refine tw ?_
     rcases AX u s.ru with hc6|hc6
     ·refine tw ?_;exact hP _ ⟨u,12,dd,A8,rfl⟩
     subst hc6;refine tw ?_;refine hP _ ⟨s.ru,0,l1,?_,rfl⟩;exact⟨by omega,ha.2⟩
    subst hc5;refine tw ?_;refine hP _ ⟨s.ru,0,l1,?_,rfl⟩;exact⟨by omega,ha.2⟩
   rw[decide_eq_false zam]
   conv=>arg 1;whnf
   try dsimp -iota -beta -eta -zeta only
   rw[drw zas];conv=>arg 1;whnf
   rw[Ae]
   conv=>arg 1;whnf
   try dsimp -iota -beta -eta -zeta only
   exact hP _ ⟨u,16,dd,A8,rfl⟩
  refine tw ?_
  rcases AX u (-1) with hc7|hc7
  ·refine tw ?_
   rcases AX u s.ru with hc8|hc8
   ·refine tw ?_;exact hP _ ⟨u,12,dd,A8,rfl⟩
   subst hc8;refine tw ?_;refine hP _ ⟨s.ru,0,l1,?_,rfl⟩;exact⟨by omega,ha.2⟩
  subst hc7;refine tw ?_;refine hP _ ⟨s.ru,0,l1,?_,rfl⟩;exact⟨by omega,ha.2⟩
 refine tw ?_
 rcases AY 0 (↑dd.length) with hc9|hc9
 ·refine tw ?_;exact hP _ ⟨u,0,dd,A8,rfl⟩
 refine tw ?_;obtain⟨l10,e10_1,h10_2,yy10⟩:=Yb a s.rb s.ru s0 s1 hr;refine Am yy10 ?_
 rcases AX e10_1 0 with hc11|hc11
 ·refine tw ?_;exact hP _ ⟨u,e10_1,dd,A8,rfl⟩
 subst hc11;refine tw ?_;refine hP _ ⟨u,0,l10,?_,rfl⟩;exact⟨by omega,ha.2⟩
theorem Qz(s:MS)(ka s0 s1:Int)(dd:List UInt8)(na o:Int)(x y z:List UInt8)(bs:List (List UInt8)){a k:Int}(hi:Kp a k s)(ha:Qg dd x y z bs):∀(n:Nat) (j:Int),0<=j->j+n=s.ix.length->Ah E0 (.loop 318 0 0 2 [(2,.pa 0 0),(3,.pa 1 0),(5,.i j)] [(0,some (.var (cv s))),(1,some (.var [.i ka,.i s0,.i s1,.sl .u8 dd,.i na,.i o,.sl .u8 x,.sl .u8 y,.sl .u8 z,.sl (.sl .u8) bs]))]) fun r=>(∃ e:Int,r=some (.fin .ret 0 [(4,.i e)] []))\/r=some (.fin (.exit 0) 0 [] [])
 | 0,j,h0,hj=>by
  have hl:=hi.ixl
  have hrl:=hi.rl
  have hkk:=hi.kk
  have hax:=ha.2.1
  have hay:=ha.2.2.1
  refine CU fun P hP=>?_
  refine tw ?_;exact hP _ (Or.inr rfl)
 | n+1,j,h0,hj=>by
  have hl:=hi.ixl
  have hrl:=hi.rl
  have hkk:=hi.kk
  have hax:=ha.2.1
  have hay:=ha.2.2.1
  have ih:=Qz s ka s0 s1 dd na o x y z bs hi ha n (j+1) zaa zaa
  refine CU fun P hP=>?_
  refine tw ?_;obtain⟨⟨x0a,x0b,x0c,x0d,x0e,x0f,x0g,x0h⟩,f0,g0⟩:=DF hi.ixm (i:=j) A8;simp only[GL,G6,Gn,FZ,CX,DI,DJ,D8] at f0;rw[g0];refine tw ?_;rw[Zu (hp:=A8) ..];refine tw ?_;rw[CY _ _ (by(simp only[Pn,A7,Ak,Ai,Ag,Ac,BN,AB,AC,AP,AO,Aj,LL] at *<;>omega))];refine tw ?_
  rcases Decidable.em (U8 {n:=x0a,kind:=x0b,attr:=x0c,size:=x0d,policy:=x0e,auth:=x0f,written:=x0g,data:=x0h}=y) with hc1|hc1
  ·refine tw ?_
   rcases bo x0g with rfl|rfl
   ·refine tw ?_;obtain⟨b3,yy3⟩:=KE s.rl x0a A8;refine Am yy3 ?_
    rcases bo b3 with rfl|rfl
    ·refine tw ?_;exact hP _ (Or.inl ⟨23,rfl⟩)
    refine tw ?_;obtain⟨x5,yy5⟩:=dO o x0h x A8 A8;refine Am yy5 ?_
    rcases bo x5 with rfl|rfl
    ·refine tw ?_;exact hP _ (Or.inl ⟨0,rfl⟩)
    refine tw ?_;exact hP _ (Or.inl ⟨16,rfl⟩)
   refine tw ?_;exact hP _ (Or.inl ⟨22,rfl⟩)
  refine tw ?_;exact hP _ ih
theorem kK(s:MS)(ka s0 s1:Int)(dd:List UInt8)(na o:Int)(x y z:List UInt8)(bs:List (List UInt8))(hi:Kp a k s)(ha:Qg dd x y z bs):Ah E0 (.call 318 [av s,asA ka s0 s1 dd na o x y z bs] []) fun r=>∃ e:Int,r=some (.ret (.i e) []):=by
 have hl:=hi.ixl
 refine CU fun P hP=>tw ?_
 obtain(⟨e0,yy0⟩|yy0):=Qz s ka s0 s1 dd na o x y z bs hi A8 (Int.toNat (↑s.ix.length-(0))) 0 A8 zaa
 ·refine Am yy0 ?_;exact hP _ ⟨e0,rfl⟩
 refine Am yy0 ?_;exact hP _ ⟨7,rfl⟩
theorem oJ(ka s0 s1:Int)(dd:List UInt8)(na o:Int)(x y z:List UInt8)(bs:List (List UInt8))(ha:Qg dd x y z bs):Ah E0 (.call 316 [asA ka s0 s1 dd na o x y z bs] []) fun r=>∃ e:Int,r=some (.ret (.i e) []):=by
 refine CU fun P hP=>tw ?_
 rcases AL ka 6 with hc0|hc0
 ·subst hc0;refine tw ?_;exact hP _ ⟨19,rfl⟩
 refine tw ?_
 rcases AL ka 9 with hc1|hc1
 ·subst hc1;refine tw ?_;exact hP _ ⟨19,rfl⟩
 refine tw ?_
 rcases AL ka 1 with hc2|hc2
 ·subst hc2;refine tw ?_
  rcases AL (↑dd.length) 0 with hc3|hc3
  ·refine tw ?_;obtain⟨l4,h4_1,yy4⟩:=SI;refine Am yy4 ?_;obtain⟨e5,yy5⟩:=MM 1 s0 s1 l4 na o x y z bs (by(exact asD ha zaa));refine Am yy5 ?_;exact hP _ ⟨e5,rfl⟩
  refine tw ?_;obtain⟨e6,yy6⟩:=MM 1 s0 s1 dd na o x y z bs A8;refine Am yy6 ?_;exact hP _ ⟨e6,rfl⟩
 refine tw ?_;obtain⟨e7,yy7⟩:=MM ka s0 s1 dd na o x y z bs A8;refine Am yy7 ?_;exact hP _ ⟨e7,rfl⟩
theorem Vz(s:MS)(c:Int)(n d:List UInt8)(u l m t:Int)(b:Bool)(q:Bool)(i0 s0 s1:Int)(dd:List UInt8)(na o:Int)(x y z:List UInt8)(bs:List (List UInt8))(hb:bs.length<=100)(hm:∀ b∈bs,b.length<=2000)(hd:d.length<=32):∀(n0:Nat) (j:Int) (w:Bool),0<=j->j+n0=bs.length->Ah E0 (.loop 310 0 0 4 [(3,.pa 0 0),(5,.pa 1 0),(6,.pa 2 0),(8,.i i0),(10,.pa 3 0),(11,.b q),(12,.i 0),(13,.b w),(14,.i j)] [(0,some (.var (cv s))),(1,some (.var [.i 8,.i s0,.i s1,.sl .u8 dd,.i na,.i o,.sl .u8 x,.sl .u8 y,.sl .u8 z,.sl (.sl .u8) bs])),(2,some (.var [.nil,.nil,.nil,.i 0,.i 0,.i 0,.i 0,.b false,.nil,.i 0,.i 0,.nil,.i 0,.i 0,.i 0,.i 0,.i 0,.i 0,.nil,.b false,.b false,.nil,.i 0,.i 0,.b false,.i 0,.nil,.nil,.nil,.nil])),(3,some (.var [.i c,.sl .u8 n,.sl .u8 d,.i u,.i l,.i m,.i t,.b b]))]) fun r=>∃ w:Bool,r=some (.fin (.exit 1) 4 [(3,.pa 0 0),(5,.pa 1 0),(6,.pa 2 0),(8,.i i0),(10,.pa 3 0),(11,.b q),(12,.i 0),(13,.b w)] [(0,some (.var (cv s))),(1,some (.var [.i 8,.i s0,.i s1,.sl .u8 dd,.i na,.i o,.sl .u8 x,.sl .u8 y,.sl .u8 z,.sl (.sl .u8) bs])),(2,some (.var [.nil,.nil,.nil,.i 0,.i 0,.i 0,.i 0,.b false,.nil,.i 0,.i 0,.nil,.i 0,.i 0,.i 0,.i 0,.i 0,.i 0,.nil,.b false,.b false,.nil,.i 0,.i 0,.b false,.i 0,.nil,.nil,.nil,.nil])),(3,some (.var [.i c,.sl .u8 n,.sl .u8 d,.i u,.i l,.i m,.i t,.b b]))])
 | 0,j,w,h0,hj=>by
  refine CU fun P hP=>?_
  refine tw ?_;exact hP _ ⟨w,rfl⟩
 | n0+1,j,w,h0,hj=>by
  have ih:=fun w=>Vz s c n d u l m t b q i0 s0 s1 dd na o x y z bs hb hm hd n0 (j+1) w zaa zaa
  refine CU fun P hP=>?_
  refine tw ?_
  rcases bo w with rfl|rfl
  ·refine tw ?_;exact hP _ (ih _)
  refine tw ?_;obtain⟨x1,f1,g1⟩:=DF hm (i:=j) A8;rw[g1];refine tw ?_;rw[CY _ _ A8];refine tw ?_;exact hP _ (ih _)
theorem LU(s:MS)(h ka s0 s1:Int)(dd:List UInt8)(na o:Int)(x y z:List UInt8)(bs:List (List UInt8))(hi:Kp a k s)(hh : -100000<=h/\h<=1099511627776)(ha:Qg dd x y z bs):Ah E0 (.call 310 [av s,.i h,asA ka s0 s1 dd na o x y z bs] []) fun r=>(∃ t:MS,(Kp a k t)/\r=some (.ret (.tup [av t,.i 0]) []))\/∃(t:MS) (e:Int),(e≠0)/\r=some (.ret (.tup [av t,.i e]) []):=by
 have hbl:=ha.2.2.2.2.1
 have hbm:=ha.2.2.2.2.2
 refine CU fun P hP=>tw ?_
 obtain⟨i0,⟨h0_1,h0_2⟩,yy0⟩:=Pq s h hi A8;refine Am yy0 ?_
 rcases AY i0 0 with hc1|hc1
 ·refine tw ?_;exact hP _ (Or.inr ⟨⟨[],[],[],0,0,0,0,false,[],0,0,[],0,0,0,0,0,0,[],false,false,[],0,0,false,0,[],[],[],[]⟩,8,A8,rfl⟩)
 refine tw ?_;obtain⟨e2,yy2⟩:=oJ ka s0 s1 dd na o x y z bs A8;refine Am yy2 ?_
 rcases AX e2 0 with hc3|hc3
 ·refine tw ?_;exact hP _ (Or.inr ⟨⟨[],[],[],0,0,0,0,false,[],0,0,[],0,0,0,0,0,0,[],false,false,[],0,0,false,0,[],[],[],[]⟩,e2,A8,rfl⟩)
 subst hc3;refine tw ?_;obtain⟨⟨x4a,x4b,x4c,x4d,x4e,x4f,x4g,x4h⟩,f4,g4⟩:=DF hi.ssm (i:=i0) A8;simp only[GL,G6,Gn,FZ,CX,DI,DJ,D8] at f4;rw[g4];refine tw ?_
 rcases AL ka 1 with hc5|hc5
 ·subst hc5;refine tw ?_;obtain⟨u'6,e6_1,d'6_2,h6_3,yy6⟩:=oI s x4a x4b x4c x4d x4e x4f x4g x4h 1 s0 s1 dd na o x y z bs hi A8 A8;refine Am yy6 ?_
  rcases AX e6_1 0 with hc7|hc7
  ·refine tw ?_;exact hP _ (Or.inr ⟨⟨[],[],[],0,0,0,0,false,[],0,0,[],0,0,0,0,0,0,[],false,false,[],0,0,false,0,[],[],[],[]⟩,e6_1,A8,rfl⟩)
  subst hc7;refine tw ?_;obtain⟨l8,h8_1,yy8⟩:=DW x4c 1 s0 s1 d'6_2 na o x y z bs A8 A8;refine Am yy8 ?_;obtain⟨t9,⟨h9_1,h9_2,h9_3,h9_4⟩,yy9⟩:=EF s i0 x4a x4b l8 u'6 x4e x4f x4g x4h hi A8 zau
  refine Am yy9 ?_;exact hP _ (Or.inl ⟨t9,A8,rfl⟩)
 refine tw ?_
 rcases AL ka 2 with hc10|hc10
 ·subst hc10;refine tw ?_;obtain⟨l11,h11_1,yy11⟩:=DW x4c 2 s0 s1 dd na o x y z bs A8 A8;refine Am yy11 ?_;obtain⟨t12,⟨h12_1,h12_2,h12_3,h12_4⟩,yy12⟩:=EF s i0 x4a x4b l11 x4d (BH BinOp.and x4e na) x4f x4g x4h hi A8 zau
  refine Am yy12 ?_;exact hP _ (Or.inl ⟨t12,A8,rfl⟩)
 refine tw ?_
 rcases AL ka 3 with hc13|hc13
 ·subst hc13;refine tw ?_
  rcases AL x4a 2 with hc14|hc14
  ·subst hc14;refine tw ?_
   rcases AX x4f 0 with hc15|hc15
   ·refine tw ?_
    rcases AX x4f na with hc16|hc16
    ·refine tw ?_;exact hP _ (Or.inr ⟨⟨[],[],[],0,0,0,0,false,[],0,0,[],0,0,0,0,0,0,[],false,false,[],0,0,false,0,[],[],[],[]⟩,16,A8,rfl⟩)
    subst hc16;refine tw ?_;obtain⟨l17,h17_1,yy17⟩:=DW x4c 3 s0 s1 dd x4f o x y z bs A8 A8;refine Am yy17 ?_;obtain⟨t18,⟨h18_1,h18_2,h18_3,h18_4⟩,yy18⟩:=EF s i0 2 x4b l17 x4d x4e x4f x4g x4h hi A8 zau
    refine Am yy18 ?_;exact hP _ (Or.inl ⟨t18,A8,rfl⟩)
   subst hc15;refine tw ?_;obtain⟨l19,h19_1,yy19⟩:=DW x4c 3 s0 s1 dd na o x y z bs A8 A8;refine Am yy19 ?_;obtain⟨t20,⟨h20_1,h20_2,h20_3,h20_4⟩,yy20⟩:=EF s i0 2 x4b l19 x4d x4e na x4g x4h hi A8 zau
   refine Am yy20 ?_;exact hP _ (Or.inl ⟨t20,A8,rfl⟩)
  refine tw ?_;obtain⟨l21,h21_1,yy21⟩:=DW x4c 3 s0 s1 dd na o x y z bs A8 A8;refine Am yy21 ?_;obtain⟨t22,⟨h22_1,h22_2,h22_3,h22_4⟩,yy22⟩:=EF s i0 x4a x4b l21 x4d x4e na x4g x4h hi A8 zau
  refine Am yy22 ?_;exact hP _ (Or.inl ⟨t22,A8,rfl⟩)
 refine tw ?_
 rcases AL ka 4 with hc23|hc23
 ·subst hc23;refine tw ?_
  rcases AL x4a 2 with hc24|hc24
  ·subst hc24;refine tw ?_;obtain⟨e25,yy25⟩:=kK s 4 s0 s1 dd na o x y z bs hi A8;refine Am yy25 ?_
   rcases AX e25 0 with hc26|hc26
   ·refine tw ?_;exact hP _ (Or.inr ⟨⟨[],[],[],0,0,0,0,false,[],0,0,[],0,0,0,0,0,0,[],false,false,[],0,0,false,0,[],[],[],[]⟩,e25,A8,rfl⟩)
   subst hc26;refine tw ?_;obtain⟨l27,h27_1,yy27⟩:=DW x4c 4 s0 s1 dd na o x y z bs A8 A8;refine Am yy27 ?_;obtain⟨t28,⟨h28_1,h28_2,h28_3,h28_4⟩,yy28⟩:=EF s i0 2 x4b l27 x4d x4e x4f x4g x4h hi A8 zau
   refine Am yy28 ?_;exact hP _ (Or.inl ⟨t28,A8,rfl⟩)
  refine tw ?_;obtain⟨l29,h29_1,yy29⟩:=DW x4c 4 s0 s1 dd na o x y z bs A8 A8;refine Am yy29 ?_;obtain⟨t30,⟨h30_1,h30_2,h30_3,h30_4⟩,yy30⟩:=EF s i0 x4a x4b l29 x4d x4e x4f x4g x4h hi A8 zau
  refine Am yy30 ?_;exact hP _ (Or.inl ⟨t30,A8,rfl⟩)
 refine tw ?_
 rcases AL ka 5 with hc31|hc31
 ·subst hc31;refine tw ?_
  rcases AL x4a 2 with hc32|hc32
  ·subst hc32;refine tw ?_
   rcases bo (s.sf) with hc33|hc33
   ·rw[hc33]
    conv=>arg 1;whnf
    rw[Ae]
    conv=>arg 1;whnf
    try dsimp -iota -beta -eta -zeta only
    rw[AU];obtain⟨b34,yy34⟩:=Yv o s.vc na;refine Am yy34 ?_
    rcases bo b34 with rfl|rfl
    ·refine tw ?_;obtain⟨l36,h36_1,yy36⟩:=DW x4c 5 s0 s1 dd na o x y z bs A8 A8;refine Am yy36 ?_;obtain⟨t37,⟨h37_1,h37_2,h37_3,h37_4⟩,yy37⟩:=EF {s with sf:=true} i0 2 x4b l36 x4d x4e x4f x4g x4h (by(exact Kp.sf_ zat)) A8 zau
     refine Am yy37 ?_;exact hP _ (Or.inl ⟨t37,A8,rfl⟩)
    refine tw ?_;exact hP _ (Or.inr ⟨⟨[],[],[],0,0,0,0,false,[],0,0,[],0,0,0,0,0,0,[],false,false,[],0,0,false,0,[],[],[],[]⟩,16,A8,rfl⟩)
   rw[hc33];refine tw ?_;exact hP _ (Or.inr ⟨⟨[],[],[],0,0,0,0,false,[],0,0,[],0,0,0,0,0,0,[],false,false,[],0,0,false,0,[],[],[],[]⟩,16,A8,rfl⟩)
  refine tw ?_;obtain⟨l38,h38_1,yy38⟩:=DW x4c 5 s0 s1 dd na o x y z bs A8 A8;refine Am yy38 ?_;obtain⟨t39,⟨h39_1,h39_2,h39_3,h39_4⟩,yy39⟩:=EF s i0 x4a x4b l38 x4d x4e x4f x4g x4h hi A8 zau
  refine Am yy39 ?_;exact hP _ (Or.inl ⟨t39,A8,rfl⟩)
 refine tw ?_
 rcases AL ka 7 with hc40|hc40
 ·subst hc40;refine tw ?_;obtain⟨l41,h41_1,yy41⟩:=DW x4c 7 s0 s1 dd na o x y z bs A8 A8;refine Am yy41 ?_;obtain⟨t42,⟨h42_1,h42_2,h42_3,h42_4⟩,yy42⟩:=EF s i0 x4a x4b l41 x4d x4e x4f x4g true hi A8 zau
  refine Am yy42 ?_;exact hP _ (Or.inl ⟨t42,A8,rfl⟩)
 refine tw ?_
 rcases AL ka 8 with hc43|hc43
 ·subst hc43;refine tw ?_;obtain⟨w44,yy44⟩:=Vz s x4a x4b x4c x4d x4e x4f x4g x4h (Ey x4a 2) i0 s0 s1 dd na o x y z bs A8 A8 A8 (Int.toNat (↑bs.length-(0))) 0 false A8 zaa;refine Am yy44 ?_
  rcases AL x4a 2 with hc45|hc45
  ·subst hc45;refine tw ?_
   rcases bo w44 with rfl|rfl
   ·refine tw ?_;obtain⟨l47,h47_1,yy47⟩:=DW x4c 8 s0 s1 dd na o x y z bs A8 A8;refine Am yy47 ?_;obtain⟨t48,⟨h48_1,h48_2,h48_3,h48_4⟩,yy48⟩:=EF s i0 2 x4b l47 x4d x4e x4f x4g x4h hi A8 zau
    refine Am yy48 ?_;exact hP _ (Or.inl ⟨t48,A8,rfl⟩)
   refine tw ?_;exact hP _ (Or.inr ⟨⟨[],[],[],0,0,0,0,false,[],0,0,[],0,0,0,0,0,0,[],false,false,[],0,0,false,0,[],[],[],[]⟩,16,A8,rfl⟩)
  rw[AA zaa]
  conv=>arg 1;whnf
  rw[Ae]
  conv=>arg 1;whnf
  rw[Ae]
  conv=>arg 1;whnf
  rw[EC zaa]
  conv=>arg 1;whnf
  try dsimp -iota -beta -eta -zeta only
  rw[AU];obtain⟨l49,h49_1,yy49⟩:=DW x4c 8 s0 s1 dd na o x y z bs A8 A8;refine Am yy49 ?_;obtain⟨t50,⟨h50_1,h50_2,h50_3,h50_4⟩,yy50⟩:=EF s i0 x4a x4b l49 x4d x4e x4f x4g x4h hi A8 zau
  refine Am yy50 ?_;exact hP _ (Or.inl ⟨t50,A8,rfl⟩)
 refine tw ?_;obtain⟨l51,h51_1,yy51⟩:=DW x4c ka s0 s1 dd na o x y z bs A8 A8;refine Am yy51 ?_;obtain⟨t52,⟨h52_1,h52_2,h52_3,h52_4⟩,yy52⟩:=EF s i0 x4a x4b l51 x4d x4e x4f x4g x4h hi A8 zau
 refine Am yy52 ?_;exact hP _ (Or.inl ⟨t52,A8,rfl⟩)
theorem dX(s:MS)(h:Int)(n f:List UInt8)(t:Int)(hi:Kp a k s)(hh : -100000<=h/\h<=1099511627776)(hn:n.length<=2000)(hf:f.length<=2000):Ah E0 (.call 292 [av s,.i h,.sl .u8 n,.sl .u8 f,.i t] []) fun r=>(∃ t:MS,(Kp a k t)/\r=some (.ret (.tup [av t,.i 0]) []))\/∃(t:MS) (e:Int),(e≠0)/\r=some (.ret (.tup [av t,.i e]) []):=by
 refine CU fun P hP=>tw ?_
 obtain⟨i0,⟨h0_1,h0_2⟩,yy0⟩:=Pq s h hi A8;refine Am yy0 ?_
 rcases AY i0 0 with hc1|hc1
 ·refine tw ?_;exact hP _ (Or.inr ⟨⟨[],[],[],0,0,0,0,false,[],0,0,[],0,0,0,0,0,0,[],false,false,[],0,0,false,0,[],[],[],[]⟩,8,A8,rfl⟩)
 refine tw ?_
 rcases AY t 0 with hc2|hc2
 ·refine tw ?_;exact hP _ (Or.inr ⟨⟨[],[],[],0,0,0,0,false,[],0,0,[],0,0,0,0,0,0,[],false,false,[],0,0,false,0,[],[],[],[]⟩,1,A8,rfl⟩)
 refine tw ?_
 rcases AY 1048576 t with hc3|hc3
 ·refine tw ?_;exact hP _ (Or.inr ⟨⟨[],[],[],0,0,0,0,false,[],0,0,[],0,0,0,0,0,0,[],false,false,[],0,0,false,0,[],[],[],[]⟩,1,A8,rfl⟩)
 refine tw ?_;obtain⟨e4,yy4⟩:=MM 6 0 0 [] 0 0 [] n f [] za8;refine Am yy4 ?_
 rcases AX e4 0 with hc5|hc5
 ·refine tw ?_;exact hP _ (Or.inr ⟨⟨[],[],[],0,0,0,0,false,[],0,0,[],0,0,0,0,0,0,[],false,false,[],0,0,false,0,[],[],[],[]⟩,e4,A8,rfl⟩)
 subst hc5;refine tw ?_;obtain⟨⟨x6a,x6b,x6c,x6d,x6e,x6f,x6g,x6h⟩,f6,g6⟩:=DF hi.ssm (i:=i0) A8;simp only[GL,G6,Gn,FZ,CX,DI,DJ,D8] at f6;rw[g6];refine tw ?_
 rcases AX t 0 with hc7|hc7
 ·refine tw ?_
  rcases AL x6g 0 with hc8|hc8
  ·subst hc8;rw[ER zaa]
   conv=>arg 1;whnf
   rw[Ae]
   conv=>arg 1;whnf
   rw[Ae]
   conv=>arg 1;whnf
   try dsimp -iota -beta -eta -zeta only
   rw[AU];obtain⟨l9,h9_1,yy9⟩:=DW x6c 6 0 0 [] 0 0 [] n f [] A8 za8;refine Am yy9 ?_;obtain⟨t10,⟨h10_1,h10_2,h10_3,h10_4⟩,yy10⟩:=EF s i0 x6a x6b l9 x6d x6e x6f (Cj s.vc t) x6h hi A8 zau
   refine Am yy10 ?_;exact hP _ (Or.inl ⟨t10,A8,rfl⟩)
  refine tw ?_
  rcases AY (Cj s.vc t) x6g with hc11|hc11
  ·refine tw ?_;obtain⟨l12,h12_1,yy12⟩:=DW x6c 6 0 0 [] 0 0 [] n f [] A8 za8;refine Am yy12 ?_;obtain⟨t13,⟨h13_1,h13_2,h13_3,h13_4⟩,yy13⟩:=EF s i0 x6a x6b l12 x6d x6e x6f (Cj s.vc t) x6h hi A8 zau
   refine Am yy13 ?_;exact hP _ (Or.inl ⟨t13,A8,rfl⟩)
  refine tw ?_;obtain⟨l14,h14_1,yy14⟩:=DW x6c 6 0 0 [] 0 0 [] n f [] A8 za8;refine Am yy14 ?_;obtain⟨t15,⟨h15_1,h15_2,h15_3,h15_4⟩,yy15⟩:=EF s i0 x6a x6b l14 x6d x6e x6f x6g x6h hi A8 zau
  refine Am yy15 ?_;exact hP _ (Or.inl ⟨t15,A8,rfl⟩)
 subst hc7;refine tw ?_;obtain⟨l16,h16_1,yy16⟩:=DW x6c 6 0 0 [] 0 0 [] n f [] A8 za8;refine Am yy16 ?_;obtain⟨t17,⟨h17_1,h17_2,h17_3,h17_4⟩,yy17⟩:=EF s i0 x6a x6b l16 x6d x6e x6f x6g x6h hi A8 zau
 refine Am yy17 ?_;exact hP _ (Or.inl ⟨t17,A8,rfl⟩)
theorem Yc(d f:List UInt8)(hd:d.length<=2000)(hf:f.length<=2000):Ah E0 (.call 147 [.sl .u8 d,.sl .u8 f] []) fun r=>∃ l:List UInt8,(l.length=32)/\r=some (.ret (.sl .u8 l) []):=by
 refine CU fun P hP=>tw ?_
 rw[F8 _ _ A8 A8];refine tw ?_;exact hP _ ⟨sha256 (Ar 9 [d,f]),A8,rfl⟩
theorem Yx(s:MS)(h p1 p2 p3:Int)(p4 p5 f g:List UInt8)(hi:Kp a k s)(hh : -100000<=h/\h<=1099511627776)(h4:p4.length<=2000)(h5:p5.length<=2000)(hf:f.length<=2000)(hg:g.length<=2000):Ah E0 (.call 293 [av s,.i h,.agg [.i p1,.i p2,.i p3,.sl .u8 p4,.sl .u8 p5],.sl .u8 f,.sl .u8 g] []) fun r=>(∃ t:MS,(Kp a k t)/\r=some (.ret (.tup [av t,.i 0]) []))\/∃(t:MS) (e:Int),(e≠0)/\r=some (.ret (.tup [av t,.i e]) []):=by
 refine CU fun P hP=>tw ?_
 obtain⟨i0,⟨h0_1,h0_2⟩,yy0⟩:=Pq s h hi A8;refine Am yy0 ?_
 rcases AY i0 0 with hc1|hc1
 ·refine tw ?_;exact hP _ (Or.inr ⟨⟨[],[],[],0,0,0,0,false,[],0,0,[],0,0,0,0,0,0,[],false,false,[],0,0,false,0,[],[],[],[]⟩,8,A8,rfl⟩)
 refine tw ?_;rw[JY ..];refine tw ?_
 rcases AX (Bv {kind:=p1,attr:=p2,height:=p3,policy:=p4,unique:=p5}) 0 with hc2|hc2
 ·refine tw ?_;exact hP _ (Or.inr ⟨⟨[],[],[],0,0,0,0,false,[],0,0,[],0,0,0,0,0,0,[],false,false,[],0,0,false,0,[],[],[],[]⟩,Bv {kind:=p1,attr:=p2,height:=p3,policy:=p4,unique:=p5},A8,rfl⟩)
 refine tw ?_
 rcases AX p1 2 with hc3|hc3
 ·refine tw ?_;exact hP _ (Or.inr ⟨⟨[],[],[],0,0,0,0,false,[],0,0,[],0,0,0,0,0,0,[],false,false,[],0,0,false,0,[],[],[],[]⟩,19,A8,rfl⟩)
 subst hc3;refine tw ?_
 rcases AY 128 (↑f.length) with hc4|hc4
 ·refine tw ?_;exact hP _ (Or.inr ⟨⟨[],[],[],0,0,0,0,false,[],0,0,[],0,0,0,0,0,0,[],false,false,[],0,0,false,0,[],[],[],[]⟩,4,A8,rfl⟩)
 refine tw ?_;obtain⟨⟨x5a,x5b,x5c,x5d,x5e,x5f,x5g,x5h⟩,f5,g5⟩:=DF hi.ssm (i:=i0) A8;simp only[GL,G6,Gn,FZ,CX,DI,DJ,D8] at f5;rw[g5];refine tw ?_
 rcases AL x5a 2 with hc6|hc6
 ·subst hc6;refine tw ?_;obtain⟨l7,h7_1,yy7⟩:=Yc x5c f A8 A8;refine Am yy7 ?_;rw[jV _ _ _ zaa];generalize Gf _ _ _=V;obtain⟨v1,v2⟩:=V;refine tw ?_
  rcases bo v2 with rfl|rfl
  ·refine tw ?_;rw[Ff _ _ _ _ _ A8 A8];refine tw ?_;obtain⟨l9,h9_1,yy9⟩:=DW x5c 9 0 0 [] 0 0 [] (nameB {kind:=2,attr:=p2,height:=p3,policy:=p4,unique:=p5}) f [] A8 (by(exact as0 (by rw[Ac];decide) zaa))
   refine Am yy9 ?_;obtain⟨t10,⟨h10_1,h10_2,h10_3,h10_4⟩,yy10⟩:=EF s i0 2 x5b l9 x5d x5e x5f x5g x5h hi A8 zau
   refine Am yy10 ?_;exact hP _ (Or.inl ⟨t10,A8,rfl⟩)
  refine tw ?_;exact hP _ (Or.inr ⟨⟨[],[],[],0,0,0,0,false,[],0,0,[],0,0,0,0,0,0,[],false,false,[],0,0,false,0,[],[],[],[]⟩,17,A8,rfl⟩)
 refine tw ?_;rw[Ff _ _ _ _ _ A8 A8];refine tw ?_;obtain⟨l11,h11_1,yy11⟩:=DW x5c 9 0 0 [] 0 0 [] (nameB {kind:=2,attr:=p2,height:=p3,policy:=p4,unique:=p5}) f [] A8 (by(exact as0 (by rw[Ac];decide) zaa))
 refine Am yy11 ?_;obtain⟨t12,⟨h12_1,h12_2,h12_3,h12_4⟩,yy12⟩:=EF s i0 x5a x5b l11 x5d x5e x5f x5g x5h hi A8 zau
 refine Am yy12 ?_;exact hP _ (Or.inl ⟨t12,A8,rfl⟩)
end
section
attribute [local irreducible] Cj Dt D9 DT DK BH Du Ey Fh FD Et D7 CV Df DX and' Dk DU CG Ba Bl CJ CS BK BM BB BG Dv G7 Dw EM Dl Bh CO Bz C9 Bo BD Bi BO Be BZ Dx Bf DL Bd BI D6 Dy fits Dz Dn AZ Ap BL
attribute [local irreducible] E5 CP Bq nameB ES Em Ar
variable (sd au:List (List UInt8))(en:List UInt8)(ac re rs ck:Int)(od:Bool)(sb:List (List (List UInt8)))(su mc:Int)(ix:List (El H5))(l1 l2 l3 l4 l5 l6:Int)(ks:List (El Ja))(st sp:Bool)(rb:List (List (List UInt8)))(ru vc:Int)(sf:Bool)(dr:Int)(ss:List (El sesT))(ob:List (El objT))(rl wl:List Int)
theorem RD(sd au:List (List UInt8))(en:List UInt8)(ac re rs ck:Int)(od:Bool)(sb:List (List (List UInt8)))(su mc:Int)(ix:List (El H5))(l1 l2 l3 l4 l5 l6:Int)(ks:List (El Ja))(st sp:Bool)(rb:List (List (List UInt8)))(ru vc:Int)(sf:Bool)(dr:Int)(ss:List (El sesT))(ob:List (El objT))(rl wl:List Int)(h:Int)(hl:ix.length<=1000)(hx:∀ x∈ix,GL x):∀(n j:Nat),j+n=ix.length->Yd h ix=j+Yd h (ix.drop j)->Y E0 (.loop 148 0 0 1 [(1,.i h),(2,.pa 0 0),(5,.i (j:Int))] [(0,some (.var (sC sd au en ac re rs ck od sb su mc ix l1 l2 l3 l4 l5 l6 ks st sp rb ru vc sf dr ss ob rl wl)))])=if Yd h ix<ix.length then some (.fin .ret 0 [(4,.i (Yd h ix:Int))] []) else some (.fin (.exit 0) 0 [] [])
 | 0,j,hj,hf=>by
  rw[if_neg (by rw[List.drop_eq_nil_of_le zaa,Yd] at hf;omega)]
  exact tq rfl
 | n+1,j,hj,hf=>by
  have hd:=List.drop_eq_getElem_cons (l:=ix) (i:=j) zaa
  rw[hd] at hf
  have hg:BZ ix (j:Int)=some (ix[j]'zaa):=GY zaa
  have hx1:=hx (ix[j]'zaa) (List.getElem_mem zaa)
  generalize ix[j]'zaa=x at *
  obtain⟨x1,x2,x3,x4,x5,x6,x7,x8⟩:=x;simp only[GL,CX] at hx1
  by_cases hk:h=256+x1
  ·rw[Yd,if_pos hk] at hf;rw[if_pos zaa,show Yd h ix=j from hf]
   refine to ?_;rw[hg];exact tq rfl
  ·have ih:=RD sd au en ac re rs ck od sb su mc ix l1 l2 l3 l4 l5 l6 ks st sp rb ru vc sf dr ss ob rl wl h hl hx n (j+1) zaa (by rw[hf,Yd,if_neg hk];omega)
   rw[show((j+1:Nat):Int)=(j:Int)+1 from by omega] at ih
   refine to ?_;rw[hg];refine tq ?_;exact ih
theorem Ea(h:Int)(hl:ix.length<=1000)(hx:∀ x∈ix,GL x):Y E0 (.call 148 [(sX sd au en ac re rs ck od sb su mc ix l1 l2 l3 l4 l5 l6 ks st sp rb ru vc sf dr ss ob rl wl),.i h] [])=some (.ret (.i (L9 h ix)) []):=by
 have e:=RD sd au en ac re rs ck od sb su mc ix l1 l2 l3 l4 l5 l6 ks st sp rb ru vc sf dr ss ob rl wl h hl hx ix.length 0 zaa zao
 rw[show((0:Nat):Int)=0 from rfl] at e
 unfold L9
 split at e
 ·rename_i hc;rw[if_pos hc];refine tq ?_;rw[e];exact tq rfl
 ·rename_i hc;rw[if_neg hc];refine tq ?_;rw[e];exact tq rfl
theorem UL(sd au:List (List UInt8))(en:List UInt8)(ac re rs ck:Int)(od:Bool)(sb:List (List (List UInt8)))(su mc:Int)(ix:List (El H5))(l1 l2 l3 l4 l5 l6:Int)(ks:List (El Ja))(st sp:Bool)(rb:List (List (List UInt8)))(ru vc:Int)(sf:Bool)(dr:Int)(ss:List (El sesT))(ob:List (El objT))(rl wl:List Int)(h:Int)(hl:ob.length<=1000):∀(n j:Nat),j+n=ob.length->(MP h ob<0\/(j:Int)<=MP h ob)->Y E0 (.loop 59 0 0 1 [(1,.i h),(2,.pa 0 0),(5,.i (j:Int))] [(0,some (.var (sC sd au en ac re rs ck od sb su mc ix l1 l2 l3 l4 l5 l6 ks st sp rb ru vc sf dr ss ob rl wl)))])=if 0<=MP h ob then some (.fin .ret 0 [(4,.i (MP h ob))] []) else some (.fin (.exit 0) 0 [] [])
 | 0,j,hj,hf=>by
  have:=SL h ob
  rw[if_neg zaa]
  exact tq rfl
 | n+1,j,hj,hf=>by
  have hq:=A35 (h:=h) (l:=ob) (j:=j) zaa
  have hg:BZ ob (j:Int)=some (ob[j]'zaa):=GY zaa
  generalize ob[j]'zaa=x at *
  obtain⟨⟨x1,x2,x3,x4,x5⟩,⟨y1,y2,y3⟩,z⟩:=x
  dsimp only at hq
  by_cases hk:MP h ob=(j:Int)
  ·obtain⟨h1,h2⟩:=hq.1 hk;rw[hk,if_pos zaa]
   refine to ?_;rw[hg];exact tq rfl
  ·have ih:=UL sd au en ac re rs ck od sb su mc ix l1 l2 l3 l4 l5 l6 ks st sp rb ru vc sf dr ss ob rl wl h hl n (j+1) zaa zaa
   have hq':¬(h=512+(j:Int)/\x1≠0):=fun e=>hk (hq.2 e)
   rw[show((j+1:Nat):Int)=(j:Int)+1 from by omega] at ih
   refine tq ?_
   rcases AL h (512+↑j) with hc0|hc0
   ·subst hc0;refine to ?_;rw[hg];refine tq ?_
    rcases AX x1 0 with hc1|hc1
    ·refine tq ?_
     (exfalso;exact hq' ⟨rfl,by assumption⟩)
    subst hc1;refine tq ?_;exact ih
   refine tq ?_;exact ih
theorem Hq(h:Int)(hl:ob.length<=1000):Y E0 (.call 59 [(sX sd au en ac re rs ck od sb su mc ix l1 l2 l3 l4 l5 l6 ks st sp rb ru vc sf dr ss ob rl wl),.i h] [])=some (.ret (.i (MP h ob)) []):=by
 have e:=UL sd au en ac re rs ck od sb su mc ix l1 l2 l3 l4 l5 l6 ks st sp rb ru vc sf dr ss ob rl wl h hl ob.length 0 zaa zaa
 rw[show((0:Nat):Int)=0 from rfl] at e
 have hlt:=SL h ob
 split at e
 ·refine tq ?_;rw[e];exact tq rfl
 ·rename_i hc;rw[show MP h ob = -1 by omega];refine tq ?_;rw[e];exact tq rfl
end
section
attribute [local irreducible] Cj Dt D9 DT DK BH Du Ey Fh FD Et D7 CV Df DX and' Dk DU CG Ba Bl CJ CS BK BM BB BG Dv G7 Dw EM Dl Bh CO Bz C9 Bo BD Bi BO Be BZ Dx Bf DL Bd BI D6 Dy fits Dz Dn AZ Ap BL
attribute [local irreducible] E5 CP Bq nameB ES Em Ar
theorem UM(c:Int)(hs:List Int)(az:List (El Aq))(is:List Int)(bs ns:List (List UInt8))(hn:ns.length<=10)(hm:∀ x∈ns,x.length<=32):∀(n:Nat) (j:Int) (acc:List UInt8),0<=j->j+n=ns.length->(acc.length:Int)<=32*j->Ah E0 (.loop 151 0 0 2 [(0,.sl (.sl .u8) ns),(3,.pa 0 0),(5,.nm 1),(6,.nil),(7,.i j)] [(0,some (.var [.i c,.sl .i64 hs,.sl Aq az,.sl .i64 is,.sl (.sl .u8) bs])),(1,some (.row 5 .u8 acc))]) fun r=>∃ acc':List UInt8,(acc'.length<=320)/\r=some (.fin (.exit 0) 1 [(3,.pa 0 0),(5,.sl .u8 acc'),(6,.nil)] [(0,some (.var [.i c,.sl .i64 hs,.sl Aq az,.sl .i64 is,.sl (.sl .u8) bs]))])
 | 0,j,acc,h0,hj,ha=>by
  refine CU fun P hP=>?_
  refine tw ?_;exact hP _ ⟨acc,A8,rfl⟩
 | n+1,j,acc,h0,hj,ha=>by
  have ih:=fun acc=>UM c hs az is bs ns hn hm n (j+1) acc zaa zaa
  refine CU fun P hP=>?_
  refine tw ?_;obtain⟨x0,f0,g0⟩:=DF hm (i:=j) A8;rw[g0];refine tw ?_;exact hP _ (ih _ (by rw[Aa,List.length_append];omega))
theorem UN(c:Int)(hs:List Int)(az:List (El Aq))(is:List Int)(bs:List (List UInt8))(al:List UInt8)(hn:is.length<=100):∀(n:Nat) (j:Int) (acc:List UInt8),0<=j->j+n=is.length->(acc.length:Int)<=8*j->Ah E0 (.loop 151 1 0 1 [(3,.pa 0 0),(5,.sl .u8 al),(6,.sl .u8 acc),(8,.i j)] [(0,some (.var [.i c,.sl .i64 hs,.sl Aq az,.sl .i64 is,.sl (.sl .u8) bs]))]) fun r=>∃ acc':List UInt8,(acc'.length<=800)/\r=some (.fin (.exit 2) 1 [(3,.pa 0 0),(5,.sl .u8 al),(6,.sl .u8 acc')] [(0,some (.var [.i c,.sl .i64 hs,.sl Aq az,.sl .i64 is,.sl (.sl .u8) bs]))])
 | 0,j,acc,h0,hj,ha=>by
  refine CU fun P hP=>?_
  refine tw ?_;exact hP _ ⟨acc,A8,rfl⟩
 | n+1,j,acc,h0,hj,ha=>by
  have ih:=fun acc=>UN c hs az is bs al hn n (j+1) acc zaa zaa
  refine CU fun P hP=>?_
  refine tw ?_;obtain⟨x0,m0,g0⟩:=EL (l:=is) (i:=j) zaa;rw[g0];refine tw ?_;rw[CQ _ _ _ A8];refine tw ?_;exact hP _ (ih _ (by rw[AP];omega))
theorem dY(c:Int)(hs:List Int)(az:List (El Aq))(is:List Int)(bs:List (List UInt8))(al:List UInt8)(hn:is.length<=100):Ah E0 (.loop 151 1 0 1 [(3,.pa 0 0),(5,.sl .u8 al),(6,.nil),(8,.i 0)] [(0,some (.var [.i c,.sl .i64 hs,.sl Aq az,.sl .i64 is,.sl (.sl .u8) bs]))]) fun r=>(∃ acc':List UInt8,(acc'.length<=800)/\r=some (.fin (.exit 2) 1 [(3,.pa 0 0),(5,.sl .u8 al),(6,.sl .u8 acc')] [(0,some (.var [.i c,.sl .i64 hs,.sl Aq az,.sl .i64 is,.sl (.sl .u8) bs]))]))\/r=some (.fin (.exit 2) 1 [(3,.pa 0 0),(5,.sl .u8 al),(6,.nil)] [(0,some (.var [.i c,.sl .i64 hs,.sl Aq az,.sl .i64 is,.sl (.sl .u8) bs]))]):=by
 have ih:=fun(h:0<is.length) acc=>UN c hs az is bs al hn (is.length-1) 1 acc zaa zaa
 refine CU fun P hP=>?_
 rw[Ae];conv=>arg 1;whnf
 rcases AY 0 (↑is.length) with hc0|hc0
 ·refine tw ?_;obtain⟨x1,m1,g1⟩:=EL (l:=is) (i:=0) zaa;rw[g1];refine tw ?_;rw[CQ _ _ _ A8];refine tw ?_;exact hP _ (.inl (ih zaa _ (by rw[AP,List.length_nil];omega)))
 refine tw ?_;exact hP _ (Or.inr rfl)
theorem VP(c:Int)(hs:List Int)(az:List (El Aq))(is:List Int)(bs ns:List (List UInt8))(hf:Few hs az is bs)(hn:ns.length<=10)(hm:∀ x∈ns,x.length<=32):Ah E0 (.call 151 [.sl (.sl .u8) ns,rq c hs az is bs] []) fun r=>∃ l:List UInt8,(l.length=32)/\r=some (.ret (.sl .u8 l) []):=by
 have hil:=hf.il
 have hbl:=hf.bl
 have hbm:=hf.bm
 refine CU fun P hP=>tw ?_
 obtain⟨acc'0,h0_1,yy0⟩:=UM c hs az is bs ns A8 A8 (Int.toNat (↑ns.length-(0))) 0 [] A8 zaa A8;refine Am yy0 ?_
 obtain(⟨acc'1,h1_1,yy1⟩|yy1):=dY c hs az is bs acc'0 A8
 ·refine Am yy1 ?_;obtain⟨l2,h2_1,yy2⟩:=F7 10 (BI [[EM c],acc'0,acc'1] bs) A8 zaL
  refine Am yy2 ?_;rw[H8 _ A8];refine tw ?_;exact hP _ ⟨sha256 l2,A8,rfl⟩
 refine Am yy1 ?_;obtain⟨l3,h3_1,yy3⟩:=F7 10 (BI [[EM c],acc'0,[]] bs) A8 zaL
 refine Am yy3 ?_;rw[H8 _ A8];refine tw ?_;exact hP _ ⟨sha256 l3,A8,rfl⟩
theorem VQ(v d x y:List UInt8)(hv:v.length<=2000)(hd:d.length<=2000)(hx:x.length<=2000)(hy:y.length<=2000):Ah E0 (.call 150 [.sl .u8 v,.sl .u8 d,.sl .u8 x,.sl .u8 y] []) fun r=>∃ l:List UInt8,(l.length<=32)/\r=some (.ret (.sl .u8 l) []):=by
 refine CU fun P hP=>tw ?_
 rw[Gl _ _ A8 A8];refine tw ?_;rw[cZ _ _ A8 A8];refine tw ?_;refine hP _ ⟨Xx v (Ar 10 [d,x,y]),?_,rfl⟩;(rw[BV];decide)
theorem RF(s:MS)(c:Int)(hs:List Int)(az:List (El Aq))(is:List Int)(bs:List (List UInt8)){a k:Int}(hi:Kp a k s)(hf:Few hs az is bs):∀(n:Nat) (j:Int) (acc:List (List UInt8)),0<=j->j+n=hs.length->(acc.length:Int)=j->(∀ x∈acc,x.length<=32)->Ah E0 (.loop 202 0 0 3 [(2,.pa 0 0),(3,.pa 1 0),(5,.nm 2),(6,.i j)] [(0,some (.var (cv s))),(1,some (.var [.i c,.sl .i64 hs,.sl Aq az,.sl .i64 is,.sl (.sl .u8) bs])),(2,some (.row 22 (.sl .u8) acc))]) fun r=>∃ ns:List (List UInt8),(ns.length<=10/\∀ x∈ns,x.length<=32)/\r=some (.fin (.exit 0) 0 [(5,.sl (.sl .u8) ns)] [])
 | 0,j,acc,h0,hj,ha,hm=>by
  have hl:=hf.hl
  refine CU fun P hP=>?_
  refine tw ?_;exact hP _ ⟨acc,clo,rfl⟩
 | n+1,j,acc,h0,hj,ha,hm=>by
  have hl:=hf.hl
  have ih:=fun acc=>RF s c hs az is bs hi hf n (j+1) acc zaa zaa
  have hq:∀ l:List UInt8,l.length<=32->((BI acc [l]).length:Int)=j+1/\∀ x∈BI acc [l],x.length<=32:=fun l hl=>by
   obtain⟨h1,h2⟩:=A5f (p:=fun x:List UInt8=>x.length<=32) hm (m:=[l]) (by simpa using hl);exact⟨by rw[h1];simp;omega,h2⟩
  refine CU fun P hP=>?_
  refine tw ?_;obtain⟨x0,m0,g0⟩:=EL (l:=hs) (i:=j) zaa;rw[g0];refine tw ?_;obtain⟨l1,h1_1,yy1⟩:=SH s x0 hi;refine Am yy1 ?_;exact hP _ (ih _ (hq _ zat).1 (hq _ zat).2)
theorem WA(s:MS)(c:Int)(hs:List Int)(az:List (El Aq))(is:List Int)(bs:List (List UInt8))(hi:Kp a k s)(hf:Few hs az is bs):Ah E0 (.call 202 [av s,rq c hs az is bs] []) fun r=>∃ ns:List (List UInt8),(ns.length<=10/\∀ x∈ns,x.length<=32)/\r=some (.ret (.sl (.sl .u8) ns) []):=by
 refine CU fun P hP=>tw ?_
 obtain⟨ns0,⟨h0_1,h0_2⟩,yy0⟩:=RF s c hs az is bs hi A8 (Int.toNat (↑hs.length-(0))) 0 [] A8 zaa A8 A8;refine Am yy0 ?_;exact hP _ ⟨ns0,clo,rfl⟩
theorem Pz(c:Int):Ah E0 (.call 278 [.i c] []) fun r=>∃ b:Bool,r=some (.ret (.b b) []):=by
 refine CU fun P hP=>tw ?_
 rcases AL c 24 with hc0|hc0
 ·subst hc0;refine tw ?_;exact hP _ ⟨true,rfl⟩
 refine tw ?_
 rcases AL c 28 with hc1|hc1
 ·subst hc1;refine tw ?_;exact hP _ ⟨true,rfl⟩
 refine tw ?_;exact hP _ ⟨Ey c 18,rfl⟩
theorem OV(b:Bool)(x y:Int):Ah E0 (.call 277 [.b b,.i x,.i y] []) fun r=>∃ z:Int,r=some (.ret (.i z) []):=by
 refine CU fun P hP=>tw ?_
 rcases bo b with rfl|rfl
 ·refine tw ?_;exact hP _ ⟨x,rfl⟩
 refine tw ?_;exact hP _ ⟨y,rfl⟩
theorem Ye(s:MS)(c h:Int)(hs:List Int)(az:List (El Aq))(is:List Int)(bs:List (List UInt8))(hi:Kp a k s)(hf:Few (h::hs) az is bs):Ah E0 (.call 250 [av s,rq c (h::hs) az is bs] []) fun r=>∃ b:Bool,r=some (.ret (.b b) []):=by
 have hl:=hi.ixl
 have hl':=hi.obl
 have hhl:=hf.hl
 have hxm:=hi.ixm
 refine CU fun P hP=>tw ?_
 obtain⟨b0,yy0⟩:=Pz c;refine Am yy0 ?_;rw[Hq (hl:=A8) ..];refine tw ?_
 rcases DD 0 (MP h s.ob) with hc1|hc1
 ·refine tw ?_
  have q2:=SL (h) (s.ob)
  obtain⟨⟨⟨x2a,x2b,x2c,x2d,x2e⟩,⟨x2f,x2g,x2h⟩,x2i⟩,f2,g2⟩:=DF hi.obm (i:=MP h s.ob) A8;simp only[GL,G6,Gn,FZ,CX,DI,DJ,D8] at f2;rw[g2];refine tw ?_;exact hP _ ⟨Fh (BH BinOp.and x2b 1) 0,rfl⟩
 refine tw ?_;rw[Ea (hl:=A8) (hx:=A8) ..];refine tw ?_
 rcases DD 0 (L9 h s.ix) with hc3|hc3
 ·refine tw ?_
  have q4:=Iq (h) (s.ix)
  obtain⟨⟨x4a,x4b,x4c,x4d,x4e,x4f,x4g,x4h⟩,f4,g4⟩:=DF hxm (i:=L9 h s.ix) A8;simp only[GL,G6,Gn,FZ,CX,DI,DJ,D8] at f4;rw[g4];refine tw ?_;obtain⟨z5,yy5⟩:=OV b0 1 2;refine Am yy5 ?_;exact hP _ ⟨Fh (BH BinOp.and x4c z5) 0,rfl⟩
 refine tw ?_
 rcases AL h 1 with hc6|hc6
 ·subst hc6;refine tw ?_
  rcases DD 23 c with hc7|hc7
  ·refine tw ?_
   rcases DD c 29 with hc8|hc8
   ·rw[Gj zaa]
    conv=>arg 1;whnf
    rw[Ae]
    conv=>arg 1;whnf
    rcases AY 1 (↑(1::hs).length) with hc9|hc9
    ·refine tw ?_;obtain⟨x10,m10,g10⟩:=EL (l:=1::hs) (i:=1) zaa;rw[g10];refine tw ?_;rw[Ea (hl:=A8) (hx:=A8) ..];refine tw ?_
     rcases DD 0 (L9 x10 s.ix) with hc11|hc11
     ·refine tw ?_
      have q12:=Iq (x10) (s.ix)
      obtain⟨⟨x12a,x12b,x12c,x12d,x12e,x12f,x12g,x12h⟩,f12,g12⟩:=DF hxm (i:=L9 x10 s.ix) A8;simp only[GL,G6,Gn,FZ,CX,DI,DJ,D8] at f12;rw[g12];refine tw ?_;obtain⟨z13,yy13⟩:=OV b0 16 32;refine Am yy13 ?_;exact hP _ ⟨Fh (BH BinOp.and x12c z13) 0,rfl⟩
     refine tw ?_;exact hP _ ⟨false,rfl⟩
    refine tw ?_;exact hP _ ⟨true,rfl⟩
   refine tw ?_;exact hP _ ⟨true,rfl⟩
  refine tw ?_;exact hP _ ⟨true,rfl⟩
 refine tw ?_;exact hP _ ⟨true,rfl⟩
theorem OW(s:MS)(h:Int)(hi:Kp a k s):Ah E0 (.call 248 [av s,.i h] []) fun r=>∃ b:Bool,r=some (.ret (.b b) []):=by
 have hv:=hi.vc
 have hk:=hi.lk
 refine CU fun P hP=>tw ?_
 rcases AL h 3 with hc0|hc0
 ·subst hc0;refine tw ?_;obtain⟨b1,yy1⟩:=ng s.l1 s.l2 s.l3 s.l4 s.l5 s.l6 s.vc;rw[yy1]
  conv=>arg 1;whnf
  exact hP _ ⟨DX b1,rfl⟩
 refine tw ?_;obtain⟨b2,yy2⟩:=Ol s h hi;refine Am yy2 ?_
 rcases bo b2 with rfl|rfl
 ·refine tw ?_;obtain⟨b4,yy4⟩:=dL s.l1 s.l2 s.l3 s.l4 s.l5 s.l6 s.vc A8 A8;refine Am yy4 ?_;exact hP _ ⟨b4,rfl⟩
 refine tw ?_;exact hP _ ⟨false,rfl⟩
theorem Q3(s:MS)(h:Int)(b:Bool)(hi:Kp a k s):Ah E0 (.call 249 [av s,.i h,.b b] []) fun r=>∃(t:MS) (e:Int),(Kp a k t)/\r=some (.ret (.tup [av t,.i e]) []):=by
 have hv:=hi.vc
 have hk:=hi.lk
 refine CU fun P hP=>tw ?_
 rcases bo b with rfl|rfl
 ·refine tw ?_;exact hP _ ⟨s,0,A8,rfl⟩
 refine tw ?_
 rcases AL h 3 with hc1|hc1
 ·subst hc1;refine tw ?_;obtain⟨m52,h2_1,yy2⟩:=jw s.l1 s.l2 s.l3 s.l4 s.l5 s.l6 s.vc A8 A8;refine Am yy2 ?_;refine hP _ ⟨{s with l5:=m52},9,?_,rfl⟩;exact {hi with lk:=by assumption}
 refine tw ?_;obtain⟨b3,yy3⟩:=Ol s h hi;refine Am yy3 ?_
 rcases bo b3 with rfl|rfl
 ·refine tw ?_;obtain⟨m15,m45_1,h5_2,yy5⟩:=nZ s.l1 s.l2 s.l3 s.l4 s.l5 s.l6 s.vc A8 A8;refine Am yy5 ?_;refine hP _ ⟨{s with l1:=m15,l4:=m45_1},9,?_,rfl⟩;exact {hi with lk:=by assumption}
 refine tw ?_;exact hP _ ⟨s,9,A8,rfl⟩
theorem xM(s:MS)(lo c h:Int)(hs:List Int)(az:List (El Aq))(is:List Int)(bs:List (List UInt8))(x:Int)(n d:List UInt8)(u l m t:Int)(b:Bool)(hi:Kp a k s)(hf:Few (h::hs) az is bs)(hlo:0<=lo/\lo<=4)(hd:d.length<=32):Ah E0 (.call 247 [av s,.i lo,rq c (h::hs) az is bs,seA x n d u l m t b] []) fun r=>∃(b:Bool) (e:Int),r=some (.ret (.tup [.b b,.i e]) []):=by
 have hl:=hi.ixl
 have hhl:=hf.hl
 refine CU fun P hP=>tw ?_
 rcases DD 0 h with hc0|hc0
 ·refine tw ?_
  rcases DD h 3 with hc1|hc1
  ·refine tw ?_;exact hP _ ⟨false,8,rfl⟩
  refine tw ?_;obtain⟨i2,⟨h2_1,h2_2⟩,yy2⟩:=Ha s h hi;refine Am yy2 ?_
  rcases DD 0 i2 with hc3|hc3
  ·refine tw ?_;obtain⟨⟨x4a,x4b,x4c,x4d,x4e,x4f,x4g,x4h⟩,f4,g4⟩:=DF hi.ixm (i:=i2) A8;simp only[GL,G6,Gn,FZ,CX,DI,DJ,D8] at f4;rw[g4];refine tw ?_;obtain⟨b5,yy5⟩:=Pz c;refine Am yy5 ?_;obtain⟨z6,yy6⟩:=OV b5 4 8;refine Am yy6 ?_
   rcases AL (BH BinOp.and x4c z6) 0 with hc7|hc7
   ·refine tw ?_;exact hP _ ⟨false,20,rfl⟩
   refine tw ?_;obtain⟨l8,h8_1,yy8⟩:=LQ s h hi;refine Am yy8 ?_
   rcases AL (↑l8.length) 0 with hc9|hc9
   ·refine tw ?_;exact hP _ ⟨false,11,rfl⟩
   refine tw ?_
   rcases AX t 0 with hc10|hc10
   ·refine tw ?_
    rcases DD t s.vc with hc11|hc11
    ·refine tw ?_;exact hP _ ⟨false,15,rfl⟩
    refine tw ?_
    rcases AL (BH BinOp.and (CV l (Bh lo).toNat) 1) 0 with hc12|hc12
    ·refine tw ?_;exact hP _ ⟨false,13,rfl⟩
    refine tw ?_
    rcases AX m 0 with hc13|hc13
    ·refine tw ?_
     rcases AX m c with hc14|hc14
     ·rw[Fa zaa]
      conv=>arg 1;whnf
      rw[Ae]
      conv=>arg 1;whnf
      exact hP _ ⟨false,14,rfl⟩
     subst hc14;rw[EC zaa]
     conv=>arg 1;whnf
     rw[Ae]
     conv=>arg 1;whnf
     rcases AX u (-1) with hc15|hc15
     ·refine tw ?_
      rcases AX u s.ru with hc16|hc16
      ·refine tw ?_;exact hP _ ⟨false,12,rfl⟩
      subst hc16;refine tw ?_;rw[CY _ _ A8];refine tw ?_
      rcases Decidable.em (d=l8) with hc17|hc17
      ·refine tw ?_;exact hP _ ⟨b,0,rfl⟩
      refine tw ?_;exact hP _ ⟨false,11,rfl⟩
     subst hc15;refine tw ?_;rw[CY _ _ A8];refine tw ?_
     rcases Decidable.em (d=l8) with hc18|hc18
     ·refine tw ?_;exact hP _ ⟨b,0,rfl⟩
     refine tw ?_;exact hP _ ⟨false,11,rfl⟩
    subst hc13;refine tw ?_
    rcases AX u (-1) with hc19|hc19
    ·rw[Fa zaa]
     conv=>arg 1;whnf
     rw[Ae]
     conv=>arg 1;whnf
     rcases AX u s.ru with hc20|hc20
     ·refine tw ?_;exact hP _ ⟨false,12,rfl⟩
     subst hc20;refine tw ?_;rw[CY _ _ A8];refine tw ?_
     rcases Decidable.em (d=l8) with hc21|hc21
     ·refine tw ?_;exact hP _ ⟨b,0,rfl⟩
     refine tw ?_;exact hP _ ⟨false,11,rfl⟩
    subst hc19;refine tw ?_;rw[CY _ _ A8];refine tw ?_
    rcases Decidable.em (d=l8) with hc22|hc22
    ·refine tw ?_;exact hP _ ⟨b,0,rfl⟩
    refine tw ?_;exact hP _ ⟨false,11,rfl⟩
   subst hc10;refine tw ?_
   rcases AL (BH BinOp.and (CV l (Bh lo).toNat) 1) 0 with hc23|hc23
   ·refine tw ?_;exact hP _ ⟨false,13,rfl⟩
   refine tw ?_
   rcases AX m 0 with hc24|hc24
   ·refine tw ?_
    rcases AX m c with hc25|hc25
    ·refine tw ?_;exact hP _ ⟨false,14,rfl⟩
    subst hc25;refine tw ?_
    rcases AX u (-1) with hc26|hc26
    ·refine tw ?_
     rcases AX u s.ru with hc27|hc27
     ·refine tw ?_;exact hP _ ⟨false,12,rfl⟩
     subst hc27;refine tw ?_;rw[CY _ _ A8];refine tw ?_
     rcases Decidable.em (d=l8) with hc28|hc28
     ·refine tw ?_;exact hP _ ⟨b,0,rfl⟩
     refine tw ?_;exact hP _ ⟨false,11,rfl⟩
    subst hc26;refine tw ?_;rw[CY _ _ A8];refine tw ?_
    rcases Decidable.em (d=l8) with hc29|hc29
    ·refine tw ?_;exact hP _ ⟨b,0,rfl⟩
    refine tw ?_;exact hP _ ⟨false,11,rfl⟩
   subst hc24;refine tw ?_
   rcases AX u (-1) with hc30|hc30
   ·rw[Fa zaa]
    conv=>arg 1;whnf
    rw[Ae]
    conv=>arg 1;whnf
    rcases AX u s.ru with hc31|hc31
    ·refine tw ?_;exact hP _ ⟨false,12,rfl⟩
    subst hc31;refine tw ?_;rw[CY _ _ A8];refine tw ?_
    rcases Decidable.em (d=l8) with hc32|hc32
    ·refine tw ?_;exact hP _ ⟨b,0,rfl⟩
    refine tw ?_;exact hP _ ⟨false,11,rfl⟩
   subst hc30;refine tw ?_;rw[CY _ _ A8];refine tw ?_
   rcases Decidable.em (d=l8) with hc33|hc33
   ·refine tw ?_;exact hP _ ⟨b,0,rfl⟩
   refine tw ?_;exact hP _ ⟨false,11,rfl⟩
  refine tw ?_;obtain⟨l34,h34_1,yy34⟩:=LQ s h hi;refine Am yy34 ?_
  rcases AL (↑l34.length) 0 with hc35|hc35
  ·refine tw ?_;exact hP _ ⟨false,11,rfl⟩
  refine tw ?_
  rcases AX t 0 with hc36|hc36
  ·refine tw ?_
   rcases DD t s.vc with hc37|hc37
   ·refine tw ?_;exact hP _ ⟨false,15,rfl⟩
   refine tw ?_
   rcases AL (BH BinOp.and (CV l (Bh lo).toNat) 1) 0 with hc38|hc38
   ·refine tw ?_;exact hP _ ⟨false,13,rfl⟩
   refine tw ?_
   rcases AX m 0 with hc39|hc39
   ·refine tw ?_
    rcases AX m c with hc40|hc40
    ·refine tw ?_;exact hP _ ⟨false,14,rfl⟩
    subst hc40;refine tw ?_
    rcases AX u (-1) with hc41|hc41
    ·rw[Fa zaa]
     conv=>arg 1;whnf
     rw[Ae]
     conv=>arg 1;whnf
     rcases AX u s.ru with hc42|hc42
     ·refine tw ?_;exact hP _ ⟨false,12,rfl⟩
     subst hc42;refine tw ?_;rw[CY _ _ A8];refine tw ?_
     rcases Decidable.em (d=l34) with hc43|hc43
     ·refine tw ?_;exact hP _ ⟨b,0,rfl⟩
     refine tw ?_;exact hP _ ⟨false,11,rfl⟩
    subst hc41;refine tw ?_;rw[CY _ _ A8];refine tw ?_
    rcases Decidable.em (d=l34) with hc44|hc44
    ·rw[decide_eq_true zam]
     conv=>arg 1;whnf
     rw[Ae]
     conv=>arg 1;whnf
     exact hP _ ⟨b,0,rfl⟩
    rw[decide_eq_false zam]
    conv=>arg 1;whnf
    rw[Ae]
    conv=>arg 1;whnf
    exact hP _ ⟨false,11,rfl⟩
   subst hc39;refine tw ?_
   rcases AX u (-1) with hc45|hc45
   ·refine tw ?_
    rcases AX u s.ru with hc46|hc46
    ·rw[Fa zaa]
     conv=>arg 1;whnf
     rw[Ae]
     conv=>arg 1;whnf
     exact hP _ ⟨false,12,rfl⟩
    subst hc46;refine tw ?_;rw[CY _ _ A8];refine tw ?_
    rcases Decidable.em (d=l34) with hc47|hc47
    ·refine tw ?_;exact hP _ ⟨b,0,rfl⟩
    refine tw ?_;exact hP _ ⟨false,11,rfl⟩
   subst hc45;refine tw ?_;rw[CY _ _ A8];refine tw ?_
   rcases Decidable.em (d=l34) with hc48|hc48
   ·refine tw ?_;exact hP _ ⟨b,0,rfl⟩
   refine tw ?_;exact hP _ ⟨false,11,rfl⟩
  subst hc36;refine tw ?_
  rcases AL (BH BinOp.and (CV l (Bh lo).toNat) 1) 0 with hc49|hc49
  ·refine tw ?_;exact hP _ ⟨false,13,rfl⟩
  refine tw ?_
  rcases AX m 0 with hc50|hc50
  ·refine tw ?_
   rcases AX m c with hc51|hc51
   ·refine tw ?_;exact hP _ ⟨false,14,rfl⟩
   subst hc51;refine tw ?_
   rcases AX u (-1) with hc52|hc52
   ·refine tw ?_
    rcases AX u s.ru with hc53|hc53
    ·refine tw ?_;exact hP _ ⟨false,12,rfl⟩
    subst hc53;refine tw ?_;rw[CY _ _ A8]
    conv=>arg 1;whnf
    rw[Ae]
    conv=>arg 1;whnf
    rw[EN];conv=>arg 1;whnf
    rcases Decidable.em (d=l34) with hc54|hc54
    ·refine tw ?_;exact hP _ ⟨b,0,rfl⟩
    refine tw ?_;exact hP _ ⟨false,11,rfl⟩
   subst hc52;refine tw ?_;rw[CY _ _ A8];refine tw ?_
   rcases Decidable.em (d=l34) with hc55|hc55
   ·refine tw ?_;exact hP _ ⟨b,0,rfl⟩
   refine tw ?_;exact hP _ ⟨false,11,rfl⟩
  subst hc50;refine tw ?_
  rcases AX u (-1) with hc56|hc56
  ·refine tw ?_
   rcases AX u s.ru with hc57|hc57
   ·refine tw ?_;exact hP _ ⟨false,12,rfl⟩
   subst hc57;refine tw ?_;rw[CY _ _ A8];refine tw ?_
   rcases Decidable.em (d=l34) with hc58|hc58
   ·refine tw ?_;exact hP _ ⟨b,0,rfl⟩
   refine tw ?_;exact hP _ ⟨false,11,rfl⟩
  subst hc56;refine tw ?_;rw[CY _ _ A8];refine tw ?_
  rcases Decidable.em (d=l34) with hc59|hc59
  ·refine tw ?_;exact hP _ ⟨b,0,rfl⟩
  refine tw ?_;exact hP _ ⟨false,11,rfl⟩
 refine tw ?_;obtain⟨i60,⟨h60_1,h60_2⟩,yy60⟩:=Ha s h hi;refine Am yy60 ?_
 rcases DD 0 i60 with hc61|hc61
 ·refine tw ?_;obtain⟨⟨x62a,x62b,x62c,x62d,x62e,x62f,x62g,x62h⟩,f62,g62⟩:=DF hi.ixm (i:=i60) A8;simp only[GL,G6,Gn,FZ,CX,DI,DJ,D8] at f62;rw[g62];refine tw ?_;obtain⟨b63,yy63⟩:=Pz c;refine Am yy63 ?_;obtain⟨z64,yy64⟩:=OV b63 4 8;rw[yy64]
  conv=>arg 1;whnf
  try dsimp -iota -beta -eta -zeta only
  rw[drw zas];conv=>arg 1;whnf
  rw[Ae]
  conv=>arg 1;whnf
  rcases AL (BH BinOp.and x62c z64) 0 with hc65|hc65
  ·refine tw ?_;exact hP _ ⟨false,20,rfl⟩
  refine tw ?_;obtain⟨l66,h66_1,yy66⟩:=LQ s h hi;refine Am yy66 ?_
  rcases AL (↑l66.length) 0 with hc67|hc67
  ·refine tw ?_;exact hP _ ⟨false,11,rfl⟩
  refine tw ?_
  rcases AX t 0 with hc68|hc68
  ·refine tw ?_
   rcases DD t s.vc with hc69|hc69
   ·refine tw ?_;exact hP _ ⟨false,15,rfl⟩
   refine tw ?_
   rcases AL (BH BinOp.and (CV l (Bh lo).toNat) 1) 0 with hc70|hc70
   ·refine tw ?_;exact hP _ ⟨false,13,rfl⟩
   refine tw ?_
   rcases AX m 0 with hc71|hc71
   ·refine tw ?_
    rcases AX m c with hc72|hc72
    ·refine tw ?_;exact hP _ ⟨false,14,rfl⟩
    subst hc72;refine tw ?_
    rcases AX u (-1) with hc73|hc73
    ·refine tw ?_
     rcases AX u s.ru with hc74|hc74
     ·refine tw ?_;exact hP _ ⟨false,12,rfl⟩
     subst hc74;refine tw ?_;rw[CY _ _ A8];refine tw ?_
     rcases Decidable.em (d=l66) with hc75|hc75
     ·refine tw ?_;exact hP _ ⟨b,0,rfl⟩
     refine tw ?_;exact hP _ ⟨false,11,rfl⟩
    subst hc73;refine tw ?_;rw[CY _ _ A8];refine tw ?_
    rcases Decidable.em (d=l66) with hc76|hc76
    ·refine tw ?_;exact hP _ ⟨b,0,rfl⟩
    refine tw ?_;exact hP _ ⟨false,11,rfl⟩
   subst hc71;refine tw ?_
   rcases AX u (-1) with hc77|hc77
   ·rw[Fa zaa]
    conv=>arg 1;whnf
    rw[Ae]
    conv=>arg 1;whnf
    rcases AX u s.ru with hc78|hc78
    ·refine tw ?_;exact hP _ ⟨false,12,rfl⟩
    subst hc78;refine tw ?_;rw[CY _ _ A8];refine tw ?_
    rcases Decidable.em (d=l66) with hc79|hc79
    ·refine tw ?_;exact hP _ ⟨b,0,rfl⟩
    refine tw ?_;exact hP _ ⟨false,11,rfl⟩
   subst hc77;refine tw ?_;rw[CY _ _ A8];refine tw ?_
   rcases Decidable.em (d=l66) with hc80|hc80
   ·refine tw ?_;exact hP _ ⟨b,0,rfl⟩
   refine tw ?_;exact hP _ ⟨false,11,rfl⟩
  subst hc68;refine tw ?_
  rcases AL (BH BinOp.and (CV l (Bh lo).toNat) 1) 0 with hc81|hc81
  ·refine tw ?_;exact hP _ ⟨false,13,rfl⟩
  refine tw ?_
  rcases AX m 0 with hc82|hc82
  ·refine tw ?_
   rcases AX m c with hc83|hc83
   ·refine tw ?_;exact hP _ ⟨false,14,rfl⟩
   subst hc83;refine tw ?_
   rcases AX u (-1) with hc84|hc84
   ·refine tw ?_
    rcases AX u s.ru with hc85|hc85
    ·refine tw ?_;exact hP _ ⟨false,12,rfl⟩
    subst hc85;refine tw ?_;rw[CY _ _ A8];refine tw ?_
    rcases Decidable.em (d=l66) with hc86|hc86
    ·refine tw ?_;exact hP _ ⟨b,0,rfl⟩
    refine tw ?_;exact hP _ ⟨false,11,rfl⟩
   subst hc84;refine tw ?_;rw[CY _ _ A8];refine tw ?_
   rcases Decidable.em (d=l66) with hc87|hc87
   ·refine tw ?_;exact hP _ ⟨b,0,rfl⟩
   refine tw ?_;exact hP _ ⟨false,11,rfl⟩
  subst hc82;refine tw ?_
  rcases AX u (-1) with hc88|hc88
  ·rw[Fa zaa]
   conv=>arg 1;whnf
   rw[Ae]
   conv=>arg 1;whnf
   rcases AX u s.ru with hc89|hc89
   ·refine tw ?_;exact hP _ ⟨false,12,rfl⟩
   subst hc89;refine tw ?_;rw[CY _ _ A8];refine tw ?_
   rcases Decidable.em (d=l66) with hc90|hc90
   ·refine tw ?_;exact hP _ ⟨b,0,rfl⟩
   refine tw ?_;exact hP _ ⟨false,11,rfl⟩
  subst hc88;refine tw ?_;rw[CY _ _ A8];refine tw ?_
  rcases Decidable.em (d=l66) with hc91|hc91
  ·rw[decide_eq_true zam]
   conv=>arg 1;whnf
   rw[Ae]
   conv=>arg 1;whnf
   exact hP _ ⟨b,0,rfl⟩
  rw[decide_eq_false zam]
  conv=>arg 1;whnf
  rw[Ae]
  conv=>arg 1;whnf
  exact hP _ ⟨false,11,rfl⟩
 refine tw ?_;obtain⟨l92,h92_1,yy92⟩:=LQ s h hi;refine Am yy92 ?_
 rcases AL (↑l92.length) 0 with hc93|hc93
 ·refine tw ?_;exact hP _ ⟨false,11,rfl⟩
 refine tw ?_
 rcases AX t 0 with hc94|hc94
 ·refine tw ?_
  rcases DD t s.vc with hc95|hc95
  ·refine tw ?_;exact hP _ ⟨false,15,rfl⟩
  refine tw ?_
  rcases AL (BH BinOp.and (CV l (Bh lo).toNat) 1) 0 with hc96|hc96
  ·refine tw ?_;exact hP _ ⟨false,13,rfl⟩
  refine tw ?_
  rcases AX m 0 with hc97|hc97
  ·refine tw ?_
   rcases AX m c with hc98|hc98
   ·refine tw ?_;exact hP _ ⟨false,14,rfl⟩
   subst hc98;refine tw ?_
   rcases AX u (-1) with hc99|hc99
   ·refine tw ?_
    rcases AX u s.ru with hc100|hc100
    ·refine tw ?_;exact hP _ ⟨false,12,rfl⟩
    subst hc100;refine tw ?_;rw[CY _ _ A8];refine tw ?_
    rcases Decidable.em (d=l92) with hc101|hc101
    ·refine tw ?_;exact hP _ ⟨b,0,rfl⟩
    refine tw ?_;exact hP _ ⟨false,11,rfl⟩
   subst hc99;refine tw ?_;rw[CY _ _ A8];refine tw ?_
   rcases Decidable.em (d=l92) with hc102|hc102
   ·rw[decide_eq_true zam]
    conv=>arg 1;whnf
    rw[Ae]
    conv=>arg 1;whnf
    exact hP _ ⟨b,0,rfl⟩
   refine tw ?_;exact hP _ ⟨false,11,rfl⟩
  subst hc97;refine tw ?_
  rcases AX u (-1) with hc103|hc103
  ·refine tw ?_
   rcases AX u s.ru with hc104|hc104
   ·refine tw ?_;exact hP _ ⟨false,12,rfl⟩
   subst hc104;refine tw ?_;rw[CY _ _ A8];refine tw ?_
   rcases Decidable.em (d=l92) with hc105|hc105
   ·rw[decide_eq_true zam]
    conv=>arg 1;whnf
    rw[Ae]
    conv=>arg 1;whnf
    exact hP _ ⟨b,0,rfl⟩
   rw[decide_eq_false zam]
   conv=>arg 1;whnf
   rw[Ae]
   conv=>arg 1;whnf
   exact hP _ ⟨false,11,rfl⟩
  subst hc103;refine tw ?_;rw[CY _ _ A8];refine tw ?_
  rcases Decidable.em (d=l92) with hc106|hc106
  ·refine tw ?_;exact hP _ ⟨b,0,rfl⟩
  refine tw ?_;exact hP _ ⟨false,11,rfl⟩
 subst hc94;refine tw ?_
 rcases AL (BH BinOp.and (CV l (Bh lo).toNat) 1) 0 with hc107|hc107
 ·refine tw ?_;exact hP _ ⟨false,13,rfl⟩
 refine tw ?_
 rcases AX m 0 with hc108|hc108
 ·refine tw ?_
  rcases AX m c with hc109|hc109
  ·refine tw ?_;exact hP _ ⟨false,14,rfl⟩
  subst hc109;refine tw ?_
  rcases AX u (-1) with hc110|hc110
  ·refine tw ?_
   rcases AX u s.ru with hc111|hc111
   ·refine tw ?_;exact hP _ ⟨false,12,rfl⟩
   subst hc111;refine tw ?_;rw[CY _ _ A8];refine tw ?_
   rcases Decidable.em (d=l92) with hc112|hc112
   ·rw[decide_eq_true zam]
    conv=>arg 1;whnf
    rw[Ae]
    conv=>arg 1;whnf
    exact hP _ ⟨b,0,rfl⟩
   rw[decide_eq_false zam]
   conv=>arg 1;whnf
   rw[Ae]
   conv=>arg 1;whnf
   exact hP _ ⟨false,11,rfl⟩
  subst hc110;refine tw ?_;rw[CY _ _ A8];refine tw ?_
  rcases Decidable.em (d=l92) with hc113|hc113
  ·refine tw ?_;exact hP _ ⟨b,0,rfl⟩
  refine tw ?_;exact hP _ ⟨false,11,rfl⟩
 subst hc108;refine tw ?_
 rcases AX u (-1) with hc114|hc114
 ·refine tw ?_
  rcases AX u s.ru with hc115|hc115
  ·refine tw ?_;exact hP _ ⟨false,12,rfl⟩
  subst hc115;refine tw ?_;rw[CY _ _ A8];refine tw ?_
  rcases Decidable.em (d=l92) with hc116|hc116
  ·refine tw ?_;exact hP _ ⟨b,0,rfl⟩
  refine tw ?_;exact hP _ ⟨false,11,rfl⟩
 subst hc114;refine tw ?_;rw[CY _ _ A8];refine tw ?_
 rcases Decidable.em (d=l92) with hc117|hc117
 ·refine tw ?_;exact hP _ ⟨b,0,rfl⟩
 refine tw ?_;exact hP _ ⟨false,11,rfl⟩
theorem kL(s:MS)(lo c h:Int)(hs:List Int)(y1:Int)(y2 y3:List UInt8)(az:List (El Aq))(is:List Int)(bs:List (List UInt8))(hi:Kp a k s)(hf:Few (h::hs) ((y1,y2,y3)::az) is bs)(hlo:0<=lo/\lo<=4)(hy:0<=y1/\y1<=65535):Ah E0 (.call 207 [av s,.i lo,rq c (h::hs) ((y1,y2,y3)::az) is bs] []) fun r=>∃(t:MS) (e:Int),(Kp a k t)/\r=some (.ret (.tup [av t,.i e]) []):=by
 have ham:y2.length<=1000/\y3.length<=1000:=hf.am (y1,y2,y3) List.mem_cons_self
 refine CU fun P hP=>tw ?_
 obtain⟨e0,c0_1,n0_2,d0_3,u0_4,l0_5,m0_6,t0_7,b0_8,⟨h0_9,h0_10,h0_11⟩,yy0⟩:=IV s y1 hi A8;refine Am yy0 ?_
 rcases AX y1 0 with hc1|hc1
 ·refine tw ?_
  rcases AX e0 0 with hc2|hc2
  ·refine tw ?_;exact hP _ ⟨s,8,A8,rfl⟩
  subst hc2
  replace h0_9:=h0_9 rfl
  refine tw ?_
  rcases AL c0_1 3 with hc3|hc3
  ·subst hc3;refine tw ?_;exact hP _ ⟨s,8,A8,rfl⟩
  refine tw ?_;obtain⟨l4,h4_1,yy4⟩:=Po s h hi;refine Am yy4 ?_
  rcases AL c0_1 2 with hc5|hc5
  ·subst hc5;refine tw ?_;obtain⟨b6,e6_1,yy6⟩:=xM s lo c h hs ((y1,y2,y3)::az) is bs 2 n0_2 d0_3 u0_4 l0_5 m0_6 t0_7 b0_8 hi A8 A8 A8;refine Am yy6 ?_
   rcases AX e6_1 0 with hc7|hc7
   ·refine tw ?_;exact hP _ ⟨s,e6_1,A8,rfl⟩
   subst hc7;rw[EC zaa]
   conv=>arg 1;whnf
   rw[Ae]
   conv=>arg 1;whnf
   rw[EN];conv=>arg 1;whnf
   rcases bo b6 with rfl|rfl
   ·refine tw ?_;obtain⟨b9,yy9⟩:=OW s h hi;refine Am yy9 ?_
    rcases bo b9 with rfl|rfl
    ·refine tw ?_;exact hP _ ⟨s,10,A8,rfl⟩
    refine tw ?_;rw[CY _ _ A8];refine tw ?_;obtain⟨t11,e11_1,h11_2,yy11⟩:=Q3 s h (decide (y3=l4)) hi;refine Am yy11 ?_;exact hP _ ⟨t11,e11_1,A8,rfl⟩
   refine tw ?_;exact hP _ ⟨s,0,A8,rfl⟩
  refine tw ?_;obtain⟨b12,yy12⟩:=Ye s c h hs ((y1,y2,y3)::az) is bs hi A8;rw[yy12]
  conv=>arg 1;whnf
  rw[Ae]
  conv=>arg 1;whnf
  rw[EN];conv=>arg 1;whnf
  rcases bo b12 with rfl|rfl
  ·refine tw ?_;obtain⟨b14,yy14⟩:=OW s h hi;refine Am yy14 ?_
   rcases bo b14 with rfl|rfl
   ·refine tw ?_;exact hP _ ⟨s,10,A8,rfl⟩
   refine tw ?_;obtain⟨ns16,⟨h16_1,h16_2⟩,yy16⟩:=WA s c (h::hs) ((y1,y2,y3)::az) is bs hi A8;refine Am yy16 ?_;obtain⟨l17,h17_1,yy17⟩:=VP c (h::hs) ((y1,y2,y3)::az) is bs ns16 A8 A8 A8;refine Am yy17 ?_;obtain⟨l18,h18_1,yy18⟩:=VQ l4 l17 n0_2 y2 A8 A8 A8 A8;refine Am yy18 ?_;rw[CY _ _ A8];refine tw ?_;obtain⟨t19,e19_1,h19_2,yy19⟩:=Q3 s h (decide (y3=l18)) hi;refine Am yy19 ?_;exact hP _ ⟨t19,e19_1,A8,rfl⟩
  refine tw ?_;exact hP _ ⟨s,20,A8,rfl⟩
 subst hc1;refine tw ?_;obtain⟨l20,h20_1,yy20⟩:=Po s h hi;refine Am yy20 ?_;obtain⟨b21,yy21⟩:=Ye s c h hs ((0,y2,y3)::az) is bs hi A8;refine Am yy21 ?_
 rcases bo b21 with rfl|rfl
 ·refine tw ?_;obtain⟨b23,yy23⟩:=OW s h hi;refine Am yy23 ?_
  rcases bo b23 with rfl|rfl
  ·refine tw ?_;exact hP _ ⟨s,10,A8,rfl⟩
  refine tw ?_;rw[CY _ _ A8];refine tw ?_;obtain⟨t25,e25_1,h25_2,yy25⟩:=Q3 s h (decide (y3=l20)) hi;refine Am yy25 ?_;exact hP _ ⟨t25,e25_1,A8,rfl⟩
 refine tw ?_;exact hP _ ⟨s,20,A8,rfl⟩
variable (sd au:List (List UInt8))(en:List UInt8)(ac re rs ck:Int)(od:Bool)(sb:List (List (List UInt8)))(su mc:Int)(ix:List (El H5))(l1 l2 l3 l4 l5 l6:Int)(ks:List (El Ja))(st sp:Bool)(rb:List (List (List UInt8)))(ru vc:Int)(sf:Bool)(dr:Int)(ss:List (El sesT))(ob:List (El objT))(rl wl:List Int)
theorem SN(h:Int)(hl:ss.length<=1000)(hh : -100000<=h/\h<=1099511627776):Y E0 (.call 197 [(sX sd au en ac re rs ck od sb su mc ix l1 l2 l3 l4 l5 l6 ks st sp rb ru vc sf dr ss ob rl wl),.i h] [])=some (.ret (.i (ssI h ss)) []):=by
 unfold ssI
 by_cases h0:768<=h
 ·rw[if_pos h0]
  by_cases h1:(h-768).toNat<ss.length
  ·rw[List.getElem?_eq_getElem h1]
   have hg:BZ ss (h-768)=some (ss[(h-768).toNat]'h1):=E8 zaa
   generalize ss[(h-768).toNat]'h1=x at *
   obtain⟨x1,x2,x3,x4,x5,x6,x7,x8⟩:=x
   dsimp only
   by_cases h2:x1=0
   ·rw[if_pos h2];refine tq ?_;rw[hg];exact tq rfl
   ·rw[if_neg h2];refine tq ?_;rw[hg];exact tq rfl
  ·rw[List.getElem?_eq_none zaa]
   dsimp only
   exact tq rfl
 ·rw[if_neg h0];exact tq rfl
theorem dZ(s:MS)(h:Int)(hi:Kp a k s)(hh : -100000<=h/\h<=1099511627776)(hz:0<=ssI h s.ss):Ah E0 (.call 145 [av s,.i h] []) fun r=>∃(c:Int) (n d:List UInt8) (u l m t:Int) (b:Bool),(0<=h-768/\h-768<3/\n.length<=32/\d.length<=32)/\r=some (.ret (.tup [seA c n d u l m t b,.i 0]) []):=by
 have hl:=hi.ssl
 have hq:=A1W hz
 rw[hl] at hq
 refine CU fun P hP=>tw ?_
 rw[SN (hl:=A8) (hh:=A8) ..];refine tw ?_;obtain⟨⟨x0a,x0b,x0c,x0d,x0e,x0f,x0g,x0h⟩,f0,g0⟩:=DF hi.ssm (i:=ssI h s.ss) A8;simp only[GL,G6,Gn,FZ,CX,DI,DJ,D8] at f0;rw[g0];refine tw ?_;exact hP _ ⟨x0a,x0b,x0c,x0d,x0e,x0f,x0g,x0h,A8,rfl⟩
theorem df(h:Int)(hl:ss.length<=1000)(hh : -100000<=h/\h<=1099511627776)(hz:ssI h ss<0):Y E0 (.call 145 [(sX sd au en ac re rs ck od sb su mc ix l1 l2 l3 l4 l5 l6 ks st sp rb ru vc sf dr ss ob rl wl),.i h] [])=some (.ret (.tup [seA 0 [] [] 0 0 0 0 false,.i 8]) []):=by
 refine tq ?_;rw[SN (hl:=A8) (hh:=A8) ..];exact tq rfl
theorem Yy(s:MS)(h:Int)(hi:Kp a k s)(hh : -100000<=h/\h<=1099511627776)(hz:0<=ssI h s.ss):Ah E0 (.call 135 [av s,.i h] []) fun r=>∃ t:MS,(Kp a k t/\t.ob=s.ob/\t.sd=s.sd/\t.au=s.au)/\r=some (.ret (.tup [av t,.i 0]) []):=by
 have hl:=hi.ssl
 have hq:=A1W hz
 rw[hl] at hq
 refine CU fun P hP=>tw ?_
 rw[SN (hl:=A8) (hh:=A8) ..];refine tw ?_
 obtain⟨t0,⟨h0_1,h0_2,h0_3,h0_4⟩,yy0⟩:=EF s (ssI h s.ss) 0 [] [] 0 0 0 0 false hi A8 (by(simp only[DJ,CX,DI,D8]<;>(simp only[A7,Ak,Ai,Ag,Ac,BN,AB,AC,AP,AO,Aj,LL] at *<;>omega)))
 refine Am yy0 ?_;exact hP _ ⟨t0,clo,rfl⟩
theorem dh(s:MS)(c:Int)(hs:List Int)(y1:Int)(y2 y3:List UInt8)(az:List (El Aq))(is:List Int)(bs:List (List UInt8))(hi:Kp a k s)(hk:k<=900)(hf:Few hs ((y1,y2,y3)::az) is bs)(hy:0<=y1/\y1<=65535):Ah E0 (.call 209 [av s,rq c hs ((y1,y2,y3)::az) is bs] []) fun r=>∃(t:MS) (ns:List (List UInt8)),(Kp a (k+1) t)/\r=some (.ret (.tup [av t,.sl (.sl .u8) ns]) []):=by
 have ham:y2.length<=1000/\y3.length<=1000:=hf.am (y1,y2,y3) List.mem_cons_self
 have hsl:=hi.ssl
 by_cases hz:0<=ssI y1 s.ss
 ·refine CU fun P hP=>tw ?_
  obtain⟨c',n',d',u',l',m',t',b',hx',e'⟩:=dZ s y1 hi zaa hz;rw[e'];refine tw ?_
  rcases AL c' 1 with hc0|hc0
  ·subst hc0;refine tw ?_;obtain⟨t1,b1_1,⟨h1_2,h1_3,h1_4⟩,yy1⟩:=UF s 16 hi A8 A8;refine Am yy1 ?_;obtain⟨t2,⟨h2_1,h2_2,h2_3,h2_4⟩,yy2⟩:=EF t1 (y1-768) 1 b1_1 d' u' l' m' t' b' h1_2 (by(rw[Kp.ssl zat];omega)) zau
   refine Am yy2 ?_;exact hP _ ⟨t2,[b1_1],A8,rfl⟩
  refine tw ?_
  rcases AL c' 2 with hc3|hc3
  ·subst hc3;refine tw ?_;obtain⟨q,hq,e''⟩:=Yy s y1 hi zaa hz;rw[e''];refine tw ?_;refine hP _ ⟨q,[],?_,rfl⟩;exact hq.1.up zaw
  refine tw ?_;exact hP _ ⟨s,[],clo,rfl⟩
 ·refine CU fun P hP=>tw ?_
  rw[df _ _ _ _ _ _ _ _ _ _ _ _ _ _ _ _ _ _ _ _ _ _ _ _ _ _ _ _ _ _ _ zaa zaa zaa];refine tw ?_
  rcases AL y1 0 with hc0|hc0
  ·subst hc0;refine tw ?_;exact hP _ ⟨s,[],clo,rfl⟩
  refine tw ?_;exact hP _ ⟨s,[],clo,rfl⟩
end
section
attribute [local irreducible] Cj Dt D9 DT DK BH Du Ey Fh FD Et D7 CV Df DX and' Dk DU CG Ba Bl CJ CS BK BM BB BG Dv G7 Dw EM Dl Bh CO Bz C9 Bo BD Bi BO Be BZ Dx Bf DL Bd BI D6 Dy fits Dz Dn AZ Ap BL
attribute [local irreducible] E5 CP Bq nameB ES Em Ar FK
theorem A1X(h k a t:Int)(o u d:List UInt8):Y E0 (.call 9 [.i h,.i k,.i a,.i t,.sl .u8 o,.sl .u8 u,.sl .u8 d] [])=some (.ret (.agg [.i 9,.sl .i64 [h],.sl Aq [],.sl .i64 [k,a,t],.sl (.sl .u8) [o,u,d]]) []):=by
 exact tq rfl
theorem uQ(c s:Int)(bs:List (List UInt8))(hs:0<=s/\s<=100000):Y E0 (.call 12 [.i c,.i s,.sl (.sl .u8) bs] [])=some (.ret (.agg [.i c,.sl .i64 [512+s],.sl Aq [],.sl .i64 [],.sl (.sl .u8) bs]) []):=by
 exact tq rfl
variable (sd au:List (List UInt8))(en:List UInt8)(ac re rs ck:Int)(od:Bool)(sb:List (List (List UInt8)))(su mc:Int)(ix:List (El H5))(l1 l2 l3 l4 l5 l6:Int)(ks:List (El Ja))(st sp:Bool)(rb:List (List (List UInt8)))(ru vc:Int)(sf:Bool)(dr:Int)(ss:List (El sesT))(ob:List (El objT))(rl wl:List Int)
theorem UO(e:Int):Y E0 (.call 30 [(sX sd au en ac re rs ck od sb su mc ix l1 l2 l3 l4 l5 l6 ks st sp rb ru vc sf dr ss ob rl wl),.i e] [])=some (.ret (.tup [(sX sd au en ac re rs ck od sb su mc ix l1 l2 l3 l4 l5 l6 ks st sp rb ru vc sf dr ss ob rl wl),.agg [.i e,.sl .i64 [],.sl (.sl .u8) [],.sl (.sl .u8) []]]) []):=by
 exact tq rfl
theorem KH(c h:Int)(hs:List Int)(az:List (El Aq))(is:List Int)(bs:List (List UInt8))(hl:hs.length<=1000):Y E0 (.call 29 [.agg [.i c,.sl .i64 (h::hs),.sl Aq az,.sl .i64 is,.sl (.sl .u8) bs]] [])=some (.ret (.i h) []):=by
 exact tq rfl
theorem kM(c x:Int)(hs:List Int)(az:List (El Aq))(is:List Int)(bs:List (List UInt8))(hl:is.length<=1000):Y E0 (.call 45 [.agg [.i c,.sl .i64 hs,.sl Aq az,.sl .i64 (x::is),.sl (.sl .u8) bs],.i 0] [])=some (.ret (.i x) []):=by
 exact tq rfl
theorem kN(c x y:Int)(hs:List Int)(az:List (El Aq))(is:List Int)(bs:List (List UInt8))(hl:is.length<=1000):Y E0 (.call 45 [.agg [.i c,.sl .i64 hs,.sl Aq az,.sl .i64 (x::y::is),.sl (.sl .u8) bs],.i 1] [])=some (.ret (.i y) []):=by
 exact tq rfl
theorem A1Y(c x y z:Int)(hs:List Int)(az:List (El Aq))(is:List Int)(bs:List (List UInt8))(hl:is.length<=1000):Y E0 (.call 45 [.agg [.i c,.sl .i64 hs,.sl Aq az,.sl .i64 (x::y::z::is),.sl (.sl .u8) bs],.i 2] [])=some (.ret (.i z) []):=by
 exact tq rfl
theorem Qa(c:Int)(x:List UInt8)(hs:List Int)(az:List (El Aq))(is:List Int)(bs:List (List UInt8))(hl:bs.length<=1000):Y E0 (.call 32 [.agg [.i c,.sl .i64 hs,.sl Aq az,.sl .i64 is,.sl (.sl .u8) (x::bs)],.i 0] [])=some (.ret (.sl .u8 x) []):=by
 exact tq rfl
theorem VR(c:Int)(x y:List UInt8)(hs:List Int)(az:List (El Aq))(is:List Int)(bs:List (List UInt8))(hl:bs.length<=1000):Y E0 (.call 32 [.agg [.i c,.sl .i64 hs,.sl Aq az,.sl .i64 is,.sl (.sl .u8) (x::y::bs)],.i 1] [])=some (.ret (.sl .u8 y) []):=by
 exact tq rfl
theorem VS(c:Int)(x y z:List UInt8)(hs:List Int)(az:List (El Aq))(is:List Int)(bs:List (List UInt8))(hl:bs.length<=1000):Y E0 (.call 32 [.agg [.i c,.sl .i64 hs,.sl Aq az,.sl .i64 is,.sl (.sl .u8) (x::y::z::bs)],.i 2] [])=some (.ret (.sl .u8 z) []):=by
 exact tq rfl
theorem VT(c k a t:Int)(hs:List Int)(az:List (El Aq))(o:List UInt8)(bs:List (List UInt8))(hl:bs.length<=1000):Y E0 (.call 31 [.agg [.i c,.sl .i64 hs,.sl Aq az,.sl .i64 [k,a,t],.sl (.sl .u8) (o::bs)]] [])=some (.ret (.agg [.i k,.i a,.i t,.sl .u8 o,.sl .u8 []]) []):=by
 refine tq ?_;rw[kM (hl:=A8) ..];refine tq ?_;rw[kN (hl:=A8) ..];refine tq ?_;rw[A1Y (hl:=A8) ..];refine tq ?_;rw[Qa (hl:=A8) ..];exact tq rfl
theorem RG(sd au:List (List UInt8))(en:List UInt8)(ac re rs ck:Int)(od:Bool)(sb:List (List (List UInt8)))(su mc:Int)(ix:List (El H5))(l1 l2 l3 l4 l5 l6:Int)(ks:List (El Ja))(st sp:Bool)(rb:List (List (List UInt8)))(ru vc:Int)(sf:Bool)(dr:Int)(ss:List (El sesT))(ob:List (El objT))(rl wl:List Int)(p1 p2 p3:Int)(p4 p5 s1 s2 s3:List UInt8)(hr:Int)(hl:ob.length<=1000):∀(n j:Nat),j+n=ob.length->EK ob=j+EK (ob.drop j)->Y E0 (.loop 36 0 0 3 [(2,.pa 0 0),(3,.pa 1 0),(4,.pa 2 0),(11,.sl objT ob),(12,.i (Be ob)),(13,.i (j:Int))] [(0,some (.var (sC sd au en ac re rs ck od sb su mc ix l1 l2 l3 l4 l5 l6 ks st sp rb ru vc sf dr ss ob rl wl))),(1,some (.var [.i p1,.i p2,.i p3,.sl .u8 p4,.sl .u8 p5,.sl .u8 s1,.sl .u8 s2,.sl .u8 s3,.i hr])),(2,some (.var [.nil,.nil,.nil,.i 0,.i 0,.i 0,.i 0,.b false,.nil,.i 0,.i 0,.nil,.i 0,.i 0,.i 0,.i 0,.i 0,.i 0,.nil,.b false,.b false,.nil,.i 0,.i 0,.b false,.i 0,.nil,.nil,.nil,.nil]))]) =
  if EK ob<ob.length then some (.fin .ret 3 [(2,.pa 0 0),(4,.pa 1 0),(5,.i (512+(EK ob:Int))),(6,.i 0)] [(0,some (.var [.sl (.sl .u8) sd,.sl (.sl .u8) au,.sl .u8 en,.i ac,.i re,.i rs,.i ck,.b od,.sl (.sl (.sl .u8)) sb,.i su,.i mc,.sl H5 ix,.i l1,.i l2,.i l3,.i l4,.i l5,.i l6,.sl Ja ks,.b st,.b sp,.sl (.sl (.sl .u8)) rb,.i ru,.i vc,.b sf,.i dr,.sl sesT ss,.nm 2,.sl .i64 rl,.sl .i64 wl])),(1,some (.var [.sl (.sl .u8) sd,.sl (.sl .u8) au,.sl .u8 en,.i ac,.i re,.i rs,.i ck,.b od,.sl (.sl (.sl .u8)) sb,.i su,.i mc,.sl H5 ix,.i l1,.i l2,.i l3,.i l4,.i l5,.i l6,.sl Ja ks,.b st,.b sp,.sl (.sl (.sl .u8)) rb,.i ru,.i vc,.b sf,.i dr,.sl sesT ss,.nm 2,.sl .i64 rl,.sl .i64 wl])),(2,some (.row 94 objT (ob.set (EK ob) ((p1,p2,p3,p4,p5),(s1,s2,s3),hr))))])
  else some (.fin (.exit 0) 2 [(2,.pa 0 0),(4,.pa 1 0)] [(0,some (.var (sC sd au en ac re rs ck od sb su mc ix l1 l2 l3 l4 l5 l6 ks st sp rb ru vc sf dr ss ob rl wl))),(1,some (.var [.nil,.nil,.nil,.i 0,.i 0,.i 0,.i 0,.b false,.nil,.i 0,.i 0,.nil,.i 0,.i 0,.i 0,.i 0,.i 0,.i 0,.nil,.b false,.b false,.nil,.i 0,.i 0,.b false,.i 0,.nil,.nil,.nil,.nil]))])
 | 0,j,hj,hf=>by
  rw[if_neg (by rw[List.drop_eq_nil_of_le zaa,EK] at hf;omega)]
  exact tq rfl
 | n+1,j,hj,hf=>by
  have hd:=List.drop_eq_getElem_cons (l:=ob) (i:=j) zaa
  rw[hd] at hf
  have hg:BZ ob (j:Int)=some (ob[j]'zaa):=GY zaa
  generalize ob[j]'zaa=x at *
  obtain⟨⟨k,a,t,o,u⟩,⟨y1,y2,y3⟩,h⟩:=x
  by_cases hk:k=0
  ·subst hk;rw[EK,if_pos rfl] at hf;rw[if_pos zaa,show EK ob=j from hf]
   have hs:∀ x,Bf ob (j:Int) x=ob.set j x:=fun x=>by rw[G5];simp
   refine to ?_;rw[hg];refine tq ?_;rw[A4P _ A8];refine to ?_;rw[hg];refine tq ?_
   (rw[hs])
  ·have ih:=RG sd au en ac re rs ck od sb su mc ix l1 l2 l3 l4 l5 l6 ks st sp rb ru vc sf dr ss ob rl wl p1 p2 p3 p4 p5 s1 s2 s3 hr hl n (j+1) zaa (by rw[hf,EK,if_neg hk];omega)
   rw[show((j+1:Nat):Int)=(j:Int)+1 from by omega] at ih
   refine to ?_;rw[hg];refine tq ?_;exact ih
theorem kP(p1 p2 p3:Int)(p4 p5 s1 s2 s3:List UInt8)(hr:Int)(hl:ob.length<=1000):Y E0 (.call 36 [(sX sd au en ac re rs ck od sb su mc ix l1 l2 l3 l4 l5 l6 ks st sp rb ru vc sf dr ss ob rl wl),.agg [.i p1,.i p2,.i p3,.sl .u8 p4,.sl .u8 p5,.sl .u8 s1,.sl .u8 s2,.sl .u8 s3,.i hr]] []) =
  if EK ob<ob.length then some (.ret (.tup [(sX sd au en ac re rs ck od sb su mc ix l1 l2 l3 l4 l5 l6 ks st sp rb ru vc sf dr ss (ob.set (EK ob) ((p1,p2,p3,p4,p5),(s1,s2,s3),hr)) rl wl),.i (512+(EK ob:Int)),.i 0]) []) else some (.ret (.tup [(sX sd au en ac re rs ck od sb su mc ix l1 l2 l3 l4 l5 l6 ks st sp rb ru vc sf dr ss ob rl wl),.i 0,.i 25]) []):=by
 have hq:=RG sd au en ac re rs ck od sb su mc ix l1 l2 l3 l4 l5 l6 ks st sp rb ru vc sf dr ss ob rl wl p1 p2 p3 p4 p5 s1 s2 s3 hr hl ob.length 0 zaa zao
 rw[show((0:Nat):Int)=0 from rfl] at hq
 by_cases hc:EK ob<ob.length
 ·rw[if_pos hc] at hq ⊢;refine tq ?_;rw[hq];exact tq rfl
 ·rw[if_neg hc] at hq ⊢;refine tq ?_;rw[hq];exact tq rfl
theorem RH(sd au:List (List UInt8))(en:List UInt8)(ac re rs ck:Int)(od:Bool)(sb:List (List (List UInt8)))(su mc:Int)(ix:List (El H5))(l1 l2 l3 l4 l5 l6:Int)(ks:List (El Ja))(st sp:Bool)(rb:List (List (List UInt8)))(ru vc:Int)(sf:Bool)(dr:Int)(ss:List (El sesT))(ob:List (El objT))(rl wl:List Int)(hl:ob.length<=1000):∀(n j:Nat),j+n=ob.length->EK ob=j+EK (ob.drop j)->Y E0 (.loop 124 0 0 1 [(1,.pa 0 0),(3,.i (j:Int))] [(0,some (.var (sC sd au en ac re rs ck od sb su mc ix l1 l2 l3 l4 l5 l6 ks st sp rb ru vc sf dr ss ob rl wl)))]) =
  if EK ob<ob.length then some (.fin .ret 0 [(2,.i (EK ob:Int))] []) else some (.fin (.exit 0) 0 [] [])
 | 0,j,hj,hf=>by
  rw[if_neg (by rw[List.drop_eq_nil_of_le zaa,EK] at hf;omega)]
  exact tq rfl
 | n+1,j,hj,hf=>by
  have hd:=List.drop_eq_getElem_cons (l:=ob) (i:=j) zaa
  rw[hd] at hf
  have hg:BZ ob (j:Int)=some (ob[j]'zaa):=GY zaa
  generalize ob[j]'zaa=x at *
  obtain⟨⟨k,a,t,o,u⟩,⟨y1,y2,y3⟩,h⟩:=x
  by_cases hk:k=0
  ·subst hk;rw[EK,if_pos rfl] at hf;rw[if_pos zaa,show EK ob=j from hf]
   refine to ?_;rw[hg];exact tq rfl
  ·have ih:=RH sd au en ac re rs ck od sb su mc ix l1 l2 l3 l4 l5 l6 ks st sp rb ru vc sf dr ss ob rl wl hl n (j+1) zaa (by rw[hf,EK,if_neg hk];omega)
   rw[show((j+1:Nat):Int)=(j:Int)+1 from by omega] at ih
   refine to ?_;rw[hg];refine tq ?_;exact ih
theorem UQ(hl:ob.length<=1000):Y E0 (.call 124 [(sX sd au en ac re rs ck od sb su mc ix l1 l2 l3 l4 l5 l6 ks st sp rb ru vc sf dr ss ob rl wl)] [])=some (.ret (.i (if EK ob<ob.length then(EK ob:Int) else -1)) []):=by
 have hq:=RH sd au en ac re rs ck od sb su mc ix l1 l2 l3 l4 l5 l6 ks st sp rb ru vc sf dr ss ob rl wl hl ob.length 0 zaa zao
 rw[show((0:Nat):Int)=0 from rfl] at hq
 by_cases hc:EK ob<ob.length
 ·rw[if_pos hc] at hq ⊢;refine tq ?_;rw[hq];exact tq rfl
 ·rw[if_neg hc] at hq ⊢;refine tq ?_;rw[hq];exact tq rfl
theorem di(k:Int)(p1 p2 p3:Int)(p4 p5 s1 s2 s3:List UInt8)(hr:Int)(hl:ob.length<=1000)(hk:0<=k/\k<ob.length):Y E0 (.call 125 [(sX sd au en ac re rs ck od sb su mc ix l1 l2 l3 l4 l5 l6 ks st sp rb ru vc sf dr ss ob rl wl),.i k,.agg [.i p1,.i p2,.i p3,.sl .u8 p4,.sl .u8 p5,.sl .u8 s1,.sl .u8 s2,.sl .u8 s3,.i hr]] [])=some (.ret ((sX sd au en ac re rs ck od sb su mc ix l1 l2 l3 l4 l5 l6 ks st sp rb ru vc sf dr ss (ob.set k.toNat ((p1,p2,p3,p4,p5),(s1,s2,s3),hr)) rl wl)) []):=by
 have hs:∀ x,Bf (BI [] ob) k x=ob.set k.toNat x:=fun x=>by rw[G5,Aa];rfl
 rw[Ae]
 conv=>lhs;whnf
 rw[DY zaz]
 conv=>lhs;whnf
 rw[Gy zaz]
 conv=>lhs;whnf
 rw[E8 zaz]
 conv=>lhs;whnf
 try dsimp -iota -beta -eta -zeta only
 simp only[NO];try with_reducible rfl
theorem VU(h:Int)(p1 p2 p3:Int)(p4 p5 s1 s2 s3:List UInt8)(hr:Int)(hl:ob.length<=1000)(hx:GK ob h=some ((p1,p2,p3,p4,p5),(s1,s2,s3),hr)):Y E0 (.call 85 [(sX sd au en ac re rs ck od sb su mc ix l1 l2 l3 l4 l5 l6 ks st sp rb ru vc sf dr ss ob rl wl),.i h] [])=some (.ret (.tup [.agg [.i p1,.i p2,.i p3,.sl .u8 p4,.sl .u8 p5,.sl .u8 s1,.sl .u8 s2,.sl .u8 s3,.i hr],.i 0]) []):=by
 have hh:512<=h:=by
  unfold GK at hx;split at hx
  ·assumption
  ·cases hx
 rw[GK,if_pos hh] at hx
 split at hx
 ·rename_i x hq
  split at hx
  ·cases hx
  ·rename_i hk
   obtain rfl:=Option.some.inj hx
   have hlt:=(List.getElem?_eq_some_iff.1 hq).1
   have hg:BZ ob (h-512)=some ((p1,p2,p3,p4,p5),(s1,s2,s3),hr):=by rw[NG];unfold lget0;rw[if_pos zaa];exact hq
   simp only at hk
   refine tq ?_;rw[hg];refine tq ?_;rw[hg]
   conv=>lhs;whnf
   try dsimp -iota -beta -eta -zeta only
   rw[Ae]
   conv=>lhs;whnf
 ·cases hx
theorem kQ(c h k a t:Int)(hs:List Int)(az:List (El Aq))(o u d:List UInt8)(hl:ob.length<=1000)(hsd:sd.length<=1000)(hsl:∀ l∈sd,l.length<=1000)(hhs:hs.length<=100)(ho:o.length<=50000)(hd:d.length<=50000):
  Y E0 (.call 8 [(sX sd au en ac re rs ck od sb su mc ix l1 l2 l3 l4 l5 l6 ks st sp rb ru vc sf dr ss ob rl wl),.agg [.i c,.sl .i64 (h::hs),.sl Aq az,.sl .i64 [k,a,t],.sl (.sl .u8) [o,u,d]]] [])=some (.ret (.tup [(sX sd au en ac re rs ck od sb su mc ix l1 l2 l3 l4 l5 l6 ks st sp rb ru vc sf dr ss ((En sd ob h k a t o u d).1) rl wl),.agg (wW (En sd ob h k a t o u d).2)]) []):=by
 unfold En
 by_cases hc:0<=h/\h<sd.length
 ·rw[if_pos hc]
  have hg:BZ sd h=some (sd.getD h.toNat []):=by rw[E8 zaa];simp[List.getD,List.getElem?_eq_getElem (show h.toNat<sd.length by omega)]
  have hm:(sd.getD h.toNat []).length<=1000:=by
   have:=hsl (sd[h.toNat]'zaa) (List.getElem_mem _)
   simpa [List.getD,List.getElem?_eq_getElem (show h.toNat<sd.length by omega)] using this
  unfold FK
  generalize sd.getD h.toNat []=seed at *
  have hlen:=PU (secret:=E5 seed MJ (Ar 0 [[EM k,EM a,EM t],o,d]) 32) (auth:=u) (data:=d) (p:=⟨k,a,t,o,[]⟩)
  have hdl:=Fq (key:=seed) (label:=MJ) (ctx:=Ar 0 [[EM k,EM a,EM t],o,d]) (n:=32) zaa
  have em:=A1O (E5 seed MJ (Ar 0 [[EM k,EM a,EM t],o,d]) 32) k a t o [] u d zaa
  generalize Bq (E5 seed MJ (Ar 0 [[EM k,EM a,EM t],o,d]) 32) ⟨k,a,t,o,[]⟩ u d=M at *
  obtain⟨⟨qk,qa,qt,qo,qu⟩,⟨qx,qy,qz⟩,e⟩:=M
  dsimp only[Yu,dG] at *
  by_cases he:e=0
  ·subst he;rw[if_neg zao]
   unfold IU
   by_cases hf:EK ob<ob.length
   ·rw[if_pos hf];refine tq ?_;rw[KH (hl:=A8) ..];refine tq ?_;rw[VT (hl:=A8) ..];refine tq ?_;rw[VS (hl:=A8) ..];refine tq ?_;rw[LK _ _ A8 A8];refine tq ?_;rw[hg];refine tq ?_;rw[show strOf {data := #[112,114,105,109,97,114,121]}=MJ from rfl,JV _ _ _ _ zaa zal zbe]
    refine tq ?_;rw[VR (hl:=A8) ..];refine tq ?_;rw[em];refine tq ?_;rw[kP _ _ _ _ _ _ _ _ _ _ _ _ _ _ _ _ _ _ _ _ _ _ _ _ _ _ _ _ _ _ _ _ _ _ _ _ _ _ _ hl,if_pos hf]
    conv=>lhs;whnf
    rw[Ae]
    conv=>lhs;whnf
    rw[EC zaa]
    conv=>lhs;whnf
    try dsimp -iota -beta -eta -zeta only
    rw[AU];rw[uO _ _ _ _ _ A8 A8];refine tq ?_;rw[jW _ _ _ _ _ A8 A8];exact tq rfl
   ·rw[if_neg hf];refine tq ?_;rw[KH (hl:=A8) ..];refine tq ?_;rw[VT (hl:=A8) ..];refine tq ?_;rw[VS (hl:=A8) ..];refine tq ?_;rw[LK _ _ A8 A8];refine tq ?_;rw[hg];refine tq ?_;rw[show strOf {data := #[112,114,105,109,97,114,121]}=MJ from rfl,JV _ _ _ _ zaa zal zbe]
    refine tq ?_;rw[VR (hl:=A8) ..];refine tq ?_;rw[em];refine tq ?_;rw[kP _ _ _ _ _ _ _ _ _ _ _ _ _ _ _ _ _ _ _ _ _ _ _ _ _ _ _ _ _ _ _ _ _ _ _ _ _ _ _ hl,if_neg hf]
    conv=>lhs;whnf
    rw[Ae]
    conv=>lhs;whnf
    rw[Fa zaa]
    conv=>lhs;whnf
    try dsimp -iota -beta -eta -zeta only
    rw[AU];rw[UO ..];exact tq rfl
  ·rw[if_pos he];refine tq ?_;rw[KH (hl:=A8) ..];refine tq ?_;rw[VT (hl:=A8) ..];refine tq ?_;rw[VS (hl:=A8) ..];refine tq ?_;rw[LK _ _ A8 A8];refine tq ?_;rw[hg];refine tq ?_;rw[show strOf {data := #[112,114,105,109,97,114,121]}=MJ from rfl,JV _ _ _ _ zaa zal zbe]
   refine tq ?_;rw[VR (hl:=A8) ..];refine tq ?_;rw[em];refine tq ?_;rw[UO ..];exact tq rfl
 ·rw[if_neg hc];refine tq ?_;rw[KH (hl:=A8) ..];refine tq ?_
  rcases AY h 0 with hc0|hc0
  ·refine tq ?_;rw[UO ..]
   conv=>lhs;whnf
  rw[G8 zaa]
  conv=>lhs;whnf
  rw[Gj zaz]
  conv=>lhs;whnf
  try dsimp -iota -beta -eta -zeta only
  rw[AU];rw[UO ..];exact tq rfl
end
section
attribute [local irreducible] Cj Dt D9 DT DK BH Du Ey Fh FD Et D7 CV Df DX and' Dk DU CG Ba Bl CJ CS BK BM BB BG Dv G7 Dw EM Dl Bh CO Bz C9 Bo BD Bi BO Be BZ Dx Bf DL Bd BI D6 Dy fits Dz Dn AZ Ap BL
attribute [local irreducible] E5 CP Bq nameB ES Em Ar FK En
variable (sd au:List (List UInt8))(en:List UInt8)(ac re rs ck:Int)(od:Bool)(sb:List (List (List UInt8)))(su mc:Int)(ix:List (El H5))(l1 l2 l3 l4 l5 l6:Int)(ks:List (El Ja))(st sp:Bool)(rb:List (List (List UInt8)))(ru vc:Int)(sf:Bool)(dr:Int)(ss:List (El sesT))(ob:List (El objT))(rl wl:List Int)
theorem EI(e:Int):Y E0 (.call 53 [(sX sd au en ac re rs ck od sb su mc ix l1 l2 l3 l4 l5 l6 ks st sp rb ru vc sf dr ss ob rl wl),.i e] [])=some (.ret (.tup [(sX sd au en ac re rs ck od sb su mc ix l1 l2 l3 l4 l5 l6 ks st sp rb ru vc sf dr ss ob rl wl),.agg [.i e,.sl .i64 [],.sl (.sl .u8) [],.sl (.sl .u8) []]]) []):=by
 exact tq rfl
theorem Nv(c k a t:Int)(hs:List Int)(az:List (El Aq))(o:List UInt8)(bs:List (List UInt8))(hl:bs.length<=1000):Y E0 (.call 121 [.agg [.i c,.sl .i64 hs,.sl Aq az,.sl .i64 [k,a,t],.sl (.sl .u8) (o::bs)]] [])=some (.ret (.agg [.i k,.i a,.i t,.sl .u8 o,.sl .u8 []]) []):=by
 exact tq rfl
theorem A1Z(c h k a t:Int)(hs:List Int)(az:List (El Aq))(o u d:List UInt8)(hl:ob.length<=1000)(hsd:sd.length<=1000)(hsl:∀ l∈sd,l.length<=1000)(hhs:hs.length<=100)(ho:o.length<=50000)(hd:d.length<=50000)(hc:0<=h/\h<sd.length):
  Y E0 (.call 60 [(sX sd au en ac re rs ck od sb su mc ix l1 l2 l3 l4 l5 l6 ks st sp rb ru vc sf dr ss ob rl wl),.agg [.i c,.sl .i64 (h::hs),.sl Aq az,.sl .i64 [k,a,t],.sl (.sl .u8) [o,u,d]]] [])=some (.ret (.tup [(sX sd au en ac re rs ck od sb su mc ix l1 l2 l3 l4 l5 l6 ks st sp rb ru vc sf dr ss ((En sd ob h k a t o u d).1) rl wl),.agg (wW (En sd ob h k a t o u d).2)]) []):=by
 unfold En
 rw[if_pos hc]
 have hg:BZ sd h=some (sd.getD h.toNat []):=by rw[E8 zaa];simp[List.getD,List.getElem?_eq_getElem (show h.toNat<sd.length by omega)]
 have hm:(sd.getD h.toNat []).length<=1000:=by
  have:=hsl (sd[h.toNat]'zaa) (List.getElem_mem _)
  simpa [List.getD,List.getElem?_eq_getElem (show h.toNat<sd.length by omega)] using this
 unfold FK
 generalize sd.getD h.toNat []=seed at *
 have hlen:=PU (secret:=E5 seed MJ (Ar 0 [[EM k,EM a,EM t],o,d]) 32) (auth:=u) (data:=d) (p:=⟨k,a,t,o,[]⟩)
 have hdl:=Fq (key:=seed) (label:=MJ) (ctx:=Ar 0 [[EM k,EM a,EM t],o,d]) (n:=32) zaa
 have em:=SE (E5 seed MJ (Ar 0 [[EM k,EM a,EM t],o,d]) 32) k a t o [] u d zaa
 generalize Bq (E5 seed MJ (Ar 0 [[EM k,EM a,EM t],o,d]) 32) ⟨k,a,t,o,[]⟩ u d=M at *
 obtain⟨⟨qk,qa,qt,qo,qu⟩,⟨qx,qy,qz⟩,e⟩:=M
 dsimp only[Yu,dG] at *
 by_cases he:e=0
 ·subst he;rw[if_neg zao]
  unfold IU
  have hfl:=VJ ob
  by_cases hf:EK ob<ob.length
  ·rw[if_pos hf];refine tq ?_;rw[Nv (hl:=A8) ..];refine tq ?_;rw[Gl _ _ A8 A8];refine tq ?_;rw[hg];refine tq ?_;rw[show strOf {data := #[112,114,105,109,97,114,121]}=MJ from rfl,EZ _ _ _ _ zaa zal zbe]
   refine tq ?_;rw[em];refine tq ?_;rw[UQ _ _ _ _ _ _ _ _ _ _ _ _ _ _ _ _ _ _ _ _ _ _ _ _ _ _ _ _ _ _ hl,if_pos hf];refine tq ?_;rw[di (hl:=A8) (hk:=A8) ..];refine tp ?_;rw[I8 _ _ _ _ _ A8 A8];refine tp ?_;rw[Ff _ _ _ _ _ A8 A8];refine tq ?_
   rfl
  ·rw[if_neg hf];refine tq ?_;rw[Nv (hl:=A8) ..];refine tq ?_;rw[Gl _ _ A8 A8];refine tq ?_;rw[hg];refine tq ?_;rw[show strOf {data := #[112,114,105,109,97,114,121]}=MJ from rfl,EZ _ _ _ _ zaa zal zbe]
   refine tq ?_;rw[em];refine tq ?_;rw[UQ _ _ _ _ _ _ _ _ _ _ _ _ _ _ _ _ _ _ _ _ _ _ _ _ _ _ _ _ _ _ hl,if_neg hf];refine tq ?_;rw[EI ..];exact tq rfl
 ·rw[if_pos he];refine tq ?_;rw[Nv (hl:=A8) ..];refine tq ?_;rw[Gl _ _ A8 A8];refine tq ?_;rw[hg];refine tq ?_;rw[show strOf {data := #[112,114,105,109,97,114,121]}=MJ from rfl,EZ _ _ _ _ zaa zal zbe]
  refine tq ?_;rw[em];refine tq ?_;rw[EI ..];exact tq rfl
theorem dm(c h:Int)(hs:List Int)(az:List (El Aq))(is:List Int)(bs:List (List UInt8))(p1 p2 p3:Int)(p4 p5 s1 s2 s3:List UInt8)(hr:Int)(hl:ob.length<=1000)(hhs:hs.length<=100)(hx:GK ob h=some ((p1,p2,p3,p4,p5),(s1,s2,s3),hr))(h3:p1=3):
  Y E0 (.call 24 [(sX sd au en ac re rs ck od sb su mc ix l1 l2 l3 l4 l5 l6 ks st sp rb ru vc sf dr ss ob rl wl),.agg [.i c,.sl .i64 (h::hs),.sl Aq az,.sl .i64 is,.sl (.sl .u8) bs]] [])=some (.ret (.tup [(sX sd au en ac re rs ck od sb su mc ix l1 l2 l3 l4 l5 l6 ks st sp rb ru vc sf dr ss ob rl wl),.agg [.i 0,.sl .i64 [],.sl (.sl .u8) [s3],.sl (.sl .u8) []]]) []):=by
 refine tq ?_;rw[KH (hl:=A8) ..];refine tq ?_;rw[VU _ _ _ _ _ _ _ _ _ _ _ _ _ _ _ _ _ _ _ _ _ _ _ _ _ _ _ _ _ _ _ _ _ _ _ _ _ _ _ _ hl hx];exact tq rfl
theorem Yf:Y E0 (.call 6 [] [])=some (.ret (.b true) []):=by
 obtain⟨S,-,hS,hp⟩:=uK (sd:=OO A4l) (ob:=List.replicate 3 obj0) (h:=0) (k:=3) (a:=1) (t:=0) (o:=[]) (auth:=[]) (d:=[UInt8.ofNat 5]) zal zal zal zao zao (fun _=>rfl);rw[show EK (List.replicate 3 obj0)=0 from rfl] at hp
 generalize ES ⟨3,1,0,[],Em 3 0 ⟨[],S,[UInt8.ofNat 5]⟩⟩=B1 at hp
 generalize nameB ⟨3,1,0,[],Em 3 0 ⟨[],S,[UInt8.ofNat 5]⟩⟩=B2 at hp
 generalize Em 3 0 ⟨[],S,[UInt8.ofNat 5]⟩=U at hp
 have hx:GK ((List.replicate 3 obj0).set 0 ((3,1,0,[],U),([],S,[UInt8.ofNat 5]),0)) 512=some ((3,1,0,[],U),([],S,[UInt8.ofNat 5]),0):=rfl
 have hl3:((List.replicate 3 obj0).set 0 ((3,1,0,[],U),([],S,[UInt8.ofNat 5]),0)).length=3:=zao
 refine tq ?_;rw[xG];refine tq ?_;rw[A1X ..];refine tq ?_;rw[kQ _ _ _ _ _ _ _ _ _ _ _ _ _ _ _ _ _ _ _ _ _ _ _ _ _ _ _ _ _ _ _ _ _ _ _ _ _ _ _ _ zao zal (wV _) zao zao zao,hp]
 conv=>lhs;whnf
 try dsimp -iota -beta -eta -zeta only
 rw[EC zaa]
 conv=>lhs;whnf
 rw[EC zaz]
 conv=>lhs;whnf
 rw[lg0];conv=>lhs;whnf
 rw[EC zaa]
 conv=>lhs;whnf
 rw[EC (by rw[BF,hl3];rfl)]
 conv=>lhs;whnf
 rw[Ae]
 conv=>lhs;whnf
 try dsimp -iota -beta -eta -zeta only
 rw[AU];rw[uQ _ _ _ A8];refine tq ?_;rw[dm (hl:=A8) (hhs:=A8) (hx:=A8) (h3:=A8) ..]
 conv=>lhs;whnf
 try dsimp -iota -beta -eta -zeta only
 rw[drw zas];conv=>lhs;whnf
 rw[ER zaa]
 conv=>lhs;whnf
 rw[ER zaz]
 conv=>lhs;whnf
 rw[lg0];conv=>lhs;whnf
 rw[ER zaz]
 conv=>lhs;whnf
 rw[lg0];conv=>lhs;whnf
 rw[lg0];conv=>lhs;whnf
 rw[Ae]
 conv=>lhs;whnf
 rw[JQ,ER (by rfl)]
end
section
attribute [local irreducible] Cj Dt D9 DT DK BH Du Ey Fh FD Et D7 CV Df DX and' Dk DU CG Ba Bl CJ CS BK BM BB BG Dv G7 Dw EM Dl Bh CO Bz C9 Bo BD Bi BO Be BZ Dx Bf DL Bd BI D6 Dy fits Dz Dn AZ Ap BL
attribute [local irreducible] E5 CP Bq nameB ES Em Ar FK En FH Eu Fe CE IU Ej Gf
theorem A1a(x:Int)(h0:0<=x)(h1:x<=1000):Cj x 1=x+1:=Aw zaa
theorem uS(un:List UInt8)(us:Int)(p1 p2 p3:Int)(p4 p5 s1 s2 s3:List UInt8)(hr:Int):Y E0 (.call 166 [.agg [.sl .u8 un,.i us],.pa 0 0] [.var [.i p1,.i p2,.i p3,.sl .u8 p4,.sl .u8 p5,.sl .u8 s1,.sl .u8 s2,.sl .u8 s3,.i hr]])=some (.ret (.b (decide (un=p5))) [some (.var [.i p1,.i p2,.i p3,.sl .u8 p4,.sl .u8 p5,.sl .u8 s1,.sl .u8 s2,.sl .u8 s3,.i hr])]):=by
 refine tq ?_
 (rw[A4G])
theorem WB(ks:List (El Ja))(p1 p2 p3:Int)(p4 p5 s1 s2 s3:List UInt8)(hr:Int)(hl:ks.length<=1000):∀(n j:Nat),j+n=ks.length->keyAt p5 ks=j+keyAt p5 (ks.drop j)->Y E0 (.loop 165 0 2 2 [(0,.nm 0),(1,.fn 166 [] [.pa 1 0]),(7,.i (Be ks)),(8,.i (j:Int))] [(0,some (.row 190 Ja ks)),(1,some (.var [.i p1,.i p2,.i p3,.sl .u8 p4,.sl .u8 p5,.sl .u8 s1,.sl .u8 s2,.sl .u8 s3,.i hr]))]) =
  if keyAt p5 ks<ks.length then some (.fin .ret 2 [(4,.i (keyAt p5 ks:Int))] [(0,some (.row 190 Ja ks)),(1,some (.var [.i p1,.i p2,.i p3,.sl .u8 p4,.sl .u8 p5,.sl .u8 s1,.sl .u8 s2,.sl .u8 s3,.i hr]))]) else some (.fin (.exit 0) 2 [] [(0,some (.row 190 Ja ks)),(1,some (.var [.i p1,.i p2,.i p3,.sl .u8 p4,.sl .u8 p5,.sl .u8 s1,.sl .u8 s2,.sl .u8 s3,.i hr]))])
 | 0,j,hj,hf=>by
  rw[if_neg (by rw[List.drop_eq_nil_of_le zaa,keyAt] at hf;omega)]
  exact tq rfl
 | n+1,j,hj,hf=>by
  have hd:=List.drop_eq_getElem_cons (l:=ks) (i:=j) zaa
  rw[hd] at hf
  have hg:BZ ks (j:Int)=some (ks[j]'zaa):=GY zaa
  generalize ks[j]'zaa=x at *
  obtain⟨un,us⟩:=x
  by_cases hk:un=p5
  ·subst hk;rw[keyAt,if_pos rfl] at hf;rw[if_pos zaa,show keyAt un ks=j from hf]
   refine to ?_;rw[hg];refine tq ?_;rw[uS ..];exact tq rfl
  ·have ih:=WB ks p1 p2 p3 p4 p5 s1 s2 s3 hr hl n (j+1) zaa (by rw[hf,keyAt,if_neg hk];omega)
   rw[show((j+1:Nat):Int)=(j:Int)+1 from by omega] at ih
   have hkd:decide (un=p5)=false:=decide_eq_false hk
   refine to ?_;rw[hg];refine tq ?_;rw[uS ..]
   conv=>lhs;whnf
   rw[hkd];refine tq ?_;exact ih
theorem A1b(ks:List (El Ja))(p1 p2 p3:Int)(p4 p5 s1 s2 s3:List UInt8)(hr:Int)(hl:ks.length<=1000):Y E0 (.call 165 [.nm 0,.fn 166 [] [.pa 1 0]] [.row 190 Ja ks,.var [.i p1,.i p2,.i p3,.sl .u8 p4,.sl .u8 p5,.sl .u8 s1,.sl .u8 s2,.sl .u8 s3,.i hr]])=some (.ret (.i (if keyAt p5 ks<ks.length then(keyAt p5 ks:Int) else -1)) [some (.row 190 Ja ks),some (.var [.i p1,.i p2,.i p3,.sl .u8 p4,.sl .u8 p5,.sl .u8 s1,.sl .u8 s2,.sl .u8 s3,.i hr])]):=by
 have hq:=WB ks p1 p2 p3 p4 p5 s1 s2 s3 hr hl ks.length 0 zaa zao
 rw[show((0:Nat):Int)=0 from rfl] at hq
 by_cases hc:keyAt p5 ks<ks.length
 ·rw[if_pos hc] at hq ⊢;refine tq ?_;rw[show ∀(x:Rs),Nat.add 0 [x].length+1=2 from fun _=>rfl,hq];exact tq rfl
 ·rw[if_neg hc] at hq ⊢;refine tq ?_;rw[show ∀(x:Rs),Nat.add 0 [x].length+1=2 from fun _=>rfl,hq];exact tq rfl
variable (sd au:List (List UInt8))(en:List UInt8)(ac re rs ck:Int)(od:Bool)(sb:List (List (List UInt8)))(su mc:Int)(ix:List (El H5))(l1 l2 l3 l4 l5 l6:Int)(ks:List (El Ja))(st sp:Bool)(rb:List (List (List UInt8)))(ru vc:Int)(sf:Bool)(dr:Int)(ss:List (El sesT))(ob:List (El objT))(rl wl:List Int)
theorem A36(p1 p2 p3:Int)(p4 p5 s1 s2 s3:List UInt8)(hr:Int)(hl:ks.length<=100)(hh:0<=p3/\p3<=3)(hu:∀ x∈ks,0<=x.2/\x.2<=1000):Y E0 (.call 104 [(sX sd au en ac re rs ck od sb su mc ix l1 l2 l3 l4 l5 l6 ks st sp rb ru vc sf dr ss ob rl wl),.agg [.i p1,.i p2,.i p3,.sl .u8 p4,.sl .u8 p5,.sl .u8 s1,.sl .u8 s2,.sl .u8 s3,.i hr]] [])=some (.ret (.tup [(sX sd au en ac re rs ck od sb su mc ix l1 l2 l3 l4 l5 l6 ((Ee ks p5 p3).1) st sp rb ru vc sf dr ss ob rl wl),.i (Ee ks p5 p3).2.1,.i (Ee ks p5 p3).2.2]) []):=by
 unfold Ee
 have hp:D7 1 (Bh (min (max p3 0) 3)).toNat=(2:Int)^p3.toNat:=by
  rw[show min (max p3 0) 3=p3 from by omega];exact Xk zaa
 have hpw:1<=(2:Int)^p3.toNat:=by
  have:1<=2^p3.toNat:=Nat.one_le_two_pow
  exact_mod_cast this
 by_cases hc:keyAt p5 ks<ks.length
 ·rw[if_pos hc]
  have hi:=A1b ks p1 p2 p3 p4 p5 s1 s2 s3 hr zaa
  rw[if_pos hc] at hi
  have hg:BZ ks (keyAt p5 ks:Int)=some (ks.getD (keyAt p5 ks) ([],0)):=by rw[GY hc];simp[List.getD,List.getElem?_eq_getElem hc]
  have hm:=hu (ks.getD (keyAt p5 ks) ([],0)) (by simp only[List.getD,List.getElem?_eq_getElem hc,Option.getD_some];exact List.getElem_mem _)
  have hs:∀ x,Bf ks (keyAt p5 ks:Int) x=ks.set (keyAt p5 ks) x:=fun x=>by rw[G5];simp
  generalize ks.getD (keyAt p5 ks) ([],0)=x at *
  obtain⟨un,us⟩:=x
  generalize keyAt p5 ks=K at *
  dsimp only at hm ⊢
  generalize (2:Int)^p3.toNat=W at *
  by_cases hw:W<=us
  ·rw[if_pos hw];refine tq ?_;rw[bz _ A8];refine tq ?_;rw[hi];refine to ?_;rw[hg]
   conv=>lhs;whnf
   try dsimp -iota -beta -eta -zeta only
   rw[hp];exact tq rfl
  ·rw[if_neg hw]
   have hs1:=A1a us hm.1 hm.2
   refine tq ?_;rw[bz _ A8];refine tq ?_;rw[hi];refine to ?_;rw[hg]
   conv=>lhs;whnf
   try dsimp -iota -beta -eta -zeta only
   rw[hp];refine to ?_;rw[hg];refine to ?_;rw[hg];refine tq ?_;rw[hs]
   (rw[hs1])
 ·rw[if_neg hc]
  have hi:=A1b ks p1 p2 p3 p4 p5 s1 s2 s3 hr zaa
  rw[if_neg hc] at hi
  by_cases h8:8<=ks.length
  ·rw[if_pos h8];refine tq ?_;rw[bz _ A8];refine tq ?_;rw[hi];exact tq rfl
  ·rw[if_neg h8]
   have hg:BZ (BI ks [(p5,0)]) (Be ks)=some (p5,0):=by rw[Aa,BF,GY zao];simp
   have hs:Bf (BI ks [(p5,0)]) (Be ks) (p5,0+1)=ks++[(p5,1)]:=by rw[G5,Aa,BF];simp
   generalize (2:Int)^p3.toNat=W at *
   refine tq ?_;rw[bz _ A8];refine tq ?_;rw[hi];refine tq ?_;rw[hg]
   conv=>lhs;whnf
   try dsimp -iota -beta -eta -zeta only
   rw[hp];refine tq ?_;rw[hg];refine tp ?_;rw[hg];refine tq ?_;rw[hs]
theorem xN(p1 p2 p3:Int)(p4 p5 s1 s2 s3:List UInt8)(hr:Int)(m:List UInt8)(hkl:ks.length<=100)(hh:0<=p3/\p3<=3)(hu:∀ x∈ks,0<=x.2/\x.2<=1000)(h2:s2.length<=1000)(hm:m.length<=100000)(he:(Ee ks p5 p3).2.2=0):Y E0 (.call 48 [(sX sd au en ac re rs ck od sb su mc ix l1 l2 l3 l4 l5 l6 ks st sp rb ru vc sf dr ss ob rl wl),.agg [.i p1,.i p2,.i p3,.sl .u8 p4,.sl .u8 p5,.sl .u8 s1,.sl .u8 s2,.sl .u8 s3,.i hr],.sl .u8 m] [])=some (.ret (.tup [(sX sd au en ac re rs ck od sb su mc ix l1 l2 l3 l4 l5 l6 ((Ee ks p5 p3).1) st sp rb ru vc sf dr ss ob rl wl),.sl .u8 (Ej s2 p3 (Ee ks p5 p3).2.1 m),.i 0]) []):=by
 have e:=A36 sd au en ac re rs ck od sb su mc ix l1 l2 l3 l4 l5 l6 ks st sp rb ru vc sf dr ss ob rl wl p1 p2 p3 p4 p5 s1 s2 s3 hr hkl hh hu
 generalize Ee ks p5 p3=U at *
 obtain⟨u1,u2,u3⟩:=U
 dsimp only at *
 subst he;refine tq ?_;rw[e];refine tq ?_;rw[A1L _ _ _ _ A8 A8];exact tq rfl
theorem Yz(c h:Int)(hs:List Int)(az:List (El Aq))(is:List Int)(m:List UInt8)(bs:List (List UInt8))(p1 p2 p3:Int)(p4 p5 s1 s2 s3:List UInt8)(hr:Int)(r:Bool)(hl:ob.length<=1000)(hhs:hs.length<=100)(hbs:bs.length<=100)(hx:GK ob h=some ((p1,p2,p3,p4,p5),(s1,s2,s3),hr))(h1:p1=2)(ha:r = !decide (BH .and p2 4=0))(hm:m.length<=128):
  Y E0 (.call 44 [(sX sd au en ac re rs ck od sb su mc ix l1 l2 l3 l4 l5 l6 ks st sp rb ru vc sf dr ss ob rl wl),.agg [.i c,.sl .i64 (h::hs),.sl Aq az,.sl .i64 is,.sl (.sl .u8) (m::bs)],.b r] [])=some (.ret (.tup [.agg [.i p1,.i p2,.i p3,.sl .u8 p4,.sl .u8 p5,.sl .u8 s1,.sl .u8 s2,.sl .u8 s3,.i hr],.i 0]) []):=by
 subst ha
 by_cases hq:BH .and p2 4=0
 ·rw[hq,decide_eq_true rfl];refine tq ?_;rw[KH (hl:=A8) ..];refine tq ?_;rw[VU _ _ _ _ _ _ _ _ _ _ _ _ _ _ _ _ _ _ _ _ _ _ _ _ _ _ _ _ _ _ _ _ _ _ _ _ _ _ _ _ hl hx]
  conv=>lhs;whnf
  try dsimp -iota -beta -eta -zeta only
  rw[drw zas];conv=>lhs;whnf
  rw[EC zaa]
  conv=>lhs;whnf
  rw[EC zaa]
  conv=>lhs;whnf
  rw[hq];rw[show Df (Fh 0 0) (!true)=true from by rw[EC (by rfl),ZE];rfl]
  conv=>lhs;whnf
  rw[EN];conv=>lhs;whnf
  try dsimp -iota -beta -eta -zeta only
  rw[AU];rw[Qa (hl:=A8) ..];exact tq rfl
 ·rw[decide_eq_false hq];refine tq ?_;rw[KH (hl:=A8) ..];refine tq ?_;rw[VU _ _ _ _ _ _ _ _ _ _ _ _ _ _ _ _ _ _ _ _ _ _ _ _ _ _ _ _ _ _ _ _ _ _ _ _ _ _ _ _ hl hx]
  conv=>lhs;whnf
  try dsimp -iota -beta -eta -zeta only
  rw[drw zas];conv=>lhs;whnf
  rw[EC zaa]
  conv=>lhs;whnf
  rw[EC zaa]
  conv=>lhs;whnf
  rw[show Df (Fh (BH .and p2 4) 0) (!false)=true from by rw[Fa hq,ZE];rfl]
  conv=>lhs;whnf
  rw[EN];conv=>lhs;whnf
  try dsimp -iota -beta -eta -zeta only
  rw[AU];rw[Qa (hl:=A8) ..];exact tq rfl
end
section
attribute [local irreducible] Cj Dt D9 DT DK BH Du Ey Fh FD Et D7 CV Df DX and' Dk DU CG Ba Bl CJ CS BK BM BB BG Dv G7 Dw EM Dl Bh CO Bz C9 Bo BD Bi BO Be BZ Dx Bf DL Bd BI D6 Dy fits Dz Dn AZ Ap BL
attribute [local irreducible] Ed Ej Gf Bv nameB Em wkey Jg PT ES Bq FH Eu A3n A3l A18 A17
theorem oK(a s d:List UInt8)(k t h:Int)(o u x:List UInt8)(hs:s.length<=100000)(ho:o.length<=60000)(hu:u.length<=60000)(hx:x.length<=1000000):Y E0 (.call 133 [.agg [.sl .u8 a,.sl .u8 s,.sl .u8 d],.agg [.i k,.i t,.i h,.sl .u8 o,.sl .u8 u],.sl .u8 x] [])=some (.ret (.tup [.agg (dG (Eu ⟨a,s,d⟩ ⟨k,t,h,o,u⟩ x).1),.i (Eu ⟨a,s,d⟩ ⟨k,t,h,o,u⟩ x).2]) []):=by
 have hn:=Ac ⟨k,t,h,o,u⟩
 have he:=Jh (p:=⟨k,t,h,o,u⟩) zay zay
 have hw:=BN ⟨a,s,d⟩ (nameB ⟨k,t,h,o,u⟩)
 simp only at he
 have eo:=xB (wkey ⟨a,s,d⟩ (nameB ⟨k,t,h,o,u⟩)) (ES ⟨k,t,h,o,u⟩) x zaa zaa zaa
 have hl:=wU (key:=wkey ⟨a,s,d⟩ (nameB ⟨k,t,h,o,u⟩)) (ad:=ES ⟨k,t,h,o,u⟩) (b:=x)
 unfold Eu
 generalize Jg (wkey ⟨a,s,d⟩ (nameB ⟨k,t,h,o,u⟩)) (ES ⟨k,t,h,o,u⟩) x=R at *
 obtain⟨b,e⟩:=R
 dsimp only at eo hl ⊢
 have hb:b.length<=4294967296:=zaa
 by_cases hz:e=0
 ·subst hz;rw[if_neg zao];refine tq ?_;rw[Ff _ _ _ _ _ A8 A8];refine tq ?_;rw[VN _ _ _ _ A8 A8];refine tq ?_;rw[I8 _ _ _ _ _ A8 A8];refine tq ?_;rw[eo];refine tq ?_;rw[Pj _];refine tq ?_;rw[show Y E0 (.call 41 [.pa 0 0,.i 32] [.var [.sl .u8 b,.i 0,.i 0]])=_ from Hm b 0 0 32 hb (Nat.zero_le _)];generalize g0:Js b 0 0 32=x0;obtain⟨v0,p0,er0⟩:=x0;have k0:p0<=b.length:=(by have:=MF (b:=b) (at':=0) (e:=0) (most:=32) (Nat.zero_le _);rw[g0] at this;exact this);have l0:v0.length<=b.length:=(by have:=J8 (b:=b) (at':=0) (e:=0) (most:=32);rw[g0] at this;exact this);have m0:v0.length<=32:=(by have:=J3 (b:=b) (at':=0) (e:=0) (most:=32) zal;rw[g0] at this;simp only at this;omega)
  refine tq ?_;rw[Hm b p0 er0 32 hb k0];generalize g1:Js b p0 er0 32=x1;obtain⟨v1,p1,er1⟩:=x1;have k1:p1<=b.length:=(by have:=MF (b:=b) (at':=p0) (e:=er0) (most:=32) k0;rw[g1] at this;exact this);have l1:v1.length<=b.length:=(by have:=J8 (b:=b) (at':=p0) (e:=er0) (most:=32);rw[g1] at this;exact this);have m1:v1.length<=32:=(by have:=J3 (b:=b) (at':=p0) (e:=er0) (most:=32) zal;rw[g1] at this;simp only at this;omega)
  refine tq ?_;rw[Hm b p1 er1 128 hb k1];generalize g2:Js b p1 er1 128=x2;obtain⟨v2,p2,er2⟩:=x2;have k2:p2<=b.length:=za7;have l2:v2.length<=b.length:=za9;have m2:v2.length<=128:=(by have:=J3 (b:=b) (at':=p1) (e:=er1) (most:=128) zal;rw[g2] at this;simp only at this;omega)
  refine tq ?_;rw[UC _ _ _ A8 A8];refine tq ?_
  rcases AX (WT b p2 er2) 0 with hc0|hc0
  ·refine tq ?_
   (rw[YM g0 g1 g2,if_pos zaa];try rfl)
  refine tq ?_;rw[LP _ _ _ _ _ A8 A8 A8];refine tq ?_;rw[CY _ _ (Nat.le_trans (uI _ _ _) zaa)];refine tq ?_
  rcases Decidable.em (Em k h {auth:=v0,seed:=v1,data:=v2}=u) with hc1|hc1
  ·refine tq ?_
   (rw[YM g0 g1 g2,if_neg zaa,if_neg (by first|assumption|simp_all)];try rfl)
  refine tq ?_
  (rw[YM g0 g1 g2,if_neg zaa,if_pos (fun q=>hc1 q.symm)];try rfl)
 ·rw[if_pos hz];refine tq ?_;rw[Ff _ _ _ _ _ A8 A8];refine tq ?_;rw[VN _ _ _ _ A8 A8];refine tq ?_;rw[I8 _ _ _ _ _ A8 A8];refine tq ?_;rw[eo];refine tq ?_
  rfl
end
end Go.Proofs.YtnhgnfdbdflhcaaGreatDoor
