/-
  Own texts, laid together for this claim: contracts of functions of the program and its references, used by the statements of this seat.
-/
import Derived.Test.YtnhgnfdbdflhcaaGreatDoorMtab
import Derived.Test.YtnhgnfdbdflhcaaGreatDoorMtad
import Derived.Test.YtnhgnfdbdflhcaaGreatDoorMtae
import Derived.Test.YtnhgnfdbdflhcaaGreatDoorMtaf
import Derived.Test.YtnhgnfdbdflhcaaGreatDoorMtag
import Derived.Test.YtnhgnfdbdflhcaaGreatDoorMtah
import Derived.Test.YtnhgnfdbdflhcaaGreatDoorMtai
import Derived.Test.YtnhgnfdbdflhcaaGreatDoorMtaj
import Derived.Test.YtnhgnfdbdflhcaaGreatDoorMtao
import Derived.Test.YtnhgnfdbdflhcaaGreatDoorMtaq
import Derived.Test.YtnhgnfdbdflhcaaGreatDoorMtas
import Derived.Test.YtnhgnfdbdflhcaaGreatDoorMtau
import Derived.Test.YtnhgnfdbdflhcaaGreatDoorMtav
import Derived.Test.YtnhgnfdbdflhcaaGreatDoorMtaw
import Derived.Test.YtnhgnfdbdflhcaaGreatDoorMtaz
import Derived.Test.YtnhgnfdbdflhcaaGreatDoorMtbf
import Derived.Test.YtnhgnfdbdflhcaaGreatDoorMtbg
import Derived.Test.YtnhgnfdbdflhcaaGreatDoorMtbp
set_option linter.all false
set_option maxHeartbeats 40000000
set_option maxRecDepth 100000
namespace Go.Ax
open Go Go.Eng Go.RowKit
variable {ks:List (El J8)}{ob:List (El objT)}{h:Int}
def okR(is:List Int)(bs:List (List UInt8)):Prop:=is.length<=1/\bs.length<=2/\∀ x∈bs,x.length<=100000
theorem Vr:okR [] []:=⟨by simp,by simp,by simp⟩
theorem qK{p:Pub}{s:Sen}{bl:List (List UInt8)}(hb:bl.length<=2/\∀ x∈bl,x.length<=100000):okR (GX ob p s h bl).2.ints (GX ob p s h bl).2.blobs:=by
 unfold GX
 split
 ·exact⟨by simp,hb.1,hb.2⟩
 ·exact Vr
theorem A0z{sd:List (List UInt8)}{k a t:Int}{o auth d:List UInt8}(ho:o.length<=50000):okR (E8 sd ob h k a t o auth d).2.ints (E8 sd ob h k a t o auth d).2.blobs:=by
 unfold E8
 split
 ·have hm:=KJ (secret:=ET (sd.getD h.toNat []) k a t o d) (auth:=auth) (data:=d) (p:=⟨k,a,t,o,[]⟩)
  have hn:=Aa (Be (ET (sd.getD h.toNat []) k a t o d) ⟨k,a,t,o,[]⟩ auth d).1
  generalize Be (ET (sd.getD h.toNat []) k a t o d) ⟨k,a,t,o,[]⟩ auth d=m at *
  dsimp only at hm ⊢
  have he:=Hf (p:=m.1) zaa zaa
  split
  ·exact Vr
  ·refine qK ⟨by simp,?_⟩
   simp only[List.mem_cons,List.not_mem_nil,or_false]
   rintro x (rfl|rfl)<;>omega
 ·exact Vr
theorem A46{par:Sen}{en:List UInt8}{re rs dr k a t:Int}{o auth d:List UInt8}(ho:o.length<=50000):okR (Ho par en re rs dr k a t o auth d).2.ints (Ho par en re rs dr k a t o auth d).2.blobs:=by
 unfold Ho
 have hm:=KJ (secret:=Nl en re rs dr 32) (auth:=auth) (data:=d) (p:=⟨k,a,t,o,[]⟩)
 generalize Be (Nl en re rs dr 32) ⟨k,a,t,o,[]⟩ auth d=m at *
 dsimp only at hm ⊢
 have he:=Hf (p:=m.1) zaa zaa
 have hn:=Aa m.1
 have hp:(PG m.2.1).length<=200:=by rw[PG,AO,AO,AO,List.length_nil];omega
 have hs:=Ws (key:=wkey par (nameB m.1)) (nonce:=(nameB m.1).take 16) (ad:=EL m.1) (plain:=PG m.2.1) za5 zaa
 split
 ·exact Vr
 ·refine⟨by simp,by simp,?_⟩
  simp only[List.mem_cons,List.not_mem_nil,or_false]
  rintro x (rfl|rfl)
  ·omega
  ·unfold Ea;rw[hs,List.length_take];omega
theorem A47{par:Sen}{hier:Int}{pub priv:List UInt8}:okR (I5 ob par hier pub priv).2.ints (I5 ob par hier pub priv).2.blobs:=by
 unfold I5
 have hn:=Aa (F8 pub).1
 split
 ·exact Vr
 ·split
  ·exact Vr
  ·refine qK ⟨by simp,?_⟩
   simp only[List.mem_cons,List.not_mem_nil,or_false]
   rintro x rfl;omega
theorem fA{u:List UInt8}(hk:aT ks)(he:(EE ks u h).2.2=0):0<=(EE ks u h).2.1/\(EE ks u h).2.1<(2:Int)^h.toNat:=by
 have hp:(0:Int)<(2:Int)^h.toNat:=by exact Int.pow_pos zal
 unfold EE at *
 split
 ·rename_i hc
  have hm:ks.getD (keyAt u ks) ([],0)∈ks:=by simp only[List.getD,List.getElem?_eq_getElem hc,Option.getD_some];exact List.getElem_mem _
  have hx:=(hk.2 _ hm).2.1
  rw[if_pos hc] at he
  split
  ·rename_i hw;rw[if_pos hw] at he;exact absurd he zam
  ·rename_i hw;exact⟨hx,Int.not_le.1 hw⟩
 ·rename_i hc
  split
  ·exact⟨Int.le_refl _,hp⟩
  ·exact⟨Int.le_refl _,hp⟩
theorem A10{p1 p2 p3:Int}{p5 s2 m:List UInt8}(hk:aT ks)(hh:0<=p3/\p3<=3):okR (Fa ks p1 p2 p3 p5 s2 m).2.ints (Fa ks p1 p2 p3 p5 s2 m).2.blobs:=by
 unfold Fa
 (repeat' split)<;>first|exact Vr|skip
 rename_i h1 h2 h3 h4
 have hl:=QR (seed:=s2) (m:=m) (h:=p3) hh (fA hk (Classical.not_not.1 h4))
 refine⟨by simp,by simp,?_⟩
 simp only[List.mem_cons,List.not_mem_nil,or_false]
 rintro x rfl;omega
theorem wV{p1 p2 p3:Int}{p5 s2 m:List UInt8}{e:Int}{a:Att}(hk:aT ks)(hh:0<=p3/\p3<=3)(ha:(FU a).length<=100000):okR (Ej ks p1 p2 p3 p5 s2 m e a).2.ints (Ej ks p1 p2 p3 p5 s2 m e a).2.blobs:=by
 unfold Ej
 (repeat' split)<;>first|exact Vr|skip
 rename_i h1 h2 h3 h4 h5
 have hl:=QR (seed:=s2) (m:=FU a) (h:=p3) hh (fA hk (Classical.not_not.1 h5))
 refine⟨by simp,by simp,?_⟩
 simp only[List.mem_cons,List.not_mem_nil,or_false]
 rintro x (rfl|rfl)<;>omega
end Go.Ax
namespace Go.Proofs.YtnhgnfdbdflhcaaGreatDoor
open Go Go.Ax Go.Eng
section
attribute [local irreducible] Cc Dn D7 DU DD BA Dp F7 FY FD Ez Ci CS DK DV and' DW DL C9 BR Bh CB CG BG BI Aw BC Dq Fh Dt ER DX Bl CE Bv Bz Bi Az Bg BK Bj BO Du Bc DF BZ BM Cj Di fits Dv Dk Ac Am BH
attribute [local irreducible] Dw CJ Be nameB EL Eh Ar ET E8 Ea ES F8 BV GX Eg Fv FU EE Fa Ej Ho I5 En
theorem PU{E:Env}{q:Rq}{R:Option Rsp->Prop}(h:Ah E q R):∃ r,Y E q=r/\R r:=⟨_,rfl,h⟩
theorem A0x(b0 b1:List (List UInt8))(u s0 s1:Int)(h0:b0=[]\/Fg 20 b0)(h1:b1=[]\/Fg 32 b1):Ah E0 (.call 54 [PM [b0,b1] u,.agg [.i s0,.i s1]] []) fun r=>(∃ e:Int,(e=1/\¬(0<=s0/\s0<=65535/\0<=s1/\s1<=65535)\/e=27/\(0<=s0/\s0<=65535/\0<=s1/\s1<=65535)/\¬((s0=0\/0<b0.length)/\(s1=0\/0<b1.length)))/\r=some (.ret (.tup [.sl .u8 [],.i e]) []))\/(((0<=s0/\s0<=65535/\0<=s1/\s1<=65535)/\(s0=0\/0<b0.length)/\(s1=0\/0<b1.length))/\r=some (.ret (.tup [.sl .u8 (X7 s0 s1 b0 b1),.i 0]) [])):=by
 have k0:=(Jv h0 zal).2
 have k1:=(Jv h1 zal).2
 have l0:=Nr (s:=s0) k0
 have l1:=Nr (s:=s1) k1
 have hf:(Ar 5 [BV (BV [] 2 s0) 2 s1,NW s0 b0++NW s1 b1]).length<=4294967295:=zbk
 refine CU fun P hP=>?_
 refine tw ?_
 obtain(⟨h0_0,yy0⟩|⟨⟨h0_1,h0_2,h0_3,h0_4⟩,yy0⟩):=Xc b0 b1 u s0 s1
 ·
  refine Aq yy0 ?_
  exact hP _ (Or.inl ⟨1,A7,rfl⟩)
 refine Aq yy0 ?_
 obtain(⟨x1,h1_1,yy1⟩|⟨⟨h1_2,h1_3⟩,yy1⟩):=Xf b0 b1 u s0 s1 A7 A7
 ·
  refine Aq yy1 ?_
  exact hP _ (Or.inl ⟨27,A7,rfl⟩)
 refine Aq yy1 ?_
 rw[CP _ _ _ A7]
 refine tw ?_
 rw[CP _ _ _ A7]
 refine tw ?_
 rw[F5 _ _ hf zam]
 refine tw ?_
 exact hP _ (Or.inr ⟨A7,rfl⟩)
theorem jd(u s0 s1:Int):Ah E0 (.loop 54 0 0 2 [(2,AV.pa 0 0),(3,AV.pa 1 0),(6,AV.i 0)] [(0,some (Rs.var [AV.sl Ty.u8.sl.sl [],AV.i u])),(1,some (Rs.var [AV.i s0,AV.i s1]))]) fun r=>(¬(0<=s0/\s0<=65535/\0<=s1/\s1<=65535)/\r=some (.fin .ret 2 [(2,.pa 0 0),(3,.pa 1 0),(4,.nil),(5,.i 1)] [(0,some (Rs.var [AV.sl Ty.u8.sl.sl [],AV.i u])),(1,some (Rs.var [AV.i s0,AV.i s1]))]))\/((0<=s0/\s0<=65535/\0<=s1/\s1<=65535)/\r=some (.fin (.exit 0) 2 [(2,.pa 0 0),(3,.pa 1 0)] [(0,some (Rs.var [AV.sl Ty.u8.sl.sl [],AV.i u])),(1,some (Rs.var [AV.i s0,AV.i s1]))])):=by
 refine CU fun P hP=>?_
 rw[Ad];conv=>arg 1;whnf
 refine tw ?_
 rcases AZ s0 0 with hc0|hc0
 ·
  refine tw ?_
  exact hP _ (Or.inl ⟨A7,rfl⟩)
 refine tw ?_
 rcases AZ 65535 s0 with hc1|hc1
 ·
  refine tw ?_
  exact hP _ (Or.inl ⟨A7,rfl⟩)
 refine tw ?_
 refine tw ?_
 rcases AZ s1 0 with hc2|hc2
 ·
  refine tw ?_
  exact hP _ (Or.inl ⟨A7,rfl⟩)
 refine tw ?_
 rcases AZ 65535 s1 with hc3|hc3
 ·
  refine tw ?_
  exact hP _ (Or.inl ⟨A7,rfl⟩)
 refine tw ?_
 refine tw ?_
 exact hP _ (Or.inr ⟨A7,rfl⟩)
theorem Vo(u s0 s1:Int)(acc:List UInt8)(ha:acc.length<=20000)(hs:s0=0):∀(n j:Nat),j+n=16->Y E0 (.loop 54 2 0 3 [(2,AV.pa 0 0),(3,AV.pa 1 0),(7,AV.nm 2),(8,AV.i 0),(9,AV.i (j:Int))] [(0,some (Rs.var [AV.sl Ty.u8.sl.sl [],AV.i u])),(1,some (Rs.var [AV.i s0,AV.i s1])),(2,some (Rs.row 5 Ty.u8 acc))])=some (.fin (.exit 4) 3 [(2,AV.pa 0 0),(3,AV.pa 1 0),(7,AV.nm 2),(8,AV.i 0)] [(0,some (Rs.var [AV.sl Ty.u8.sl.sl [],AV.i u])),(1,some (Rs.var [AV.i s0,AV.i s1])),(2,some (Rs.row 5 Ty.u8 acc))])
 | 0,j,hj=>by
  obtain rfl:j=16:=zaa
  rw[Ad];conv=>lhs;whnf
  refine tq ?_
  with_reducible rfl
 | n+1,j,hj=>by
  have ih:=Vo u s0 s1 acc ha hs n (j+1) zaa
  rw[show((j+1:Nat):Int)=(j:Int)+1 from by omega] at ih
  have hb:¬BA .and (CS s0 (Bl ((j:Nat):Int)).toNat) 1=1:=by rw[hs,Zz j zaa];decide
  rw[Ad];conv=>lhs;whnf
  refine tq ?_
  exact ih
theorem Vp(u s0 s1:Int)(acc:List UInt8)(ha:acc.length<=20000)(hs:s1=0):∀(n j:Nat),j+n=16->Y E0 (.loop 54 2 0 3 [(2,AV.pa 0 0),(3,AV.pa 1 0),(7,AV.nm 2),(8,AV.i 1),(9,AV.i (j:Int))] [(0,some (Rs.var [AV.sl Ty.u8.sl.sl [],AV.i u])),(1,some (Rs.var [AV.i s0,AV.i s1])),(2,some (Rs.row 5 Ty.u8 acc))])=some (.fin (.exit 4) 3 [(2,AV.pa 0 0),(3,AV.pa 1 0),(7,AV.nm 2),(8,AV.i 1)] [(0,some (Rs.var [AV.sl Ty.u8.sl.sl [],AV.i u])),(1,some (Rs.var [AV.i s0,AV.i s1])),(2,some (Rs.row 5 Ty.u8 acc))])
 | 0,j,hj=>by
  obtain rfl:j=16:=zaa
  rw[Ad];conv=>lhs;whnf
  refine tq ?_
  with_reducible rfl
 | n+1,j,hj=>by
  have ih:=Vp u s0 s1 acc ha hs n (j+1) zaa
  rw[show((j+1:Nat):Int)=(j:Int)+1 from by omega] at ih
  have hb:¬BA .and (CS s1 (Bl ((j:Nat):Int)).toNat) 1=1:=by rw[hs,Zz j zaa];decide
  rw[Ad];conv=>lhs;whnf
  refine tq ?_
  exact ih
theorem je(u s0 s1:Int):Ah E0 (.loop 54 1 0 3 [(2,AV.pa 0 0),(3,AV.pa 1 0),(7,AV.nm 2),(8,AV.i 0)] [(0,some (Rs.var [AV.sl Ty.u8.sl.sl [],AV.i u])),(1,some (Rs.var [AV.i s0,AV.i s1])),(2,some (Rs.row 5 Ty.u8 []))]) fun r=>(∃ x:List UInt8,(¬(s0=0/\s1=0))/\r=some (.fin .ret 1 [(3,AV.pa 0 0),(4,AV.nil),(5,AV.i 27),(7,AV.sl Ty.u8 x)] [(0,some (Rs.var [AV.i s0,AV.i s1]))]))\/((s0=0/\s1=0)/\r=some (.fin (.exit 2) 1 [(3,AV.pa 0 0),(7,AV.sl Ty.u8 [])] [(0,some (Rs.var [AV.i s0,AV.i s1]))])):=by
 have e0:=fun h=>Vo u s0 s1 [] zam h 16 0 zaa
 have e1:=fun h=>Vp u s0 s1 [] zam h 16 0 zaa
 simp only[show((0:Nat):Int)=0 from rfl] at e0 e1
 refine CU fun P hP=>?_
 rw[Ad];conv=>arg 1;whnf
 refine tw ?_
 rcases AX s0 0 with hc0|hc0
 ·
  refine tw ?_
  rw[G5 _ _ A7]
  refine tw ?_
  exact hP _ (Or.inl ⟨[],A7,rfl⟩)
 subst hc0
 replace e0:=e0 rfl
 refine tw ?_
 rw[e0]
 refine tw ?_
 refine tw ?_
 rcases AX s1 0 with hc1|hc1
 ·
  refine tw ?_
  rw[G5 _ _ A7]
  refine tw ?_
  exact hP _ (Or.inl ⟨[],A7,rfl⟩)
 subst hc1
 replace e1:=e1 rfl
 refine tw ?_
 rw[e1]
 refine tw ?_
 refine tw ?_
 exact hP _ (Or.inr ⟨A7,rfl⟩)
theorem A0y(u s0 s1:Int):Ah E0 (.call 54 [.agg [AV.sl Ty.u8.sl.sl [],AV.i u],.agg [.i s0,.i s1]] []) fun r=>(∃ e:Int,(e=1/\¬(0<=s0/\s0<=65535/\0<=s1/\s1<=65535)\/e=27/\(0<=s0/\s0<=65535/\0<=s1/\s1<=65535)/\¬(s0=0/\s1=0))/\r=some (.ret (.tup [.sl .u8 [],.i e]) []))\/(((0<=s0/\s0<=65535/\0<=s1/\s1<=65535)/\(s0=0/\s1=0))/\r=some (.ret (.tup [.sl .u8 (sha256 (Ar 5 [BV (BV [] 2 s0) 2 s1,[]])),.i 0]) [])):=by
 have hf:(Ar 5 [BV (BV [] 2 s0) 2 s1,[]]).length<=4294967295:=by rw[Ae,AB,AB,List.length_nil];simp
 obtain⟨r0,e0,hr0⟩:=PU (jd u s0 s1)
 obtain⟨r1,e1,hr1⟩:=PU (je u s0 s1)
 rcases hr0 with⟨hn,rfl⟩|⟨hn,rfl⟩
 ·refine CU fun P hP=>?_
  refine tw ?_
  rw[e0]
  refine tw ?_
  exact hP _ (Or.inl ⟨1,A7,rfl⟩)
 ·rcases hr1 with⟨x,hm,rfl⟩|⟨hm,rfl⟩
  ·refine CU fun P hP=>?_
   refine tw ?_
   rw[e0]
   refine tw ?_
   rw[e1]
   refine tw ?_
   exact hP _ (Or.inl ⟨27,A7,rfl⟩)
  ·refine CU fun P hP=>?_
   refine tw ?_
   rw[e0]
   refine tw ?_
   rw[e1]
   refine tw ?_
   rw[CP _ _ _ A7]
   refine tw ?_
   rw[CP _ _ _ A7]
   refine tw ?_
   rw[F5 _ _ hf zam]
   refine tw ?_
   exact hP _ (Or.inr ⟨A7,rfl⟩)
theorem qE(u:Int):Y E0 (.call 163 [.agg [AV.sl Ty.u8.sl.sl [],AV.i u]] [])=some (.ret (.i 0) []):=by
 have hq:Y E0 (.loop 163 0 0 1 [(1,.pa 0 0),(3,.i 0),(7,.i (Bj ([]:List (List (List UInt8))))),(8,.i 0)] [(0,some (.var [AV.sl Ty.u8.sl.sl [],AV.i u]))])=some (.fin (.exit 0) 0 [(3,.i 0)] []):=by
  exact tq rfl
 refine tq ?_
 rw[hq]
 exact tq rfl
theorem zL(u a:Int)(ha:a=0\/a=1):Y E0 (.call 103 [.agg [AV.sl Ty.u8.sl.sl [],AV.i u],.i a] [])=some (.ret (.b false) []):=by
 rcases ha with rfl|rfl
 ·refine tq ?_
  rw[qE]
  refine tq ?_
  rw[XC.1 0 zaa]
  (congr 3;simp only[Dz,WX,Jd,EU,DT,ND,BB];first|rfl|(rw[decide_eq_decide];omega)|(simp;omega))
 ·refine tq ?_
  rw[qE]
  refine tq ?_
  rw[XC.2.2.1 0 zaa]
  (congr 3;simp only[Dz,WX,Jd,EU,DT,ND,BB];first|rfl|(rw[decide_eq_decide];omega)|(simp;omega))
theorem qF(u s0 s1:Int):Ah E0 (.loop 46 0 0 3 [(2,.pa 0 0),(3,.pa 1 0),(6,.nil),(7,.nm 2),(13,AV.agg [AV.i s0,AV.i s1]),(14,AV.i 0)] [(0,some (Rs.var [AV.sl Ty.u8.sl.sl [],AV.i u])),(1,some (Rs.var [AV.i s0,AV.i s1])),(2,some (Rs.row 5 Ty.u8 []))]) fun r=>(∃ x:AV,(¬(0<=s0/\s0<=65535/\0<=s1/\s1<=65535))/\r=some (.fin .ret 3 [(2,.pa 0 0),(3,.pa 1 0),(4,.nil),(5,.i 1),(6,x),(7,.nm 2)] [(0,some (Rs.var [AV.sl Ty.u8.sl.sl [],AV.i u])),(1,some (Rs.var [AV.i s0,AV.i s1])),(2,some (Rs.row 5 Ty.u8 []))]))\/((0<=s0/\s0<=65535/\0<=s1/\s1<=65535)/\r=some (.fin (.exit 0) 3 [(2,AV.pa 0 0),(3,AV.pa 1 0),(6,AV.sl Ty.u8 (BV (BV [] 2 s0) 2 s1)),(7,AV.nm 2)] [(0,some (Rs.var [AV.sl Ty.u8.sl.sl [],AV.i u])),(1,some (Rs.var [AV.i s0,AV.i s1])),(2,some (Rs.row 5 Ty.u8 []))])):=by
 refine CU fun P hP=>?_
 rw[Ad];conv=>arg 1;whnf
 refine tw ?_
 rcases AZ s0 0 with hc0|hc0
 ·
  refine tw ?_
  exact hP _ (Or.inl ⟨AV.nil,A7,rfl⟩)
 refine tw ?_
 rcases AZ 65535 s0 with hc1|hc1
 ·
  refine tw ?_
  exact hP _ (Or.inl ⟨AV.nil,A7,rfl⟩)
 refine tw ?_
 rw[GN _ _ _ A7]
 refine tw ?_
 refine tw ?_
 rcases AZ s1 0 with hc2|hc2
 ·
  refine tw ?_
  exact hP _ (Or.inl ⟨AV.sl Ty.u8 (BV [] 2 s0),A7,rfl⟩)
 refine tw ?_
 rcases AZ 65535 s1 with hc3|hc3
 ·
  refine tw ?_
  exact hP _ (Or.inl ⟨AV.sl Ty.u8 (BV [] 2 s0),A7,rfl⟩)
 refine tw ?_
 rw[GN _ _ _ A7]
 refine tw ?_
 refine tw ?_
 exact hP _ (Or.inr ⟨A7,rfl⟩)
theorem UC(u a s s0 s1:Int)(hd acc:List UInt8)(ha:acc.length<=20000)(h:s=0):∀(n j:Nat),j+n=16->Y E0 (.loop 46 2 0 2 [(2,.pa 0 0),(6,.sl .u8 hd),(7,.nm 1),(10,.i a),(11,.i s),(27,.agg [.i s0,.i s1]),(28,.i a),(40,.i (j:Int))] [(0,some (.var [AV.sl Ty.u8.sl.sl [],AV.i u])),(1,some (.row 5 .u8 acc))])=some (.fin (.exit 4) 2 [(2,.pa 0 0),(6,.sl .u8 hd),(7,.nm 1),(27,.agg [.i s0,.i s1]),(28,.i a)] [(0,some (.var [AV.sl Ty.u8.sl.sl [],AV.i u])),(1,some (.row 5 .u8 acc))])
 | 0,j,hj=>by
  obtain rfl:j=16:=zaa
  rw[Ad];conv=>lhs;whnf
  refine tq ?_
  with_reducible rfl
 | n+1,j,hj=>by
  have ih:=UC u a s s0 s1 hd acc ha h n (j+1) zaa
  rw[show((j+1:Nat):Int)=(j:Int)+1 from by omega] at ih
  have hb:¬BA .and (CS s (Bl ((j:Nat):Int)).toNat) 1=1:=by rw[h,Zz j zaa];decide
  rw[Ad];conv=>lhs;whnf
  refine tq ?_
  exact ih
theorem qG(u s0 s1:Int)(hd:List UInt8):Ah E0 (.loop 46 1 0 2 [(2,.pa 0 0),(6,.sl .u8 hd),(7,.nm 1),(27,AV.agg [AV.i s0,AV.i s1]),(28,AV.i 0)] [(0,some (Rs.var [AV.sl Ty.u8.sl.sl [],AV.i u])),(1,some (Rs.row 5 Ty.u8 []))]) fun r=>(∃ x:List UInt8,(¬(s0=0/\s1=0))/\r=some (.fin .ret 0 [(4,.nil),(5,.i 27),(6,.sl .u8 hd),(7,.sl .u8 x)] []))\/((s0=0/\s1=0)/\r=some (.fin (.exit 2) 0 [(6,.sl .u8 hd),(7,AV.sl Ty.u8 [])] [])):=by
 have e0:=fun h=>UC u 0 s0 s0 s1 hd [] zam h 16 0 zaa
 have e1:=fun h=>UC u 1 s1 s0 s1 hd [] zam h 16 0 zaa
 simp only[show((0:Nat):Int)=0 from rfl] at e0 e1
 refine CU fun P hP=>?_
 rw[Ad];conv=>arg 1;whnf
 refine tw ?_
 rcases AX s0 0 with hc0|hc0
 ·
  refine tw ?_
  rw[zL _ _ zaa]
  refine tw ?_
  exact hP _ (Or.inl ⟨[],A7,rfl⟩)
 subst hc0
 replace e0:=e0 rfl
 refine tw ?_
 rw[e0]
 refine tw ?_
 refine tw ?_
 rcases AX s1 0 with hc1|hc1
 ·
  refine tw ?_
  rw[zL _ _ zaa]
  refine tw ?_
  exact hP _ (Or.inl ⟨[],A7,rfl⟩)
 subst hc1
 replace e1:=e1 rfl
 refine tw ?_
 rw[e1]
 refine tw ?_
 refine tw ?_
 exact hP _ (Or.inr ⟨A7,rfl⟩)
theorem A44(u s0 s1:Int):Ah E0 (.call 46 [.agg [AV.sl Ty.u8.sl.sl [],AV.i u],.agg [.i s0,.i s1]] []) fun r=>(∃ e:Int,(e=1/\¬(0<=s0/\s0<=65535/\0<=s1/\s1<=65535)\/e=27/\(0<=s0/\s0<=65535/\0<=s1/\s1<=65535)/\¬(s0=0/\s1=0))/\r=some (.ret (.tup [.sl .u8 [],.i e]) []))\/(((0<=s0/\s0<=65535/\0<=s1/\s1<=65535)/\(s0=0/\s1=0))/\r=some (.ret (.tup [.sl .u8 (sha256 (Ar 5 [BV (BV [] 2 s0) 2 s1,[]])),.i 0]) [])):=by
 have hf:(Ar 5 [BV (BV [] 2 s0) 2 s1,[]]).length<=4294967295:=by rw[Ae,AB,AB,List.length_nil];simp
 refine CU fun P hP=>?_
 refine tw ?_
 obtain(⟨x0,h0_1,yy0⟩|⟨⟨h0_2,h0_3,h0_4,h0_5⟩,yy0⟩):=qF u s0 s1
 ·
  refine Aq yy0 ?_
  exact hP _ (Or.inl ⟨1,A7,rfl⟩)
 refine Aq yy0 ?_
 obtain(⟨x1,h1_1,yy1⟩|⟨⟨h1_2,h1_3⟩,yy1⟩):=qG u s0 s1 (BV (BV [] 2 s0) 2 s1)
 ·
  refine Aq yy1 ?_
  exact hP _ (Or.inl ⟨27,A7,rfl⟩)
 refine Aq yy1 ?_
 rw[I8 _ _ hf zam]
 refine tw ?_
 exact hP _ (Or.inr ⟨A7,rfl⟩)
theorem A45{a:Int}{rb:List (List (List UInt8))}(u q0 q1:Int)(h:OW a rb):∃(d:List UInt8) (er:Int),d.length<=1000/\Y E0 (.call 46 [.agg [.sl (.sl (.sl .u8)) rb,.i u],.agg [.i q0,.i q1]] [])=some (.ret (.tup [.sl .u8 d,.i er]) [])/\Y E0 (.call 54 [.agg [.sl (.sl (.sl .u8)) rb,.i u],.agg [.i q0,.i q1]] [])=some (.ret (.tup [.sl .u8 d,.i er]) []):=by
 rcases h with rfl|⟨b0,b1,rfl,h0,h1,_⟩
 ·obtain⟨r,er,hr⟩:=PU (A44 u q0 q1)
  obtain⟨r',er',hr'⟩:=PU (A0y u q0 q1)
  rcases hr with⟨e,he,rfl⟩|⟨he,rfl⟩<;>rcases hr' with⟨e',he',rfl⟩|⟨he',rfl⟩
  ·obtain rfl:e=e':=zaa
   exact⟨_,_,by simp,er,er'⟩
  ·exfalso;omega
  ·exfalso;omega
  ·exact⟨_,_,by rw[A8];decide,er,er'⟩
 ·obtain⟨r,er,hr⟩:=PU (zK b0 b1 u q0 q1 h0 h1)
  obtain⟨r',er',hr'⟩:=PU (A0x b0 b1 u q0 q1 h0 h1)
  rcases hr with⟨e,he,rfl⟩|⟨he,rfl⟩<;>rcases hr' with⟨e',he',rfl⟩|⟨he',rfl⟩
  ·obtain rfl:e=e':=zaa
   exact⟨_,_,by simp,er,er'⟩
  ·exfalso;omega
  ·exfalso;omega
  ·exact⟨_,_,by unfold X7;rw[A8];decide,er,er'⟩
end
section
attribute [local irreducible] Cc Dn D7 DU DD BA Dp F7 FY FD Ez Ci CS DK DV and' DW DL C9 BR Bh CB CG BG BI Aw BC Dq Fh Dt ER DX Bl CE Bv Bz Bi Az Bg BK Bj BO Du Bc DF BZ BM Cj Di fits Dv Dk Ac Am BH
attribute [local irreducible] Dw CJ Be nameB EL Eh Ar ET E8 Ea ES F8 BV GX Eg Fv FU EE
variable (sd au:List (List UInt8))(en:List UInt8)(ac re rs ck:Int)(od:Bool)(sb:List (List (List UInt8)))(su mc:Int)(ix:List (El Gp))(l1 l2 l3 l4 l5 l6:Int)(ks:List (El J8))(st sp:Bool)(rb:List (List (List UInt8)))(ru vc:Int)(sf:Bool)(dr:Int)(ss:List (El sesT))(ob:List (El objT))(rl wl:List Int)
theorem Vq(c h:Int)(hs:List Int)(az:List (El AY))(is:List Int)(m:List UInt8)(bs:List (List UInt8))(p1 p2 p3:Int)(p4 p5 s1 s2 s3:List UInt8)(hr:Int)(r:Bool)(hl:ob.length<=1000)(hhs:hs.length<=100)(hbs:bs.length<=100)(hx:Dl ob h=some ((p1,p2,p3,p4,p5),(s1,s2,s3),hr))(h1:p1=2)(ha:r = !decide (BA .and p2 4=0))(hm:128<m.length/\m.length<=100000):
  Y E0 (.call 44 [(sX sd au en ac re rs ck od sb su mc ix l1 l2 l3 l4 l5 l6 ks st sp rb ru vc sf dr ss ob rl wl),.agg [.i c,.sl .i64 (h::hs),.sl AY az,.sl .i64 is,.sl (.sl .u8) (m::bs)],.b r] [])=some (.ret (.tup [.agg [.i p1,.i p2,.i p3,.sl .u8 p4,.sl .u8 p5,.sl .u8 s1,.sl .u8 s2,.sl .u8 s3,.i hr],.i 4]) []):=by
 subst ha
 by_cases hq:BA .and p2 4=0
 ·rw[hq,decide_eq_true rfl];refine tq ?_;rw[G6 (hl:=A7) ..];refine tq ?_;rw[H8 _ _ _ _ _ _ _ _ _ _ _ _ _ _ _ _ _ _ _ _ _ _ _ _ _ _ _ _ _ _ _ _ _ _ _ _ _ _ _ _ hl hx]
  conv=>lhs;whnf
  try dsimp -iota -beta -eta -zeta only
  rw[drw zas];conv=>lhs;whnf
  rw[Cf zaa]
  conv=>lhs;whnf
  rw[Cf zaa]
  conv=>lhs;whnf
  rw[hq];rw[show DK (FY 0 0) (!true)=true from by rw[Cf (by rfl),SS];rfl]
  conv=>lhs;whnf
  rw[DT];conv=>lhs;whnf
  try dsimp -iota -beta -eta -zeta only
  rw[AQ];rw[Gj (hl:=A7) ..];exact tq rfl
 ·rw[decide_eq_false hq];refine tq ?_;rw[G6 (hl:=A7) ..];refine tq ?_;rw[H8 _ _ _ _ _ _ _ _ _ _ _ _ _ _ _ _ _ _ _ _ _ _ _ _ _ _ _ _ _ _ _ _ _ _ _ _ _ _ _ _ hl hx]
  conv=>lhs;whnf
  try dsimp -iota -beta -eta -zeta only
  rw[drw zas];conv=>lhs;whnf
  rw[Cf zaa]
  conv=>lhs;whnf
  rw[Cf zaa]
  conv=>lhs;whnf
  rw[show DK (FY (BA .and p2 4) 0) (!false)=true from by rw[G8 hq,SS];rfl]
  conv=>lhs;whnf
  rw[DT];conv=>lhs;whnf
  try dsimp -iota -beta -eta -zeta only
  rw[AQ];rw[Gj (hl:=A7) ..];exact tq rfl
theorem wU(c h:Int)(hs:List Int)(az:List (El AY))(is:List Int)(m:List UInt8)(bs:List (List UInt8))(p1 p2 p3:Int)(p4 p5 s1 s2 s3:List UInt8)(hr:Int)(hl:ob.length<=1000)(hhs:hs.length<=100)(hbs:bs.length<=100)(hx:Dl ob h=some ((p1,p2,p3,p4,p5),(s1,s2,s3),hr))(h1:p1=2)(ha:BA .and p2 4=0)(hm:128<m.length/\m.length<=100000):
  Y E0 (.call 68 [(sX sd au en ac re rs ck od sb su mc ix l1 l2 l3 l4 l5 l6 ks st sp rb ru vc sf dr ss ob rl wl),.agg [.i c,.sl .i64 (h::hs),.sl AY az,.sl .i64 is,.sl (.sl .u8) (m::bs)]] [])=some (.ret (.tup [(sX sd au en ac re rs ck od sb su mc ix l1 l2 l3 l4 l5 l6 ks st sp rb ru vc sf dr ss ob rl wl),.agg [.i 4,.sl .i64 [],.sl (.sl .u8) [],.sl (.sl .u8) []]]) []):=by
 have e1:=Vq sd au en ac re rs ck od sb su mc ix l1 l2 l3 l4 l5 l6 ks st sp rb ru vc sf dr ss ob rl wl c h hs az is m bs p1 p2 p3 p4 p5 s1 s2 s3 hr false hl hhs hbs hx h1 (by rw[ha];rfl) hm
 refine tq ?_;rw[e1];refine tq ?_;rw[F9 ..];exact tq rfl
theorem qH(c h:Int)(hs:List Int)(az:List (El AY))(is:List Int)(m:List UInt8)(bs:List (List UInt8))(p1 p2 p3:Int)(p4 p5 s1 s2 s3:List UInt8)(hr:Int)(hl:ob.length<=1000)(hhs:hs.length<=100)(hbs:bs.length<=100)(hx:Dl ob h=some ((p1,p2,p3,p4,p5),(s1,s2,s3),hr))(h1:p1=2)(ha:BA .and p2 4≠0)(hm:128<m.length/\m.length<=100000):
  Y E0 (.call 13 [(sX sd au en ac re rs ck od sb su mc ix l1 l2 l3 l4 l5 l6 ks st sp rb ru vc sf dr ss ob rl wl),.agg [.i c,.sl .i64 (h::hs),.sl AY az,.sl .i64 is,.sl (.sl .u8) (m::bs)]] [])=some (.ret (.tup [(sX sd au en ac re rs ck od sb su mc ix l1 l2 l3 l4 l5 l6 ks st sp rb ru vc sf dr ss ob rl wl),.agg [.i 4,.sl .i64 [],.sl (.sl .u8) [],.sl (.sl .u8) []]]) []):=by
 have e1:=Vq sd au en ac re rs ck od sb su mc ix l1 l2 l3 l4 l5 l6 ks st sp rb ru vc sf dr ss ob rl wl c h hs az is m bs p1 p2 p3 p4 p5 s1 s2 s3 hr true hl hhs hbs hx h1 zbN hm
 refine tq ?_;rw[e1];refine tq ?_;rw[F9 ..];exact tq rfl
theorem qI(c h q0 q1:Int)(hs:List Int)(az:List (El AY))(m:List UInt8)(bs:List (List UInt8))(p1 p2 p3:Int)(p4 p5 s1 s2 s3:List UInt8)(hr:Int)(d:List UInt8)(e:Int)(hl:ob.length<=1000)(hhs:hs.length<=100)(hbs:bs.length<=100)(hx:Dl ob h=some ((p1,p2,p3,p4,p5),(s1,s2,s3),hr))(h1:p1=2)(ha:BA .and p2 4≠0)(hm:m.length<=128)(he:e≠0)
  (hD:Y E0 (.call 46 [.agg [.sl (.sl (.sl .u8)) rb,.i ru],.agg [.i q0,.i q1]] [])=some (.ret (.tup [.sl .u8 d,.i e]) [])) :
  Y E0 (.call 13 [(sX sd au en ac re rs ck od sb su mc ix l1 l2 l3 l4 l5 l6 ks st sp rb ru vc sf dr ss ob rl wl),.agg [.i c,.sl .i64 (h::hs),.sl AY az,.sl .i64 [q0,q1],.sl (.sl .u8) (m::bs)]] [])=some (.ret (.tup [(sX sd au en ac re rs ck od sb su mc ix l1 l2 l3 l4 l5 l6 ks st sp rb ru vc sf dr ss ob rl wl),.agg [.i e,.sl .i64 [],.sl (.sl .u8) [],.sl (.sl .u8) []]]) []):=by
 have e1:=JU sd au en ac re rs ck od sb su mc ix l1 l2 l3 l4 l5 l6 ks st sp rb ru vc sf dr ss ob rl wl c h hs az [q0,q1] m bs p1 p2 p3 p4 p5 s1 s2 s3 hr true hl hhs hbs hx h1 zbN hm
 refine tq ?_;rw[e1];refine tq ?_;rw[NR (hl:=A7) ..];refine tq ?_;rw[VV (hl:=A7) ..];refine tq ?_;rw[hD];refine tq ?_;rw[F9 ..];exact tq rfl
theorem qJ(c h q0 q1:Int)(hs:List Int)(az:List (El AY))(m:List UInt8)(bs:List (List UInt8))(p1 p2 p3:Int)(p4 p5 s1 s2 s3:List UInt8)(hr:Int)(d:List UInt8)(hl:ob.length<=1000)(hhs:hs.length<=100)(hbs:bs.length<=100)(hx:Dl ob h=some ((p1,p2,p3,p4,p5),(s1,s2,s3),hr))(h1:p1=2)(ha:BA .and p2 4≠0)(hm:m.length<=128)(hkl:ks.length<=100)(hh:0<=p3/\p3<=3)(hu:∀ x∈ks,0<=x.2/\x.2<=1000)(h2:s2.length<=1000)(h4:p4.length<=1000)(h5:p5.length<=1000)(he:(EE ks p5 p3).2.2≠0)(hd:d.length<=1000)
  (hD:Y E0 (.call 46 [.agg [.sl (.sl (.sl .u8)) rb,.i ru],.agg [.i q0,.i q1]] [])=some (.ret (.tup [.sl .u8 d,.i 0]) [])) :
  Y E0 (.call 13 [(sX sd au en ac re rs ck od sb su mc ix l1 l2 l3 l4 l5 l6 ks st sp rb ru vc sf dr ss ob rl wl),.agg [.i c,.sl .i64 (h::hs),.sl AY az,.sl .i64 [q0,q1],.sl (.sl .u8) (m::bs)]] [])=some (.ret (.tup [(sX sd au en ac re rs ck od sb su mc ix l1 l2 l3 l4 l5 l6 ks st sp rb ru vc sf dr ss ob rl wl),.agg [.i (EE ks p5 p3).2.2,.sl .i64 [],.sl (.sl .u8) [],.sl (.sl .u8) []]]) []):=by
 have e1:=JU sd au en ac re rs ck od sb su mc ix l1 l2 l3 l4 l5 l6 ks st sp rb ru vc sf dr ss ob rl wl c h hs az [q0,q1] m bs p1 p2 p3 p4 p5 s1 s2 s3 hr true hl hhs hbs hx h1 zbN hm
 have hn:=Aa ⟨p1,p2,p3,p4,p5⟩
 have ea:=TQ ⟨nameB ⟨p1,p2,p3,p4,p5⟩,m,re,rs,vc,sf,ru,q0,q1,d⟩ zay zay zay
 dsimp only[Qu] at ea
 generalize FU ⟨nameB ⟨p1,p2,p3,p4,p5⟩,m,re,rs,vc,sf,ru,q0,q1,d⟩=Q at *
 have e2:=eQ sd au en ac re rs ck od sb su mc ix l1 l2 l3 l4 l5 l6 ks st sp rb ru vc sf dr ss ob rl wl p1 p2 p3 p4 p5 s1 s2 s3 hr Q hkl hh hu he
 refine tq ?_;rw[e1];refine tq ?_;rw[NR (hl:=A7) ..];refine tq ?_;rw[VV (hl:=A7) ..];refine tq ?_;rw[hD];refine tq ?_;rw[Qg _ _ _ _ _ A7 A7];refine tq ?_;rw[Gj (hl:=A7) ..];refine tq ?_;rw[ea];refine tq ?_;rw[e2];refine tq ?_;rw[F9 ..];exact tq rfl
end
end Go.Proofs.YtnhgnfdbdflhcaaGreatDoor
