/- Own texts of this claim: contracts of functions. -/
import Derived.Test.YtlpkjhhfhannpaaGreatDoorBtae
import Derived.Test.YtlpkjhhfhannpaaGreatDoorBtaf
set_option linter.all false
set_option maxHeartbeats 40000000
set_option maxRecDepth 100000
namespace Go.Proofs.YtlpkjhhfhannpaaGreatDoor
open Go Go.Ax Go.Eng
attribute [local irreducible] CS Cj CP CW CQ BC Cm ED ES Dx EG CJ Bi Ce CX and' Cf CU BL Au BI BP BR Ag Ai AY Ae D5 EJ D6 DX Cb BZ BQ BM BO BJ AZ BK Aj Ak Ap D7 BB CV BU BF CO D8 Cc fits D9 Ci AC AQ Ah
section
attribute [local irreducible] IJ GI JD DI nameB Ef wkey ai Pv Eh
variable (k h:Int)(a s d:List UInt8)
theorem TA(ha:a.length<=100000)(hs:s.length<=100000)(hd:d.length<=100000):Y E0 (.call 309 [.i k,.i h,.agg [.sl .u8 a,.sl .u8 s,.sl .u8 d]] [])=some (.ret (.sl .u8 (Ef k h ⟨a,s,d⟩)) []):=by
 refine tq ?_
 rcases Ar k 2 with hc0|hc0
 ·subst hc0;refine tq ?_;rw[A7Z _ _ AA];refine tq ?_
  exact zaR
 refine tq ?_;rw[Fe _ _ AA AA];refine tq ?_
 exact zaR
theorem Om(ha:a.length<=100000)(hs:s.length<=100000)(hd:d.length<=100000):Y E0 (.call 115 [.agg [.sl .u8 a,.sl .u8 s,.sl .u8 d],.i k,.i h] [])=some (.ret (.sl .u8 (Ef k h ⟨a,s,d⟩)) []):=by
 refine tq ?_
 rcases Ar k 2 with hc0|hc0
 ·subst hc0;refine tq ?_;rw[nS _ _ AA];refine tq ?_
  exact zaR
 refine tq ?_;rw[FK _ _ AA AA];refine tq ?_
 exact zaR
theorem LD(e:Int):Y E0 (.call 308 [.i e] [])=some (.ret (.tup [.agg (A0r Yg),.agg (A45 Zb),.i e]) []):=by
 refine tq ?_
 rfl
theorem A4Z(secret:List UInt8)(k a h:Int)(o u auth data:List UInt8)(hs:secret.length<=100000):Y E0 (.call 253 [.sl .u8 secret,.agg [.i k,.i a,.i h,.sl .u8 o,.sl .u8 u],.sl .u8 auth,.sl .u8 data] [])=some (.ret (.tup [.agg (A0r (CY secret ⟨k,a,h,o,u⟩ auth data).1),.agg (A45 (CY secret ⟨k,a,h,o,u⟩ auth data).2.1),.i (CY secret ⟨k,a,h,o,u⟩ auth data).2.2]) []):=by
 have hu:=iM k
 have hd:=Et (key:=secret) (label:=Jz) (ctx:=[]) (n:=32) zaa
 have hE:BU (uniq k) (0:UInt8)=List.replicate (uniq k).toNat 0:=by rw[Ea]
 by_cases hk:k=2
 ·subst hk
  have hr:BU 17 (0:UInt8)=List.replicate (uniq 2).toNat 0:=zbw
  rw[AL]
  conv=>lhs;whnf
  rw[LM zaa]
  conv=>lhs;whnf
  rw[Dz zaa]
  conv=>lhs;whnf
  rw[Dz zaa]
  conv=>lhs;whnf
  rw[hr];refine tq ?_;rw[VY ..];refine tq ?_
  rcases CE (DI {kind:=2,attr:=a,height:=h,policy:=o,unique:=List.replicate (uniq 2).toNat 0}) 0 with hc0|hc0
  ·refine tq ?_;rw[LD _];refine tq ?_
   exact zaf
  refine tq ?_
  rcases Bc 32 (↑auth.length) with hc1|hc1
  ·refine tq ?_;rw[LD _];refine tq ?_
   exact zaf
  refine tq ?_
  rcases Bc 128 (↑data.length) with hc2|hc2
  ·refine tq ?_;rw[LD _];refine tq ?_
   exact zaf
  refine tq ?_
  rcases Bc 0 (↑data.length) with hc3|hc3
  ·refine tq ?_;rw[LD _];refine tq ?_
   exact zaf
  refine tq ?_;rw[show strOf {data := #[115,101,101,100]}=Jz from rfl,GH _ _ _ _ zaa zaj zat];refine tq ?_;rw[TA _ _ _ _ _ AA AA AA];refine tq ?_
  exact zaf
 ·have hr:BU 32 (0:UInt8)=List.replicate (uniq k).toNat 0:=by rw[Ea,uniq,if_neg hk]
  rw[AL]
  conv=>lhs;whnf
  rw[hr];refine tq ?_;rw[VY ..];refine tq ?_
  rcases CE (DI {kind:=k,attr:=a,height:=h,policy:=o,unique:=List.replicate (uniq k).toNat 0}) 0 with hc0|hc0
  ·refine tq ?_;rw[LD _];refine tq ?_
   exact zaf
  refine tq ?_
  rcases Bc 32 (↑auth.length) with hc1|hc1
  ·refine tq ?_;rw[LD _];refine tq ?_
   exact zaf
  refine tq ?_
  rcases Bc 128 (↑data.length) with hc2|hc2
  ·refine tq ?_;rw[LD _];refine tq ?_
   exact zaf
  refine tq ?_
  rcases Bc 0 (↑data.length) with hc3|hc3
  ·refine tq ?_
   rcases CE k 3 with hc4|hc4
   ·refine tq ?_;rw[LD _];refine tq ?_
    exact zaf
   subst hc4;refine tq ?_;rw[show strOf {data := #[115,101,101,100]}=Jz from rfl,GH _ _ _ _ zaa zaj zat];refine tq ?_;rw[TA _ _ _ _ _ AA AA AA];refine tq ?_
   exact zaf
  refine tq ?_;rw[show strOf {data := #[115,101,101,100]}=Jz from rfl,GH _ _ _ _ zaa zaj zat];refine tq ?_;rw[TA _ _ _ _ _ AA AA AA];refine tq ?_
  exact zaf
theorem uz(secret:List UInt8)(k a h:Int)(o u auth data:List UInt8)(hs:secret.length<=100000):Y E0 (.call 71 [.sl .u8 secret,.agg [.i k,.i a,.i h,.sl .u8 o,.sl .u8 u],.sl .u8 auth,.sl .u8 data] [])=some (.ret (.tup [.agg (A0r (CY secret ⟨k,a,h,o,u⟩ auth data).1),.agg (A45 (CY secret ⟨k,a,h,o,u⟩ auth data).2.1),.i (CY secret ⟨k,a,h,o,u⟩ auth data).2.2]) []):=by
 have hu:=iM k
 have hd:=Et (key:=secret) (label:=Jz) (ctx:=[]) (n:=32) zaa
 have hE:BU (uniq k) (0:UInt8)=List.replicate (uniq k).toNat 0:=by rw[Ea]
 by_cases hk:k=2
 ·subst hk
  have hr:BU 17 (0:UInt8)=List.replicate (uniq 2).toNat 0:=zbw
  refine tq ?_;rw[F9 _]
  conv=>lhs;whnf
  rw[hE];refine tq ?_;rw[WM ..];refine tq ?_
  rcases CE (DI {kind:=2,attr:=a,height:=h,policy:=o,unique:=List.replicate (uniq 2).toNat 0}) 0 with hc0|hc0
  ·refine tq ?_
   exact zaf
  refine tq ?_
  rcases Bc 32 (↑auth.length) with hc1|hc1
  ·refine tq ?_
   exact zaf
  refine tq ?_
  rcases Bc 128 (↑data.length) with hc2|hc2
  ·refine tq ?_
   exact zaf
  refine tq ?_
  rcases Bc 0 (↑data.length) with hc3|hc3
  ·refine tq ?_
   exact zaf
  refine tq ?_;rw[show strOf {data := #[115,101,101,100]}=Jz from rfl,Il _ _ _ _ zaa zaj zat];refine tq ?_;rw[Om _ _ _ _ _ AA AA AA];refine tq ?_
  exact zaf
 ·have hr:BU 32 (0:UInt8)=List.replicate (uniq k).toNat 0:=by rw[Ea,uniq,if_neg hk]
  refine tq ?_;rw[F9 _]
  conv=>lhs;whnf
  rw[hE];refine tq ?_;rw[WM ..];refine tq ?_
  rcases CE (DI {kind:=k,attr:=a,height:=h,policy:=o,unique:=List.replicate (uniq k).toNat 0}) 0 with hc0|hc0
  ·refine tq ?_
   exact zaf
  refine tq ?_
  rcases Bc 32 (↑auth.length) with hc1|hc1
  ·refine tq ?_
   exact zaf
  refine tq ?_
  rcases Bc 128 (↑data.length) with hc2|hc2
  ·refine tq ?_
   exact zaf
  refine tq ?_
  rcases Bc 0 (↑data.length) with hc3|hc3
  ·refine tq ?_
   rcases CE k 3 with hc4|hc4
   ·refine tq ?_
    exact zaf
   subst hc4;refine tq ?_;rw[show strOf {data := #[115,101,101,100]}=Jz from rfl,Il _ _ _ _ zaa zaj zat];refine tq ?_;rw[Om _ _ _ _ _ AA AA AA];refine tq ?_
   exact zaf
  refine tq ?_;rw[show strOf {data := #[115,101,101,100]}=Jz from rfl,Il _ _ _ _ zaa zaj zat];refine tq ?_;rw[Om _ _ _ _ _ AA AA AA];refine tq ?_
  exact zaf
theorem A0v(nm:List UInt8)(hs:s.length<=100000)(hn:nm.length<=100000):Y E0 (.call 118 [.agg [.sl .u8 a,.sl .u8 s,.sl .u8 d],.sl .u8 nm] [])=some (.ret (.sl .u8 (wkey ⟨a,s,d⟩ nm)) []):=by
 refine tq ?_;rw[show strOf {data := #[112,114,105,118,97,116,101]}=A8t from rfl,Il _ _ _ _ zaa zaj zaa];refine tq ?_
 (unfold wkey;rfl)
theorem vC(k t h:Int)(o u a' s' d':List UInt8)(hs:s.length<=100000)(ho:o.length<=60000)(hu:u.length<=60000):Y E0 (.call 72 [.agg [.sl .u8 a,.sl .u8 s,.sl .u8 d],.agg [.i k,.i t,.i h,.sl .u8 o,.sl .u8 u],.agg [.sl .u8 a',.sl .u8 s',.sl .u8 d']] [])=some (.ret (.nm 0) [some (.row 5 .u8 (F5 ⟨a,s,d⟩ ⟨k,t,h,o,u⟩ ⟨a',s',d'⟩))]):=by
 have hn:=DD ⟨k,t,h,o,u⟩
 have he:=Js (p:=⟨k,t,h,o,u⟩) za1 za1
 have hw:=EE ⟨a,s,d⟩ (nameB ⟨k,t,h,o,u⟩)
 simp only at he
 refine tq ?_;rw[Z4 _ _ _ _ _ AA AA];refine tq ?_;rw[GK _ _ AA];refine tq ?_;rw[GK _ _ AA];refine tq ?_;rw[GK _ _ AA];refine tq ?_;rw[A0v _ _ _ _ AA AA];refine tq ?_;rw[MG _ _ _ _ _ AA AA];refine tq ?_;rw[A0u _ _ _ _ AA AA];refine tq ?_
 (unfold F5 Yi;rfl)
end
section
attribute [local irreducible] BG DY
theorem QE(x:UInt8)(m:Nat)(hm:m<=1000):∀(k j:Nat),j+k=m->Y E0 (.loop 93 0 0 1 [(0,.i (m:Int)),(1,.u8 x),(5,.nm 0),(6,.i (j:Int))] [(0,some (.row 5 .u8 (List.replicate j x++List.replicate k 0)))])=some (.fin (.exit 0) 0 [(5,.sl .u8 (List.replicate m x))] [])
 | 0,j,hj=>by
  obtain rfl:j=m:=zaa
  refine tq ?_
  simp
 | k+1,j,hj=>by
  have ih:=QE x m hm k (j+1) zaa
  rw[show((j+1:Nat):Int)=(j:Int)+1 from by omega,<-A7O] at ih
  have hs:BB (List.replicate j x++List.replicate (k+1) 0) (j:Int) x=(List.replicate j x++List.replicate (k+1) 0).set j x:=by rw[EL];simp
  refine tq ?_;rw[hs];exact ih
theorem bU(n:Int)(x:UInt8)(hn:0<=n/\n<=1000):Y E0 (.call 93 [.i n,.u8 x] [])=some (.ret (.sl .u8 (List.replicate n.toNat x)) []):=by
 obtain⟨m,rfl⟩:∃ m:Nat,n=m:=⟨n.toNat,by omega⟩
 have hl:=QE x m zaa m 0 zaa
 rw[show((0:Nat):Int)=0 from rfl,List.replicate_zero,List.nil_append] at hl
 have he:BU (m:Int) (0:UInt8)=List.replicate m 0:=by rw[Ea];simp
 refine tq ?_;rw[he,hl];refine tq ?_
 simp
theorem bV(b:Int):Y E0 (.call 94 [.i b] [])=some (.ret (.i (Qz b)) []):=by
 refine tq ?_
 rcases Ar b 0 with hc0|hc0
 ·subst hc0;refine tq ?_
  unfold Qz;(repeat(first|rw[if_pos zaG]|rw[if_neg zaG]));try simp only[NO]
 refine tq ?_
 rcases Ar b 1 with hc1|hc1
 ·subst hc1;refine tq ?_
  unfold Qz;(repeat(first|rw[if_pos zaG]|rw[if_neg zaG]));try simp only[NO]
 refine tq ?_
 unfold Qz;(repeat(first|rw[if_pos zaG]|rw[if_neg zaG]));try simp only[NO]
theorem bW(b j:Int)(hb:b=0\/b=1):Y E0 (.call 54 [.i b,.i j] [])=some (.ret (.sl .u8 (List.replicate (Qz b).toNat (if 12<=j then 255 else 0))) []):=by
 have hs:0<=Qz b/\Qz b<=1000:=by unfold Qz;split<;>(try split)<;>omega
 refine tq ?_
 rcases Gw 12 j with hc0|hc0
 ·refine tq ?_;rw[bV _];refine tq ?_;rw[bU _ _ AA];refine tq ?_
  (rw[if_pos zaa];try rfl)
 refine tq ?_;rw[bV _];refine tq ?_;rw[bU _ _ AA];refine tq ?_
 (rw[if_neg zaa];try rfl)
theorem nV(a:Int)(h:BC .and (Bi a (BZ 0).toNat) 1=1):∀(k j:Nat),j+k=16->Y E0 (.loop 13 1 0 3 [(0,.i a),(2,.pa 0 0),(3,.pa 1 0),(4,.i 0),(5,.nm 2),(6,.i (j:Int))] [(0,some (.var [.nil,.i 0])),(1,some (.var [.nil,.i 0])),(2,some (.row 22 (.sl .u8) (Je 20 j)))])=some (.fin (.exit 2) 3 [(0,.i a),(2,.pa 0 0),(3,.pa 1 0),(4,.i 0),(5,.nm 2)] [(0,some (.var [.nil,.i 0])),(1,some (.var [.nil,.i 0])),(2,some (.row 22 (.sl .u8) (Je 20 16)))])
 | 0,j,hj=>by
  obtain rfl:j=16:=zaa
  exact tq rfl
 | k+1,j,hj=>by
  have ih:=nV a h k (j+1) zaa
  rw[show((j+1:Nat):Int)=(j:Int)+1 from by omega,<-Yk 0 20 j rfl] at ih
  refine tq ?_;rw[bW _ _ AA];refine tq ?_;exact ih
theorem A0w(a:Int)(h:BC .and (Bi a (BZ 0).toNat) 1≠1):Y E0 (.loop 13 1 0 3 [(0,.i a),(2,.pa 0 0),(3,.pa 1 0),(4,.i 0),(5,.nm 2),(6,.i 0)] [(0,some (.var [.nil,.i 0])),(1,some (.var [.nil,.i 0])),(2,some (.row 22 (.sl .u8) []))])=some (.fin (.exit 2) 3 [(0,.i a),(2,.pa 0 0),(3,.pa 1 0),(4,.i 0),(5,.nm 2)] [(0,some (.var [.nil,.i 0])),(1,some (.var [.nil,.i 0])),(2,some (.row 22 (.sl .u8) []))]):=by
 exact tq rfl
theorem nX(a:Int)(l:List (List UInt8))(h:BC .and (Bi a (BZ 1).toNat) 1=1):∀(k j:Nat),j+k=16->Y E0 (.loop 13 1 0 5 [(0,.i a),(2,.pa 0 0),(3,.pa 1 0),(4,.i 1),(5,.nm 2),(6,.i (j:Int))] [(0,some (.var [.nil,.i 0])),(1,some (.var [.nm 3,.i 0])),(2,some (.row 22 (.sl .u8) (Je 32 j))),(3,some (.rowA 24 1 1 [.nm 4])),(4,some (.row 22 (.sl .u8) l))])=some (.fin (.exit 2) 5 [(0,.i a),(2,.pa 0 0),(3,.pa 1 0),(4,.i 1),(5,.nm 2)] [(0,some (.var [.nil,.i 0])),(1,some (.var [.nm 3,.i 0])),(2,some (.row 22 (.sl .u8) (Je 32 16))),(3,some (.rowA 24 1 1 [.nm 4])),(4,some (.row 22 (.sl .u8) l))])
 | 0,j,hj=>by
  obtain rfl:j=16:=zaa
  exact tq rfl
 | k+1,j,hj=>by
  have ih:=nX a l h k (j+1) zaa
  rw[show((j+1:Nat):Int)=(j:Int)+1 from by omega,<-Yk 1 32 j rfl] at ih
  refine tq ?_;rw[bW _ _ AA];refine tq ?_;exact ih
theorem A0x(a:Int)(l:List (List UInt8))(h:BC .and (Bi a (BZ 1).toNat) 1≠1):Y E0 (.loop 13 1 0 5 [(0,.i a),(2,.pa 0 0),(3,.pa 1 0),(4,.i 1),(5,.nm 2),(6,.i 0)] [(0,some (.var [.nil,.i 0])),(1,some (.var [.nm 3,.i 0])),(2,some (.row 22 (.sl .u8) [])),(3,some (.rowA 24 1 1 [.nm 4])),(4,some (.row 22 (.sl .u8) l))])=some (.fin (.exit 2) 5 [(0,.i a),(2,.pa 0 0),(3,.pa 1 0),(4,.i 1),(5,.nm 2)] [(0,some (.var [.nil,.i 0])),(1,some (.var [.nm 3,.i 0])),(2,some (.row 22 (.sl .u8) [])),(3,some (.rowA 24 1 1 [.nm 4])),(4,some (.row 22 (.sl .u8) l))]):=by
 exact tq rfl
theorem A4a(a:Int)(l:List (List UInt8))(hl:l=if BC .and (Bi a (BZ 0).toNat) 1=1 then GR 20 else []):Y E0 (.loop 13 1 0 3 [(0,.i a),(2,.pa 0 0),(3,.pa 1 0),(4,.i 0),(5,.nm 2),(6,.i 0)] [(0,some (.var [.nil,.i 0])),(1,some (.var [.nil,.i 0])),(2,some (.row 22 (.sl .u8) []))])=some (.fin (.exit 2) 3 [(0,.i a),(2,.pa 0 0),(3,.pa 1 0),(4,.i 0),(5,.nm 2)] [(0,some (.var [.nil,.i 0])),(1,some (.var [.nil,.i 0])),(2,some (.row 22 (.sl .u8) l))]):=by
 by_cases h:BC .and (Bi a (BZ 0).toNat) 1=1
 ·rw[if_pos h] at hl;subst hl;exact nV a h 16 0 zaa
 ·rw[if_neg h] at hl;subst hl;exact A0w a h
theorem A4b(a:Int)(l l':List (List UInt8))(hl:l'=if BC .and (Bi a (BZ 1).toNat) 1=1 then GR 32 else []):Y E0 (.loop 13 1 0 5 [(0,.i a),(2,.pa 0 0),(3,.pa 1 0),(4,.i 1),(5,.nm 2),(6,.i 0)] [(0,some (.var [.nil,.i 0])),(1,some (.var [.nm 3,.i 0])),(2,some (.row 22 (.sl .u8) [])),(3,some (.rowA 24 1 1 [.nm 4])),(4,some (.row 22 (.sl .u8) l))])=some (.fin (.exit 2) 5 [(0,.i a),(2,.pa 0 0),(3,.pa 1 0),(4,.i 1),(5,.nm 2)] [(0,some (.var [.nil,.i 0])),(1,some (.var [.nm 3,.i 0])),(2,some (.row 22 (.sl .u8) l')),(3,some (.rowA 24 1 1 [.nm 4])),(4,some (.row 22 (.sl .u8) l))]):=by
 by_cases h:BC .and (Bi a (BZ 1).toNat) 1=1
 ·rw[if_pos h] at hl;subst hl;exact nX a l h 16 0 zaa
 ·rw[if_neg h] at hl;subst hl;exact A0x a l h
theorem A4c(a:Int)(ha:0<=a):Y E0 (.call 13 [.i a] [])=some (.ret (.agg [.sl (.sl (.sl .u8)) (EI a),.i 0]) []):=by
 have e3:BC .and a 3=a%4:=KO 2 zaj a
 have b0:BC .and (Bi a (BZ 0).toNat) 1=a%2:=by rw[show(BZ 0).toNat=0 from by rw[JM];rfl,Ho zaa];exact(KO 1 zaj _).trans zat
 have b1:BC .and (Bi a (BZ 1).toNat) 1=a/2%2:=by rw[show(BZ 1).toNat=1 from by rw[JM];rfl,Ho zaa];exact(KO 1 zaj _).trans zat
 have q0:=A4a a _ (by rw[b0])
 have q1:=A4b a (if a%2=1 then GR 20 else []) _ (by rw[b1])
 have hl:Y E0 (.loop 13 0 0 2 [(0,AV.i a),(2,AV.pa 0 0),(3,AV.pa 1 0),(4,AV.i 0)] [(0,some (Rs.var [AV.nil,AV.i 0])),(1,some (Rs.var [AV.nil,AV.i 0]))])=some (.fin (.exit 0) 5 [(2,.pa 0 0),(3,.pa 1 0)] [(0,some (.var [.nil,.i 0])),(1,some (.var [.nm 2,.i 0])),(2,some (.rowA 24 1 2 [.nm 3,.nm 4])),(3,some (.row 22 (.sl .u8) (if a%2=1 then GR 20 else []))),(4,some (.row 22 (.sl .u8) (if a/2%2=1 then GR 32 else [])))]):=by
  refine tq ?_;rw[q0];refine tq ?_;refine tq ?_;rw[show(0:Int)+1=1 from rfl,q1];refine tq ?_;exact tq rfl
 refine tq ?_;rw[e3]
 rcases Ar (a%4) 0 with hc0|hc0
 ·refine tq ?_
  (rw[EI,if_pos (show a%4=0 by omega)])
 refine tq ?_;rw[hl];refine tq ?_
 (rw[EI,if_neg (show ¬a%4=0 by omega)])
variable (sd au:List (List UInt8))(en:List UInt8)(ac re rs ck:Int)(od:Bool)(sb:List (List (List UInt8)))(su mc:Int)(ix:List (El Bf))(l1 l2 l3 l4 l5 l6:Int)(ks:List (El E8))(st sp:Bool)(rb:List (List (List UInt8)))(ru vc:Int)(sf:Bool)(dr:Int)(ss:List (El sesT))(ob:List (El objT))(rl wl:List Int)
end
theorem Z9(x:UInt8):Y E0 (.call 289 [.i 32,.u8 x] [])=some (.ret (.sl .u8 (List.replicate 32 x)) []):=by
 refine tq ?_
 refine tq ?_
 with_reducible rfl
theorem b20:BC .and (Bi 2 (BZ 0).toNat) 1=0:=by
 rw[show(BZ 0).toNat=0 from by rw[JM];rfl,Ho zaa];exact(KO 1 zaj _).trans zat
theorem b21:BC .and (Bi 2 (BZ 1).toNat) 1=1:=by
 rw[show(BZ 1).toNat=1 from by rw[JM];rfl,Ho zaa];exact(KO 1 zaj _).trans zat
theorem UV:Y E0 (.call 286 [.i 1] [])=some (.ret (.i 32) []):=by
 refine tq ?_
 with_reducible rfl
theorem A4d:Y E0 (.loop 221 1 0 3 [(0,.i 2),(2,.pa 0 0),(3,.pa 1 0),(4,.i 0),(5,.nm 2),(6,.i 0),(12,.i 0)] [(0,some (.var [.nil,.i 0])),(1,some (.var [.nil,.i 0])),(2,some (.row 22 (.sl .u8) []))])=some (.fin (.exit 2) 3 [(0,.i 2),(2,.pa 0 0),(3,.pa 1 0),(5,.nm 2),(12,.i 0)] [(0,some (.var [.nil,.i 0])),(1,some (.var [.nil,.i 0])),(2,some (.row 22 (.sl .u8) []))]):=by
 have b:=b20
 rw[AL];conv=>lhs;whnf
 refine tq ?_
 with_reducible rfl
theorem nY:∀(k j:Nat),j+k=16->Y E0 (.loop 221 1 0 5 [(0,.i 2),(2,.pa 0 0),(3,.pa 1 0),(4,.i 1),(5,.nm 2),(6,.i (j:Int)),(12,.i 1)] [(0,some (.var [.nil,.i 0])),(1,some (.var [.nm 3,.i 0])),(2,some (.row 22 (.sl .u8) (Je 32 j))),(3,some (.rowA 24 1 1 [.nm 4])),(4,some (.row 22 (.sl .u8) []))])=some (.fin (.exit 2) 5 [(0,.i 2),(2,.pa 0 0),(3,.pa 1 0),(5,.nm 2),(12,.i 1)] [(0,some (.var [.nil,.i 0])),(1,some (.var [.nm 3,.i 0])),(2,some (.row 22 (.sl .u8) (Je 32 16))),(3,some (.rowA 24 1 1 [.nm 4])),(4,some (.row 22 (.sl .u8) []))])
 | 0,j,hj=>by
  have b:=b21
  obtain rfl:j=16:=zaa
  rw[AL];conv=>lhs;whnf
  refine tq ?_
  with_reducible rfl
 | k+1,j,hj=>by
  have b:=b21
  have ih:=nY k (j+1) zaa
  have e:Je 32 (j+1)=BF (Je 32 j) [List.replicate 32 (if(12:Int)<=(j:Int) then(255:UInt8) else 0)]:=(Yk 1 32 j rfl).symm
  rw[show((j+1:Nat):Int)=(j:Int)+1 from by omega,e] at ih
  by_cases hc:(12:Int)<=(j:Int)
  ·rw[if_pos hc] at ih
   rw[AL];conv=>lhs;whnf
   rw[Dl zaa]
   conv=>lhs;whnf
   rw[b]
   refine tq ?_
   rw[UV]
   refine tq ?_
   rw[Z9 _]
   refine tq ?_
   exact ih
  ·rw[if_neg hc] at ih
   rw[AL];conv=>lhs;whnf
   rw[Dl zaa]
   conv=>lhs;whnf
   rw[b]
   refine tq ?_
   rw[UV]
   refine tq ?_
   rw[Z9 _]
   refine tq ?_
   exact ih
theorem A7c:Y E0 (.loop 221 0 0 2 [(0,.i 2),(2,.pa 0 0),(3,.pa 1 0),(12,.i 0)] [(0,some (.var [.nil,.i 0])),(1,some (.var [.nil,.i 0]))])=some (.fin (.exit 0) 5 [(2,.pa 0 0),(3,.pa 1 0)] [(0,some (.var [.nil,.i 0])),(1,some (.var [.nm 2,.i 0])),(2,some (.rowA 24 1 2 [.nm 3,.nm 4])),(3,some (.row 22 (.sl .u8) [])),(4,some (.row 22 (.sl .u8) (Je 32 16)))]):=by
 have q0:=A4d
 have q1:=nY 16 0 rfl
 rw[show((0:Nat):Int)=0 from rfl,show Je 32 0=[] from rfl] at q1
 refine tq ?_
 rw[q0]
 refine tq ?_
 refine tq ?_
 rw[show(0:Int)+1=1 from rfl,q1]
 refine tq ?_
 exact tq rfl
theorem A4e:Y E0 (.call 221 [.i 2] [])=some (.ret (.agg [.nm 0,.i 0]) [some (.rowA 24 1 2 [.nm 1,.nm 2]),some (.row 22 (.sl .u8) []),some (.row 22 (.sl .u8) (Je 32 16))]):=by
 have e3:BC .and 2 3=2:=KO 2 zaj 2
 rw[AL]
 conv=>lhs;whnf
 rw[e3]
 refine tq ?_
 rw[A7c]
 exact tq rfl
section
attribute [local irreducible] BG DY
theorem A7d:Y E0 (.call 97 [] [])=some (.ret (.agg [.i 0,.i 5,.i 100,.i 0,.i 0,.i 1000]) []):=by
 refine tq ?_
 with_reducible rfl
theorem A0y(en:List UInt8)(a:Int)(he:en.length=32)(e:List (List UInt8)):Y E0 (.loop 59 0 0 3 [(0,AV.sl Ty.u8 en),(4,AV.pa 0 0),(6,AV.pa 1 0),(24,AV.i 0)] [(0,some (Rs.var [AV.nil,AV.nil,AV.nil,AV.i 0,AV.i 0,AV.i 0,AV.i 0,AV.b false,AV.nil,AV.i 0,AV.i 0,AV.nil,AV.i 0,AV.i 0,AV.i 0,AV.i 0,AV.i 0,AV.i 0,AV.nil])),(1,some (Rs.var [AV.nil,AV.nm 2,AV.nil,AV.i a,AV.i 0,AV.i 0,AV.i 0,AV.b true,AV.nil,AV.i 0,AV.i 0,AV.nil,AV.i 0,AV.i 5,AV.i 100,AV.i 0,AV.i 0,AV.i 1000,AV.nil])),(2,some (Rs.row 22 Ty.u8.sl e))])=some (.fin (.exit 0) 4 [(0,AV.sl Ty.u8 en),(4,AV.pa 0 0),(6,AV.pa 1 0)] [(0,some (Rs.var [AV.nil,AV.nil,AV.nil,AV.i 0,AV.i 0,AV.i 0,AV.i 0,AV.b false,AV.nil,AV.i 0,AV.i 0,AV.nil,AV.i 0,AV.i 0,AV.i 0,AV.i 0,AV.i 0,AV.i 0,AV.nil])),(1,some (Rs.var [AV.nm 2,AV.nm 3,AV.nil,AV.i a,AV.i 0,AV.i 0,AV.i 0,AV.b true,AV.nil,AV.i 0,AV.i 0,AV.nil,AV.i 0,AV.i 5,AV.i 100,AV.i 0,AV.i 0,AV.i 1000,AV.nil])),(2,some (Rs.row 22 Ty.u8.sl (Ad en))),(3,some (Rs.row 22 Ty.u8.sl e))]):=by
 rw[AL];conv=>lhs;whnf
 refine tq ?_
 rw[GH _ _ _ _ AA AA AA]
 refine tq ?_
 refine tq ?_
 rw[GH _ _ _ _ AA AA AA]
 refine tq ?_
 refine tq ?_
 rw[GH _ _ _ _ AA AA AA]
 refine tq ?_
 refine tq ?_
 (rw[Ac,Ac,Dq,Dq,Dq];rfl)
theorem A7e(en:List UInt8)(a:Int)(he:en.length=32)(ha:0<=a/\a<=3):Y E0 (.call 59 [.sl .u8 en,.i a] [])=some (.ret (.tup [.agg (VW (Ad en) [[],[],[],[]] (BG en BN [] 32) a 0 0 0 true [] 0 0 [] 0 5 100 0 0 1000 []),.i 0]) []):=by
 have h:=A0y en a he [[],[],[],[]]
 have e4:BU 4 ([]:List UInt8)=[[],[],[],[]]:=zbw
 refine tq ?_
 rw[A7d]
 refine tq ?_
 rw[e4,h]
 refine tq ?_
 rw[GH _ _ _ _ AA AA AA]
 refine tq ?_
 rfl
theorem nZ(b:Int):Y E0 (.call 286 [.i b] [])=some (.ret (.i (Qz b)) []):=by
 refine tq ?_
 rcases Ar b 0 with hc0|hc0
 ·
  subst hc0
  refine tq ?_
  unfold Qz;(repeat(first|rw[if_pos zaH]|rw[if_neg zaH]));try simp only[NO]
 refine tq ?_
 rcases Ar b 1 with hc1|hc1
 ·
  subst hc1
  refine tq ?_
  unfold Qz;(repeat(first|rw[if_pos zaH]|rw[if_neg zaH]));try simp only[NO]
 refine tq ?_
 unfold Qz;(repeat(first|rw[if_pos zaH]|rw[if_neg zaH]));try simp only[NO]
variable (sd au:List (List UInt8))(en:List UInt8)(ac re rs ck:Int)(od:Bool)(sb:List (List (List UInt8)))(su mc:Int)(ix:List (El Bf))(l1 l2 l3 l4 l5 l6:Int)(ks:List (El E8))(st sp:Bool)(rb:List (List (List UInt8)))(ru vc:Int)(sf:Bool)(dr:Int)(ss:List (El sesT))(ob:List (El objT))(rl wl:List Int)
theorem A0z(h:st=false/\sp=false)(ha:ac=2)(hre:0<=re/\re<=1000000):Y E0 (.call 184 [(sX sd au en ac re rs ck od sb su mc ix l1 l2 l3 l4 l5 l6 ks st sp rb ru vc sf dr ss ob rl wl),.i 0] [])=some (.ret (.tup [(sX sd au en ac (re+1) 0 ck false [] 0 mc ix l1 l2 l3 l4 l5 l6 ks true sp (EI 2) 0 ck od dr ss ob rl wl),.i 0]) []):=by
 obtain⟨rfl,rfl⟩:=h
 subst ha
 refine tp ?_
 rw[A4e]
 refine tq ?_
 rfl
theorem yV(ar:List (List UInt8))(wr cu to:Int)(of on:Bool)(nx:Int)(sd au:List (List UInt8))(en:List UInt8)(ac re rs ck:Int)(od:Bool)(sb:List (List (List UInt8)))(su mc:Int)(ix:List (El Bf))(l1 l2 l3 l4 l5 l6:Int)(ks:List (El E8))(st sp:Bool)(rb:List (List (List UInt8)))(ru vc:Int)(sf:Bool)(dr:Int)(ss:List (El sesT))(ob:List (El objT))(rl wl:List Int):Y E0 (.call 41 [Jv ar wr cu to of sd au en ac re rs ck od sb su mc ix l1 l2 l3 l4 l5 l6 ks st sp rb ru vc sf dr ss ob rl wl on nx] [])=some (.ret (dv0 ar wr cu to true false nx) []):=by
 refine tq ?_
 refine tq ?_
 with_reducible rfl
theorem A7f(ar:List (List UInt8))(wr cu to:Int)(of on:Bool)(nx:Int)(sd au:List (List UInt8))(en:List UInt8)(ac re rs ck:Int)(od:Bool)(sb:List (List (List UInt8)))(su mc:Int)(ix:List (El Bf))(l1 l2 l3 l4 l5 l6:Int)(ks:List (El E8))(st sp:Bool)(rb:List (List (List UInt8)))(ru vc:Int)(sf:Bool)(dr:Int)(ss:List (El sesT))(ob:List (El objT))(rl wl:List Int):Y E0 (.call 64 [Jv ar wr cu to of sd au en ac re rs ck od sb su mc ix l1 l2 l3 l4 l5 l6 ks st sp rb ru vc sf dr ss ob rl wl on nx] [])=some (.ret (dv0 ar wr cu to true false nx) []):=by
 refine tq ?_
 rw[yV ..]
 exact tq rfl
theorem ZA(ar:List (List UInt8))(wr cu to:Int)(of on:Bool)(nx:Int)(sd au:List (List UInt8))(en:List UInt8)(ac re rs ck:Int)(od:Bool)(sb:List (List (List UInt8)))(su mc:Int)(ix:List (El Bf))(l1 l2 l3 l4 l5 l6:Int)(ks:List (El E8))(st sp:Bool)(rb:List (List (List UInt8)))(ru vc:Int)(sf:Bool)(dr:Int)(ss:List (El sesT))(ob:List (El objT))(rl wl:List Int):Y E0 (.call 40 [Jv ar wr cu to of sd au en ac re rs ck od sb su mc ix l1 l2 l3 l4 l5 l6 ks st sp rb ru vc sf dr ss ob rl wl on nx] [])=some (.ret (.b (on && !of)) []):=by
 cases on
 ·refine tq ?_
  rfl
 ·refine tq ?_
  rfl
theorem AAM(ar:List (List UInt8))(wr cu to:Int)(nx q:Int)(sd au:List (List UInt8))(en:List UInt8)(ac re rs ck:Int)(od:Bool)(su mc l1 l2 l3 l4 l5 l6:Int)(har:PK ar q (encS sd au en ac re rs ck od [] su mc [] l1 l2 l3 l4 l5 l6 []))(hac:0<=ac/\ac<=3)(hsd:sd.length=3)(hau:au.length=4)(hsm:∀ x∈sd,x.length<=1000)(ham:∀ x∈au,x.length<=1000)(hen:en.length<=1000)(hre:0<=re/\re<=1000000)(hrs:0<=rs/\rs<=1000000)(hck:0<=ck/\ck<=2000000000000)(hsu:0<=su/\su<=1000000)(hmc:0<=mc/\mc<=2000000000000)(hl:VV l1 l2 l3 l4 l5 l6):Y E0 (.call 63 [dv0 ar wr cu to true false nx] [])=some (.ret (.tup [Jv ar 0 0 0 false sd au en ac re rs ck od [] su mc [] l1 l2 l3 l4 l5 l6 [] false false [] 0 0 false 0 (List.replicate 3 (0,[],[],0,0,0,0,false)) (List.replicate 3 ((0,0,0,[],[]),([],[],[]),0)) [] [] true (q+1),.i 0]) []):=by
 have h1:=nM ar q _ 0 0 0 har
 have h2:=A4J sd au en ac re rs ck od su mc l1 l2 l3 l4 l5 l6 hac hsd hau hsm ham hen hre hrs hck hsu hmc hl
 have hq:1<=q/\q<=900000:=⟨har.2.1,har.2.2.1⟩
 have h3:=ZA ar wr cu to true false nx [] [] [] 0 0 0 0 false [] 0 0 [] 0 0 0 0 0 0 [] false false [] 0 0 false 0 [] [] [] []
 refine tq ?_
 rw[h3]
 refine tq ?_
 rw[nH ..]
 refine tq ?_
 rw[h1]
 refine tq ?_
 rw[h2]
 refine tq ?_
 rw[iQ ..]
 exact tq rfl
end
section
variable (is:List Int)(bs ns:List (List UInt8))
@[reducible] def Hr (e:Int) (is:List Int) (bs ns:List (List UInt8)):AV:=.agg [.i e,.sl .i64 is,.sl (.sl .u8) bs,.sl (.sl .u8) ns]
theorem A52(e:Int)(is:List Int)(bs ns:List (List UInt8))(he:e≠0):Y E0 (.call 86 [Hr e is bs ns] [])=some (.ret (.sl .u8 (Ip e is bs ns)) []):=by
 have h:[DX e]=Ip e is bs ns:=by rw[Ip,if_pos he,Dq]
 refine tq ?_
 (rw[h])
theorem bn(is:List Int)(bs ns:List (List UInt8))(hl:is.length<=10):∀(k j:Nat) (b:List UInt8),j+k=is.length->b.length+8*k<=1000 ->
  Y E0 (.loop 86 0 0 2 [(1,.pa 0 0),(3,.nm 1),(26,.sl .i64 is),(27,.i (is.length:Int)),(28,.i (j:Int))] [(0,some (.var [.i 0,.sl .i64 is,.sl (.sl .u8) bs,.sl (.sl .u8) ns])),(1,some (.row 5 .u8 b))])
   = some (.fin (.exit 0) 2 [(1,.pa 0 0),(3,.nm 1)] [(0,some (.var [.i 0,.sl .i64 is,.sl (.sl .u8) bs,.sl (.sl .u8) ns])),(1,some (.row 5 .u8 (b++(is.drop j).flatMap n8)))])
 | 0,j,b,hj,hb=>by
  obtain rfl:j=is.length:=zaa
  rw[List.drop_length,List.flatMap_nil,List.append_nil]
  rw[AL];conv=>lhs;whnf
  refine tq ?_
  with_reducible rfl
 | k+1,j,b,hj,hb=>by
  obtain⟨x,hm,hg⟩:=EO (l:=is) (i:=(j:Int)) zaa
  have el:=BX x
  have ih:=bn is bs ns hl k (j+1) (b++n8 x) zaa zaP
  rw[DU] at hg
  rw[show((j+1:Nat):Int)=(j:Int)+1 from by omega,List.append_assoc,<-List.flatMap_cons,<-HY hg,<-Lm] at ih
  rw[<-DU] at hg
  rw[AL];conv=>lhs;whnf
  refine to ?_
  rw[hg]
  refine tq ?_
  rw[Dy _ _ _ AA]
  refine tq ?_
  exact ih
theorem Vb(q:List (List (List UInt8)))(i:Int)(bs:List (List UInt8))(hl:bs.length<=10)(hx:∀ x∈bs,x.length<=2000):∀(k j:Nat) (b:List UInt8),j+k=bs.length->b.length+2002*k<=100000 ->
  Y E0 (.loop 86 2 0 1 [(3,.nm 0),(40,.sl (.sl (.sl .u8)) q),(41,.i 2),(42,.i i),(52,.sl (.sl .u8) bs),(53,.i (bs.length:Int)),(54,.i (j:Int))] [(0,some (.row 5 .u8 b))])
   = some (.fin (.exit 4) 1 [(3,.nm 0),(40,.sl (.sl (.sl .u8)) q),(41,.i 2),(42,.i i)] [(0,some (.row 5 .u8 (b++(bs.drop j).flatMap bl)))])
 | 0,j,b,hj,hb=>by
  obtain rfl:j=bs.length:=zaa
  rw[List.drop_length,List.flatMap_nil,List.append_nil]
  rw[AL];conv=>lhs;whnf
  refine tq ?_
  with_reducible rfl
 | k+1,j,b,hj,hb=>by
  obtain⟨x,hm,hg⟩:=EO (l:=bs) (i:=(j:Int)) zaa
  have ho:=hx x hm
  have el:=Ba x
  have ih:=Vb q i bs hl hx k (j+1) (b++bl x) zaa zaP
  rw[DU] at hg
  rw[show((j+1:Nat):Int)=(j:Int)+1 from by omega,List.append_assoc,<-List.flatMap_cons,<-HY hg,<-GX (show x.length<=65535 by omega)] at ih
  rw[<-DU] at hg
  rw[AL];conv=>lhs;whnf
  refine to ?_
  rw[hg]
  refine tq ?_
  rw[G9 _ _ AA]
  refine tq ?_
  exact ih
theorem A15(b:List UInt8)(hb:bs.length<=10)(hn:ns.length<=10)(hbm:∀ x∈bs,x.length<=1024)(hnm:∀ x∈ns,x.length<=1024)(hbl:b.length<=1000):Y E0 (.loop 86 1 0 1 [(3,.nm 0),(40,.sl (.sl (.sl .u8)) [bs,ns]),(41,.i 2),(42,.i 0)] [(0,some (.row 5 .u8 b))])
   = some (.fin (.exit 2) 0 [(3,.sl .u8 (b++(UInt8.ofInt (bs.length:Int)::(bs.flatMap bl++(UInt8.ofInt (ns.length:Int)::ns.flatMap bl)))))] []):=by
 have hB:(bs.flatMap bl).length<=10260:=Nat.le_trans (IK (m:=1026) fun x hx=>by have:=hbm x hx;rw[Ba];omega) zaa
 have h1:=fun i=>Vb [bs,ns] i bs hb (fun x hx=>by have:=hbm x hx;omega) bs.length 0 (b++[UInt8.ofInt (bs.length:Int)]) zaa zaJ
 have h2:=fun i=>Vb [bs,ns] i ns hn (fun x hx=>by have:=hnm x hx;omega) ns.length 0 (b++[UInt8.ofInt (bs.length:Int)]++bs.flatMap bl++[UInt8.ofInt (ns.length:Int)]) zaa zaJ
 rw[show((0:Nat):Int)=0 from rfl,List.drop_zero] at h1 h2
 rw[show b++(UInt8.ofInt (bs.length:Int)::(bs.flatMap bl++(UInt8.ofInt (ns.length:Int)::ns.flatMap bl)))=b++[UInt8.ofInt (bs.length:Int)]++bs.flatMap bl++[UInt8.ofInt (ns.length:Int)]++ns.flatMap bl from by simp]
 have e2:[bs,ns][(0+1:Int).toNat]'(Nat.lt_add_one 1)=ns:=rfl
 rw[AL];conv=>lhs;whnf
 refine tq ?_
 simp only[AP,Ac,Dq];rw[h1]
 refine tq ?_
 rw[AL]
 conv=>lhs;whnf
 rw[Dl zaa]
 conv=>lhs;whnf
 rw[Bv zaI]
 conv=>lhs;whnf
 rw[Dk zaI]
 conv=>lhs;whnf
 try dsimp -iota -beta -eta -zeta only
 rw[Du]
 simp only[e2,AP,Ac,Dq,Nat.reduceAdd];rw[h2]
 refine tq ?_
 exact tq rfl
theorem AAP(hi:is.length<=10)(hb:bs.length<=10)(hn:ns.length<=10)(hbm:∀ x∈bs,x.length<=1024)(hnm:∀ x∈ns,x.length<=1024):Y E0 (.call 86 [Hr 0 is bs ns] [])=some (.ret (.sl .u8 (Ip 0 is bs ns)) []):=by
 have hI:(is.flatMap n8).length<=80:=Nat.le_trans (IK (m:=8) fun x _=>by rw[BX];decide) zaa
 have h0:=bn is bs ns hi is.length 0 [UInt8.ofInt 0,UInt8.ofInt (is.length:Int)] zaa zaJ
 have h1:=A15 bs ns ([UInt8.ofInt 0,UInt8.ofInt (is.length:Int)]++is.flatMap n8) hb hn hbm hnm zaJ
 rw[show((0:Nat):Int)=0 from rfl,List.drop_zero] at h0
 have e:Ip 0 is bs ns=[UInt8.ofInt 0,UInt8.ofInt (is.length:Int)]++is.flatMap n8++(UInt8.ofInt (bs.length:Int)::(bs.flatMap bl++(UInt8.ofInt (ns.length:Int)::ns.flatMap bl))):=by
  rw[Ip,if_neg zat];simp
 rw[e]
 have e2:Ak [bs,ns]=2:=zaV
 refine tq ?_
 simp only[AP,Ac,Dq,List.cons_append,List.nil_append,Nat.reduceAdd];rw[h0]
 refine tq ?_
 simp only[e2,Nat.reduceAdd];rw[h1]
 refine tq ?_
 simp only[NO];try with_reducible rfl
def AAQ(b:List UInt8):Nat->List Int->Nat->Prop
 | p,[],q=>q=p
 | p,x::xs,q=>∃ p',Dt b p 0 8=(x,p',0)/\AAQ b p' xs q
theorem ou{b r:List UInt8}:∀ {is:List Int} {p:Nat},p<=b.length->b.drop p=is.flatMap n8++r->(∀ x∈is,0<=x/\x<9223372036854775808)->∃ q,AAQ b p is q/\q<=b.length/\b.drop q=r
 | [],p,hp,h,hm=>⟨p,rfl,hp,by simpa using h⟩
 | x::is,p,hp,h,hm=>by
  rw[List.flatMap_cons,List.append_assoc] at h
  obtain⟨q,g1,g2,g3⟩:=Wu hp h (hm x zat)
  obtain⟨q',k1,k2,k3⟩:=ou g2 g3 fun y hy=>hm y (by simp[hy])
  exact⟨q',⟨q,g1,k1⟩,k2,k3⟩
theorem AAR(e:Int)(is:List Int)(bs ns:List (List UInt8))(he:0<e/\e<=255):Y E0 (.call 10 [.sl .u8 (Ip e is bs ns)] [])=some (.ret (.tup [Hr e [] [] [],.i 0]) []):=by
 generalize hb:Ip e is bs ns=b
 have e0:b.drop 0=UInt8.ofInt e::[]:=by rw[List.drop_zero,<-hb,Ip,if_pos zaa]
 obtain⟨g0,q0,d0⟩:=Yv (Nat.zero_le _) e0 zaa
 have hl:b.length=1:=by have:=congrArg List.length e0;simpa using this
 have h0:=FV b 0 0 1 zaa zaa
 have hz:=Yz b 1 0 zaa zaa
 rw[g0] at h0
 rw[show PI b 1 0=0 from YN q0 d0] at hz
 refine tq ?_
 rw[Yy _]
 refine tq ?_
 rw[show Y E0 (.call 45 [.pa 0 0,.i 1] [.var [.sl .u8 b,.i 0,.i 0]])=_ from h0]
 refine tq ?_
 rw[show Y E0 (.call 47 [.pa 0 0] _)=_ from hz]
 exact tq rfl
theorem oz(b:List UInt8)(m:Nat)(hb:b.length<=1000000)(hm:m<=255):∀(k j:Nat) (l xs:List Int) (p q:Nat),j+k=m->xs.length=k->p<=b.length->l.length+k<=300->AAQ b p xs q ->
  Y E0 (.loop 10 0 0 4 [(2,.pa 0 0),(4,.pa 1 0),(5,.pa 2 0),(6,.i (m:Int)),(7,.i (j:Int))] [(0,some (.var [.i 0,.nil,.nil,.nil])),(1,some (.var [.sl .u8 b,.i (p:Int),.i 0])),(2,some (.var [.i 0,.nm 3,.nil,.nil])),(3,some (.row 3 .i64 l))])
   = some (.fin (.exit 0) 4 [(2,.pa 0 0),(4,.pa 1 0),(5,.pa 2 0)] [(0,some (.var [.i 0,.nil,.nil,.nil])),(1,some (.var [.sl .u8 b,.i (q:Int),.i 0])),(2,some (.var [.i 0,.nm 3,.nil,.nil])),(3,some (.row 3 .i64 (l++xs)))])
 | 0,j,l,[],p,q,hj,hx,hp,hl,h=>by
  obtain rfl:j=m:=zaa
  obtain rfl:q=p:=h
  rw[List.append_nil]
  rw[AL];conv=>lhs;whnf
  refine tq ?_
  with_reducible rfl
 | k+1,j,l,x::xs,p,q,hj,hx,hp,hl,h=>by
  obtain⟨q1,h1,h2⟩:=h
  have g:=FV b p 0 8 zaa hp
  rw[h1] at g
  have ih:=oz b m hb hm k (j+1) (l++[x]) xs q1 q zaa zbm (Jg hp h1) zaD h2
  rw[show((j+1:Nat):Int)=(j:Int)+1 from by omega,List.append_assoc,List.singleton_append] at ih
  rw[<-Ac l [x]] at ih
  rw[AL];conv=>lhs;whnf
  refine tq ?_
  rw[g]
  refine tq ?_
  exact ih
theorem pK(b:List UInt8)(is:List Int)(m:Nat)(hb:b.length<=1000000)(hm:m<=255):∀(k j:Nat) (l xs:List (List UInt8)) (p q:Nat),j+k=m->xs.length=k->p<=b.length->l.length+k<=300->vI b 1024 p xs q ->
  Y E0 (.loop 10 1 0 5 [(2,.pa 0 0),(4,.pa 1 0),(5,.pa 2 0),(6,.i (m:Int)),(8,.i (j:Int))] [(0,some (.var [.i 0,.nil,.nil,.nil])),(1,some (.var [.sl .u8 b,.i (p:Int),.i 0])),(2,some (.var [.i 0,.nm 3,.nm 4,.nil])),(3,some (.row 3 .i64 is)),(4,some (.row 22 (.sl .u8) l))])
   = some (.fin (.exit 2) 5 [(2,.pa 0 0),(4,.pa 1 0),(5,.pa 2 0)] [(0,some (.var [.i 0,.nil,.nil,.nil])),(1,some (.var [.sl .u8 b,.i (q:Int),.i 0])),(2,some (.var [.i 0,.nm 3,.nm 4,.nil])),(3,some (.row 3 .i64 is)),(4,some (.row 22 (.sl .u8) (l++xs)))])
 | 0,j,l,[],p,q,hj,hx,hp,hl,h=>by
  obtain rfl:j=m:=zaa
  obtain rfl:q=p:=h
  rw[List.append_nil]
  rw[AL];conv=>lhs;whnf
  refine tq ?_
  with_reducible rfl
 | k+1,j,l,x::xs,p,q,hj,hx,hp,hl,h=>by
  obtain⟨q1,h1,h2⟩:=h
  have g:=MX b p 0 1024 zaa hp
  rw[h1] at g
  have ih:=pK b is m hb hm k (j+1) (l++[x]) xs q1 q zaa zbm (Oy hp h1) zaD h2
  rw[show((j+1:Nat):Int)=(j:Int)+1 from by omega,List.append_assoc,List.singleton_append] at ih
  rw[<-Ac l [x]] at ih
  rw[AL];conv=>lhs;whnf
  refine tq ?_
  rw[g]
  refine tq ?_
  exact ih
theorem pO(b:List UInt8)(is:List Int)(bs:List (List UInt8))(m:Nat)(hb:b.length<=1000000)(hm:m<=255):∀(k j:Nat) (l xs:List (List UInt8)) (p q:Nat),j+k=m->xs.length=k->p<=b.length->l.length+k<=300->vI b 1024 p xs q ->
  Y E0 (.loop 10 2 0 6 [(2,.pa 0 0),(4,.pa 1 0),(5,.pa 2 0),(6,.i (m:Int)),(9,.i (j:Int))] [(0,some (.var [.i 0,.nil,.nil,.nil])),(1,some (.var [.sl .u8 b,.i (p:Int),.i 0])),(2,some (.var [.i 0,.nm 3,.nm 4,.nm 5])),(3,some (.row 3 .i64 is)),(4,some (.row 22 (.sl .u8) bs)),(5,some (.row 22 (.sl .u8) l))])
   = some (.fin (.exit 4) 6 [(2,.pa 0 0),(4,.pa 1 0),(5,.pa 2 0)] [(0,some (.var [.i 0,.nil,.nil,.nil])),(1,some (.var [.sl .u8 b,.i (q:Int),.i 0])),(2,some (.var [.i 0,.nm 3,.nm 4,.nm 5])),(3,some (.row 3 .i64 is)),(4,some (.row 22 (.sl .u8) bs)),(5,some (.row 22 (.sl .u8) (l++xs)))])
 | 0,j,l,[],p,q,hj,hx,hp,hl,h=>by
  obtain rfl:j=m:=zaa
  obtain rfl:q=p:=h
  rw[List.append_nil]
  rw[AL];conv=>lhs;whnf
  refine tq ?_
  with_reducible rfl
 | k+1,j,l,x::xs,p,q,hj,hx,hp,hl,h=>by
  obtain⟨q1,h1,h2⟩:=h
  have g:=MX b p 0 1024 zaa hp
  rw[h1] at g
  have ih:=pO b is bs m hb hm k (j+1) (l++[x]) xs q1 q zaa zbm (Oy hp h1) zaD h2
  rw[show((j+1:Nat):Int)=(j:Int)+1 from by omega,List.append_assoc,List.singleton_append] at ih
  rw[<-Ac l [x]] at ih
  rw[AL];conv=>lhs;whnf
  refine tq ?_
  rw[g]
  refine tq ?_
  exact ih
theorem AC1(hi:is.length<=10)(hb:bs.length<=10)(hn:ns.length<=10)(him:∀ x∈is,0<=x/\x<9223372036854775808)(hbm:∀ x∈bs,x.length<=1024)(hnm:∀ x∈ns,x.length<=1024):Y E0 (.call 10 [.sl .u8 (Ip 0 is bs ns)] [])=some (.ret (.tup [Hr 0 is bs ns,.i 0]) []):=by
 have hI:(is.flatMap n8).length<=80:=Nat.le_trans (IK (m:=8) fun x _=>by rw[BX];decide) zaa
 have hB:(bs.flatMap bl).length<=10260:=Nat.le_trans (IK (m:=1026) fun x hx=>by have:=hbm x hx;rw[Ba];omega) zaa
 have hN:(ns.flatMap bl).length<=10260:=Nat.le_trans (IK (m:=1026) fun x hx=>by have:=hnm x hx;rw[Ba];omega) zaa
 generalize hb':Ip 0 is bs ns=b
 have e0:b.drop 0=UInt8.ofInt 0::(UInt8.ofInt (is.length:Int)::(is.flatMap n8++(UInt8.ofInt (bs.length:Int)::(bs.flatMap bl++(UInt8.ofInt (ns.length:Int)::(ns.flatMap bl++[])))))):=by
  rw[List.drop_zero,<-hb',Ip,if_neg zat];simp
 have hlen:b.length<=30000:=by
  have:=congrArg List.length e0
  simp only[List.drop_zero,List.length_cons,List.length_append,List.length_nil] at this
  omega
 obtain⟨g0,q0,d0⟩:=Yv (Nat.zero_le _) e0 zaa
 obtain⟨g1,q1,d1⟩:=Yv q0 d0 zaa
 obtain⟨p2,g2,q2,d2⟩:=ou q1 d1 him
 obtain⟨g3,q3,d3⟩:=Yv q2 d2 zaa
 obtain⟨p4,g4,q4,d4⟩:=UY (m:=1024) zaa q3 d3 (fun x hx=>by have:=hbm x hx;omega)
 obtain⟨g5,q5,d5⟩:=Yv q4 d4 zaa
 obtain⟨p6,g6,q6,d6⟩:=UY (m:=1024) zaa q5 d5 (fun x hx=>by have:=hnm x hx;omega)
 have h0:=FV b 0 0 1 zaa zaa
 have h1:=FV b (0+1) 0 1 zaa q0
 have h3:=FV b p2 0 1 zaa q2
 have h5:=FV b p4 0 1 zaa q4
 have hz:=Yz b p6 0 zaa q6
 rw[g0] at h0;rw[g1] at h1;rw[g3] at h3;rw[g5] at h5;rw[YN q6 d6] at hz
 have l0:=oz b is.length zaa zaa is.length 0 [] is (0+1+1) p2 zaa rfl q1 zaD g2
 have l1:=pK b is bs.length zaa zaa bs.length 0 [] bs (p2+1) p4 zaa rfl q3 zaD g4
 have l2:=pO b is bs ns.length zaa zaa ns.length 0 [] ns (p4+1) p6 zaa rfl q5 zaD g6
 simp only[List.nil_append,show((0:Nat):Int)=0 from rfl] at l0 l1 l2
 refine tq ?_
 rw[Yy _]
 refine tq ?_
 rw[show Y E0 (.call 45 [.pa 0 0,.i 1] [.var [.sl .u8 b,.i 0,.i 0]])=_ from h0]
 refine tq ?_
 rw[h1]
 refine tq ?_
 simp only[Nat.reduceAdd];rw[l0]
 refine tq ?_
 rw[h3]
 refine tq ?_
 simp only[Nat.reduceAdd];rw[l1]
 refine tq ?_
 rw[h5]
 refine tq ?_
 simp only[Nat.reduceAdd];rw[l2]
 refine tq ?_
 rw[hz]
 exact tq rfl
end
end Go.Proofs.YtlpkjhhfhannpaaGreatDoor
