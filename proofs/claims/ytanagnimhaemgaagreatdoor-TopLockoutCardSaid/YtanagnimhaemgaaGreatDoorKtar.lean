/-
  Own texts, laid together for this claim: contracts of functions of the program and its references, used by the statements of this seat.
-/
import Derived.Test.YtanagnimhaemgaaGreatDoorKtac
import Derived.Test.YtanagnimhaemgaaGreatDoorKtad
import Derived.Test.YtanagnimhaemgaaGreatDoorKtaf
import Derived.Test.YtanagnimhaemgaaGreatDoorKtag
import Derived.Test.YtanagnimhaemgaaGreatDoorKtah
import Derived.Test.YtanagnimhaemgaaGreatDoorKtaj
set_option linter.all false
set_option maxHeartbeats 40000000
set_option maxRecDepth 100000
namespace Go.Proofs.YtanagnimhaemgaaGreatDoor
open Go Go.Ax Go.Eng
section
attribute [local irreducible] Bl CS CU CJ Bh Ak CV Du EN E5 EH Be BN CE Bz and' CG CO BC Ag Ar BF BG AY Aa AP AX CW Dv CX DT C9 BJ BD BA BB Au AQ Az Ac Aw Ah CY BL Bi BR BI CB CZ CP fits Cb CQ A8 AA AZ
attribute [local irreducible] BK Dl
theorem P8(x:UInt8)(m:Nat)(hm:m<=1000):∀(k j:Nat),j+k=m->Y E0 (.loop 83 0 0 1 [(0,.i (m:Int)),(1,.u8 x),(5,.nm 0),(6,.i (j:Int))] [(0,some (.row 5 .u8 (List.replicate j x++List.replicate k 0)))])=some (.fin (.exit 0) 0 [(5,.sl .u8 (List.replicate m x))] [])
 | 0,j,hj=>by
  obtain rfl:j=m:=zaa
  refine tq ?_
  simp
 | k+1,j,hj=>by
  have ih:=P8 x m hm k (j+1) zaa
  rw[show((j+1:Nat):Int)=(j:Int)+1 from by omega,<-A2x] at ih
  have hs:BL (List.replicate j x++List.replicate (k+1) 0) (j:Int) x=(List.replicate j x++List.replicate (k+1) 0).set j x:=by rw[EU];simp
  refine tq ?_;rw[hs];exact ih
theorem YW(n:Int)(x:UInt8)(hn:0<=n/\n<=1000):Y E0 (.call 83 [.i n,.u8 x] [])=some (.ret (.sl .u8 (List.replicate n.toNat x)) []):=by
 obtain⟨m,rfl⟩:∃ m:Nat,n=m:=⟨n.toNat,by omega⟩
 have hl:=P8 x m zaa m 0 zaa
 rw[show((0:Nat):Int)=0 from rfl,List.replicate_zero,List.nil_append] at hl
 have he:BR (m:Int) (0:UInt8)=List.replicate m 0:=by rw[FO];simp
 refine tq ?_;rw[he,hl];refine tq ?_
 simp
theorem YX(b:Int):Y E0 (.call 84 [.i b] [])=some (.ret (.i (XJ b)) []):=by
 refine tq ?_
 rcases I7 b 0 with hc0|hc0
 ·subst hc0;refine tq ?_
  unfold XJ;(repeat(first|rw[if_pos zam]|rw[if_neg zam]));try simp only[NO]
 refine tq ?_
 rcases I7 b 1 with hc1|hc1
 ·subst hc1;refine tq ?_
  unfold XJ;(repeat(first|rw[if_pos zam]|rw[if_neg zam]));try simp only[NO]
 refine tq ?_
 unfold XJ;(repeat(first|rw[if_pos zam]|rw[if_neg zam]));try simp only[NO]
theorem YY(b j:Int)(hb:b=0\/b=1):Y E0 (.call 45 [.i b,.i j] [])=some (.ret (.sl .u8 (List.replicate (XJ b).toNat (if 12<=j then 255 else 0))) []):=by
 have hs:0<=XJ b/\XJ b<=1000:=by unfold XJ;split<;>(try split)<;>omega
 refine tq ?_
 rcases dm 12 j with hc0|hc0
 ·refine tq ?_;rw[YX _];refine tq ?_;rw[YW _ _ Am];refine tq ?_
  (rw[if_pos zaa];try rfl)
 refine tq ?_;rw[YX _];refine tq ?_;rw[YW _ _ Am];refine tq ?_
 (rw[if_neg zaa];try rfl)
theorem fH(a:Int)(h:Ak .and (BN a (BJ 0).toNat) 1=1):∀(k j:Nat),j+k=16->Y E0 (.loop 22 1 0 3 [(0,.i a),(2,.pa 0 0),(3,.pa 1 0),(4,.i 0),(5,.nm 2),(6,.i (j:Int))] [(0,some (.var [.nil,.i 0])),(1,some (.var [.nil,.i 0])),(2,some (.row 22 (.sl .u8) (Je 20 j)))])=some (.fin (.exit 2) 3 [(0,.i a),(2,.pa 0 0),(3,.pa 1 0),(4,.i 0),(5,.nm 2)] [(0,some (.var [.nil,.i 0])),(1,some (.var [.nil,.i 0])),(2,some (.row 22 (.sl .u8) (Je 20 16)))])
 | 0,j,hj=>by
  obtain rfl:j=16:=zaa
  exact tq rfl
 | k+1,j,hj=>by
  have ih:=fH a h k (j+1) zaa
  rw[show((j+1:Nat):Int)=(j:Int)+1 from by omega,<-WZ 0 20 j rfl] at ih
  refine tq ?_;rw[YY _ _ Am];refine tq ?_;exact ih
theorem ui(a:Int)(h:Ak .and (BN a (BJ 0).toNat) 1≠1):Y E0 (.loop 22 1 0 3 [(0,.i a),(2,.pa 0 0),(3,.pa 1 0),(4,.i 0),(5,.nm 2),(6,.i 0)] [(0,some (.var [.nil,.i 0])),(1,some (.var [.nil,.i 0])),(2,some (.row 22 (.sl .u8) []))])=some (.fin (.exit 2) 3 [(0,.i a),(2,.pa 0 0),(3,.pa 1 0),(4,.i 0),(5,.nm 2)] [(0,some (.var [.nil,.i 0])),(1,some (.var [.nil,.i 0])),(2,some (.row 22 (.sl .u8) []))]):=by
 exact tq rfl
theorem fJ(a:Int)(l:List (List UInt8))(h:Ak .and (BN a (BJ 1).toNat) 1=1):∀(k j:Nat),j+k=16->Y E0 (.loop 22 1 0 5 [(0,.i a),(2,.pa 0 0),(3,.pa 1 0),(4,.i 1),(5,.nm 2),(6,.i (j:Int))] [(0,some (.var [.nil,.i 0])),(1,some (.var [.nm 3,.i 0])),(2,some (.row 22 (.sl .u8) (Je 32 j))),(3,some (.rowA 24 1 1 [.nm 4])),(4,some (.row 22 (.sl .u8) l))])=some (.fin (.exit 2) 5 [(0,.i a),(2,.pa 0 0),(3,.pa 1 0),(4,.i 1),(5,.nm 2)] [(0,some (.var [.nil,.i 0])),(1,some (.var [.nm 3,.i 0])),(2,some (.row 22 (.sl .u8) (Je 32 16))),(3,some (.rowA 24 1 1 [.nm 4])),(4,some (.row 22 (.sl .u8) l))])
 | 0,j,hj=>by
  obtain rfl:j=16:=zaa
  exact tq rfl
 | k+1,j,hj=>by
  have ih:=fJ a l h k (j+1) zaa
  rw[show((j+1:Nat):Int)=(j:Int)+1 from by omega,<-WZ 1 32 j rfl] at ih
  refine tq ?_;rw[YY _ _ Am];refine tq ?_;exact ih
theorem uj(a:Int)(l:List (List UInt8))(h:Ak .and (BN a (BJ 1).toNat) 1≠1):Y E0 (.loop 22 1 0 5 [(0,.i a),(2,.pa 0 0),(3,.pa 1 0),(4,.i 1),(5,.nm 2),(6,.i 0)] [(0,some (.var [.nil,.i 0])),(1,some (.var [.nm 3,.i 0])),(2,some (.row 22 (.sl .u8) [])),(3,some (.rowA 24 1 1 [.nm 4])),(4,some (.row 22 (.sl .u8) l))])=some (.fin (.exit 2) 5 [(0,.i a),(2,.pa 0 0),(3,.pa 1 0),(4,.i 1),(5,.nm 2)] [(0,some (.var [.nil,.i 0])),(1,some (.var [.nm 3,.i 0])),(2,some (.row 22 (.sl .u8) [])),(3,some (.rowA 24 1 1 [.nm 4])),(4,some (.row 22 (.sl .u8) l))]):=by
 exact tq rfl
theorem A0b(a:Int)(l:List (List UInt8))(hl:l=if Ak .and (BN a (BJ 0).toNat) 1=1 then GR 20 else []):Y E0 (.loop 22 1 0 3 [(0,.i a),(2,.pa 0 0),(3,.pa 1 0),(4,.i 0),(5,.nm 2),(6,.i 0)] [(0,some (.var [.nil,.i 0])),(1,some (.var [.nil,.i 0])),(2,some (.row 22 (.sl .u8) []))])=some (.fin (.exit 2) 3 [(0,.i a),(2,.pa 0 0),(3,.pa 1 0),(4,.i 0),(5,.nm 2)] [(0,some (.var [.nil,.i 0])),(1,some (.var [.nil,.i 0])),(2,some (.row 22 (.sl .u8) l))]):=by
 by_cases h:Ak .and (BN a (BJ 0).toNat) 1=1
 ·rw[if_pos h] at hl;subst hl;exact fH a h 16 0 zaa
 ·rw[if_neg h] at hl;subst hl;exact ui a h
theorem A0c(a:Int)(l l':List (List UInt8))(hl:l'=if Ak .and (BN a (BJ 1).toNat) 1=1 then GR 32 else []):Y E0 (.loop 22 1 0 5 [(0,.i a),(2,.pa 0 0),(3,.pa 1 0),(4,.i 1),(5,.nm 2),(6,.i 0)] [(0,some (.var [.nil,.i 0])),(1,some (.var [.nm 3,.i 0])),(2,some (.row 22 (.sl .u8) [])),(3,some (.rowA 24 1 1 [.nm 4])),(4,some (.row 22 (.sl .u8) l))])=some (.fin (.exit 2) 5 [(0,.i a),(2,.pa 0 0),(3,.pa 1 0),(4,.i 1),(5,.nm 2)] [(0,some (.var [.nil,.i 0])),(1,some (.var [.nm 3,.i 0])),(2,some (.row 22 (.sl .u8) l')),(3,some (.rowA 24 1 1 [.nm 4])),(4,some (.row 22 (.sl .u8) l))]):=by
 by_cases h:Ak .and (BN a (BJ 1).toNat) 1=1
 ·rw[if_pos h] at hl;subst hl;exact fJ a l h 16 0 zaa
 ·rw[if_neg h] at hl;subst hl;exact uj a l h
theorem A0d(a:Int)(ha:0<=a):Y E0 (.call 22 [.i a] [])=some (.ret (.agg [.sl (.sl (.sl .u8)) (BZ a),.i 0]) []):=by
 have e3:Ak .and a 3=a%4:=Jq 2 zac a
 have b0:Ak .and (BN a (BJ 0).toNat) 1=a%2:=by rw[show(BJ 0).toNat=0 from by rw[J5];rfl,J7 zaa];exact(Jq 1 zac _).trans zan
 have b1:Ak .and (BN a (BJ 1).toNat) 1=a/2%2:=by rw[show(BJ 1).toNat=1 from by rw[J5];rfl,J7 zaa];exact(Jq 1 zac _).trans zan
 have q0:=A0b a _ (by rw[b0])
 have q1:=A0c a (if a%2=1 then GR 20 else []) _ (by rw[b1])
 have hl:Y E0 (.loop 22 0 0 2 [(0,AV.i a),(2,AV.pa 0 0),(3,AV.pa 1 0),(4,AV.i 0)] [(0,some (Rs.var [AV.nil,AV.i 0])),(1,some (Rs.var [AV.nil,AV.i 0]))])=some (.fin (.exit 0) 5 [(2,.pa 0 0),(3,.pa 1 0)] [(0,some (.var [.nil,.i 0])),(1,some (.var [.nm 2,.i 0])),(2,some (.rowA 24 1 2 [.nm 3,.nm 4])),(3,some (.row 22 (.sl .u8) (if a%2=1 then GR 20 else []))),(4,some (.row 22 (.sl .u8) (if a/2%2=1 then GR 32 else [])))]):=by
  refine tq ?_;rw[q0];refine tq ?_;refine tq ?_;rw[show(0:Int)+1=1 from rfl,q1];refine tq ?_;exact tq rfl
 refine tq ?_;rw[e3]
 rcases I7 (a%4) 0 with hc0|hc0
 ·refine tq ?_
  (rw[BZ,if_pos (show a%4=0 by omega)])
 refine tq ?_;rw[hl];refine tq ?_
 (rw[BZ,if_neg (show ¬a%4=0 by omega)])
variable (sd au:List (List UInt8))(en:List UInt8)(ac re rs ck:Int)(od:Bool)(sb:List (List (List UInt8)))(su mc:Int)(ix:List (El AB))(l1 l2 l3 l4 l5 l6:Int)(ks:List (El BP))(st sp:Bool)(rb:List (List (List UInt8)))(ru vc:Int)(sf:Bool)(dr:Int)(ss:List (El sesT))(ob:List (El objT))(rl wl:List Int)
end
section
attribute [local irreducible] Bl CS CU CJ Bh Ak CV Du EN E5 EH Be BN CE Bz and' CG CO BC Ag Ar BF BG AY Aa AP AX CW Dv CX DT C9 BJ BD BA BB Au AQ Az Ac Aw Ah CY BL Bi BR BI CB CZ CP fits Cb CQ A8 AA AZ
attribute [local irreducible] BK Dl Cj nameB ET Dz Af Ef Ec FM FC Hr BH Ik
variable (sd au:List (List UInt8))(en:List UInt8)(ac re rs ck:Int)(od:Bool)(sb:List (List (List UInt8)))(su mc:Int)(ix:List (El AB))(l1 l2 l3 l4 l5 l6:Int)(ks:List (El BP))(st sp:Bool)(rb:List (List (List UInt8)))(ru vc:Int)(sf:Bool)(dr:Int)(ss:List (El sesT))(ob:List (El objT))(rl wl:List Int)
theorem A1G(n:Int)(hen:en.length<=100000):Y E0 (.call 207 [(sX sd au en ac re rs ck od sb su mc ix l1 l2 l3 l4 l5 l6 ks st sp rb ru vc sf dr ss ob rl wl),.i n] [])=some (.ret (.tup [(sX sd au en ac re rs ck od sb su mc ix l1 l2 l3 l4 l5 l6 ks st sp rb ru vc sf (Bl dr 1) ss ob rl wl),.sl .u8 (MN en re rs dr n)]) []):=by
 refine tq ?_;rw[DN _ _ _ Am];refine tq ?_;rw[DN _ _ _ Am];refine tq ?_;rw[DN _ _ _ Am];refine tq ?_;rw[show strOf {data := #[114,97,110,100,111,109]}=A47 from rfl,FV _ _ _ _ zaa zac (by simp only[Bf,List.length_nil];omega)]
 refine tq ?_
 rfl
end
theorem Py(c:Int)(hs:List Int)(is:List Int)(bs:List (List UInt8))(v:List UInt8):Y E0 (.call 14 [rq c hs [] is bs,.sl .u8 v] [])=some (.ret (rq c hs [(0,[],v)] is bs) []):=by
 refine tq ?_
 with_reducible rfl
theorem A6f(c:Int)(hs:List Int)(is:List Int)(bs:List (List UInt8))(v:Int):Y E0 (.call 36 [rq c hs [] is bs,.i v] [])=some (.ret (rq c hs [(v,[],[])] is bs) []):=by
 refine tq ?_
 with_reducible rfl
theorem JG(h k a t:Int)(p u d:List UInt8):Y E0 (.call 10 [.i h,.i k,.i a,.i t,.sl .u8 p,.sl .u8 u,.sl .u8 d] [])=some (.ret (rq 9 [h] [(0,[],[])] [k,a,t] [p,u,d]) []):=by
 refine tq ?_
 refine tq ?_
 with_reducible rfl
theorem A1a(k:Int):Y E0 (.call 17 [.i k] [])=some (.ret (rq 16 [] [] [k] []) []):=by
 refine tq ?_
 with_reducible rfl
theorem nI(s:Int):Y E0 (.call 35 [.i s,.i 1,.agg [.i 0,.i 1],.i 0,.i 0,.sl (.sl .u8) [[]]] [])=some (.ret (rq 17 [] [] [s,1,0,1,0,0] [[]]) []):=by
 refine tq ?_
 with_reducible rfl
theorem XA(c h:Int):Y E0 (.call 15 [.i c,.i h,.sl (.sl .u8) []] [])=some (.ret (rq c [h] [] [] []) []):=by
 refine tq ?_
 with_reducible rfl
end Go.Proofs.YtanagnimhaemgaaGreatDoor
