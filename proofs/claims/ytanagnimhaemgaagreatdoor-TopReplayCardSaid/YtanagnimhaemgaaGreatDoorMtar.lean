/-
  Own texts, laid together for this claim: contracts of functions of the program and its references, used by the statements of this seat.
-/
import Derived.Test.YtanagnimhaemgaaGreatDoorMtac
import Derived.Test.YtanagnimhaemgaaGreatDoorMtad
import Derived.Test.YtanagnimhaemgaaGreatDoorMtag
import Derived.Test.YtanagnimhaemgaaGreatDoorMtaj
set_option linter.all false
set_option maxHeartbeats 40000000
set_option maxRecDepth 100000
namespace Go.Proofs.YtanagnimhaemgaaGreatDoor
open Go Go.Ax Go.Eng
section
attribute [local irreducible] BL BM BN BO BP BJ BQ CX Cm CY CW Ba Bc BF BC and' BG Bd Aa Ac Ad Ae Af AL AO AP AQ BR D8 BU D5 Be Bf Ag Ah Ai Aj AB AZ AU Ar BA BV BH BB Au Aw BI Bg BX fits BZ BK A7 A8 AC
attribute [local irreducible] D7 CG
theorem ev_r8fill_loop(x:UInt8)(m:Nat)(hm:m<=1000):∀(k j:Nat),j+k=m->Y E0 (.loop 83 0 0 1 [(0,.i (m:Int)),(1,.u8 x),(5,.nm 0),(6,.i (j:Int))] [(0,some (.row 5 .u8 (List.replicate j x++List.replicate k 0)))])=some (.fin (.exit 0) 0 [(5,.sl .u8 (List.replicate m x))] [])
 | 0,j,hj=>by
  obtain rfl:j=m:=zf
  refine tq ?_
  simp
 | k+1,j,hj=>by
  have ih:=ev_r8fill_loop x m hm k (j+1) zf
  rw[show((j+1:Nat):Int)=(j:Int)+1 from by omega,<-rep_set] at ih
  have hs:BH (List.replicate j x++List.replicate (k+1) 0) (j:Int) x=(List.replicate j x++List.replicate (k+1) 0).set j x:=by rw[UJ];simp
  refine tq ?_;rw[hs];exact ih
theorem ev_r8fill(n:Int)(x:UInt8)(hn:0<=n/\n<=1000):Y E0 (.call 83 [.i n,.u8 x] [])=some (.ret (.sl .u8 (List.replicate n.toNat x)) []):=by
 obtain⟨m,rfl⟩:∃ m:Nat,n=m:=⟨n.toNat,by omega⟩
 have hl:=ev_r8fill_loop x m zf m 0 zf
 rw[show((0:Nat):Int)=0 from rfl,List.replicate_zero,List.nil_append] at hl
 have he:Au (m:Int) (0:UInt8)=List.replicate m 0:=by rw[QQ];simp
 refine tq ?_;rw[he,hl];refine tq ?_
 simp
theorem ev_r1size(b:Int):Y E0 (.call 84 [.i b] [])=some (.ret (.i (sizB b)) []):=by
 refine tq ?_
 rcases ieq_c b 0 with hc0|hc0
 ·subst hc0;refine tq ?_
  unfold sizB;(repeat(first|rw[if_pos (by first|omega|decide|assumption|(simp only[Gu,Zf,Zg,Zh,Vd,Zi,OO,XX,ZO,Ve,LL] at *<;>omega)|(simp;omega))]|rw[if_neg (by first|omega|decide|assumption|(simp only[Gu,Zf,Zg,Zh,Vd,Zi,OO,XX,ZO,Ve,LL] at *<;>omega)|(simp;omega))]));try simp only[NO]
 refine tq ?_
 rcases ieq_c b 1 with hc1|hc1
 ·subst hc1;refine tq ?_
  unfold sizB;(repeat(first|rw[if_pos (by first|omega|decide|assumption|(simp only[Gu,Zf,Zg,Zh,Vd,Zi,OO,XX,ZO,Ve,LL] at *<;>omega)|(simp;omega))]|rw[if_neg (by first|omega|decide|assumption|(simp only[Gu,Zf,Zg,Zh,Vd,Zi,OO,XX,ZO,Ve,LL] at *<;>omega)|(simp;omega))]));try simp only[NO]
 refine tq ?_
 unfold sizB;(repeat(first|rw[if_pos (by first|omega|decide|assumption|(simp only[Gu,Zf,Zg,Zh,Vd,Zi,OO,XX,ZO,Ve,LL] at *<;>omega)|(simp;omega))]|rw[if_neg (by first|omega|decide|assumption|(simp only[Gu,Zf,Zg,Zh,Vd,Zi,OO,XX,ZO,Ve,LL] at *<;>omega)|(simp;omega))]));try simp only[NO]
theorem ev_r8init(b j:Int)(hb:b=0\/b=1):Y E0 (.call 45 [.i b,.i j] [])=some (.ret (.sl .u8 (List.replicate (sizB b).toNat (if 12<=j then 255 else 0))) []):=by
 have hs:0<=sizB b/\sizB b<=1000:=by unfold sizB;split<;>(try split)<;>omega
 refine tq ?_
 rcases ile_c 12 j with hc0|hc0
 ·refine tq ?_;rw[ev_r1size _];refine tq ?_;rw[ev_r8fill _ _ NE];refine tq ?_
  (rw[if_pos zf];try rfl)
 refine tq ?_;rw[ev_r1size _];refine tq ?_;rw[ev_r8fill _ _ NE];refine tq ?_
 (rw[if_neg zf];try rfl)
theorem ev_r8on0(a:Int)(h:BJ .and (Bc a (Bf 0).toNat) 1=1):∀(k j:Nat),j+k=16->Y E0 (.loop 22 1 0 3 [(0,.i a),(2,.pa 0 0),(3,.pa 1 0),(4,.i 0),(5,.nm 2),(6,.i (j:Int))] [(0,some (.var [.nil,.i 0])),(1,some (.var [.nil,.i 0])),(2,some (.row 22 (.sl .u8) (aJ 20 j)))])=some (.fin (.exit 2) 3 [(0,.i a),(2,.pa 0 0),(3,.pa 1 0),(4,.i 0),(5,.nm 2)] [(0,some (.var [.nil,.i 0])),(1,some (.var [.nil,.i 0])),(2,some (.row 22 (.sl .u8) (aJ 20 16)))])
 | 0,j,hj=>by
  obtain rfl:j=16:=zf
  exact tq rfl
 | k+1,j,hj=>by
  have ih:=ev_r8on0 a h k (j+1) zf
  rw[show((j+1:Nat):Int)=(j:Int)+1 from by omega,<-bank_app 0 20 j rfl] at ih
  refine tq ?_;rw[ev_r8init _ _ NE];refine tq ?_;exact ih
theorem ev_r8off0(a:Int)(h:BJ .and (Bc a (Bf 0).toNat) 1≠1):Y E0 (.loop 22 1 0 3 [(0,.i a),(2,.pa 0 0),(3,.pa 1 0),(4,.i 0),(5,.nm 2),(6,.i 0)] [(0,some (.var [.nil,.i 0])),(1,some (.var [.nil,.i 0])),(2,some (.row 22 (.sl .u8) []))])=some (.fin (.exit 2) 3 [(0,.i a),(2,.pa 0 0),(3,.pa 1 0),(4,.i 0),(5,.nm 2)] [(0,some (.var [.nil,.i 0])),(1,some (.var [.nil,.i 0])),(2,some (.row 22 (.sl .u8) []))]):=by
 exact tq rfl
theorem ev_r8on1(a:Int)(l:List (List UInt8))(h:BJ .and (Bc a (Bf 1).toNat) 1=1):∀(k j:Nat),j+k=16->Y E0 (.loop 22 1 0 5 [(0,.i a),(2,.pa 0 0),(3,.pa 1 0),(4,.i 1),(5,.nm 2),(6,.i (j:Int))] [(0,some (.var [.nil,.i 0])),(1,some (.var [.nm 3,.i 0])),(2,some (.row 22 (.sl .u8) (aJ 32 j))),(3,some (.rowA 24 1 1 [.nm 4])),(4,some (.row 22 (.sl .u8) l))])=some (.fin (.exit 2) 5 [(0,.i a),(2,.pa 0 0),(3,.pa 1 0),(4,.i 1),(5,.nm 2)] [(0,some (.var [.nil,.i 0])),(1,some (.var [.nm 3,.i 0])),(2,some (.row 22 (.sl .u8) (aJ 32 16))),(3,some (.rowA 24 1 1 [.nm 4])),(4,some (.row 22 (.sl .u8) l))])
 | 0,j,hj=>by
  obtain rfl:j=16:=zf
  exact tq rfl
 | k+1,j,hj=>by
  have ih:=ev_r8on1 a l h k (j+1) zf
  rw[show((j+1:Nat):Int)=(j:Int)+1 from by omega,<-bank_app 1 32 j rfl] at ih
  refine tq ?_;rw[ev_r8init _ _ NE];refine tq ?_;exact ih
theorem ev_r8off1(a:Int)(l:List (List UInt8))(h:BJ .and (Bc a (Bf 1).toNat) 1≠1):Y E0 (.loop 22 1 0 5 [(0,.i a),(2,.pa 0 0),(3,.pa 1 0),(4,.i 1),(5,.nm 2),(6,.i 0)] [(0,some (.var [.nil,.i 0])),(1,some (.var [.nm 3,.i 0])),(2,some (.row 22 (.sl .u8) [])),(3,some (.rowA 24 1 1 [.nm 4])),(4,some (.row 22 (.sl .u8) l))])=some (.fin (.exit 2) 5 [(0,.i a),(2,.pa 0 0),(3,.pa 1 0),(4,.i 1),(5,.nm 2)] [(0,some (.var [.nil,.i 0])),(1,some (.var [.nm 3,.i 0])),(2,some (.row 22 (.sl .u8) [])),(3,some (.rowA 24 1 1 [.nm 4])),(4,some (.row 22 (.sl .u8) l))]):=by
 exact tq rfl
theorem ev_r8in0(a:Int)(l:List (List UInt8))(hl:l=if BJ .and (Bc a (Bf 0).toNat) 1=1 then bankB 20 else []):Y E0 (.loop 22 1 0 3 [(0,.i a),(2,.pa 0 0),(3,.pa 1 0),(4,.i 0),(5,.nm 2),(6,.i 0)] [(0,some (.var [.nil,.i 0])),(1,some (.var [.nil,.i 0])),(2,some (.row 22 (.sl .u8) []))])=some (.fin (.exit 2) 3 [(0,.i a),(2,.pa 0 0),(3,.pa 1 0),(4,.i 0),(5,.nm 2)] [(0,some (.var [.nil,.i 0])),(1,some (.var [.nil,.i 0])),(2,some (.row 22 (.sl .u8) l))]):=by
 by_cases h:BJ .and (Bc a (Bf 0).toNat) 1=1
 ·rw[if_pos h] at hl;subst hl;exact ev_r8on0 a h 16 0 zf
 ·rw[if_neg h] at hl;subst hl;exact ev_r8off0 a h
theorem ev_r8in1(a:Int)(l l':List (List UInt8))(hl:l'=if BJ .and (Bc a (Bf 1).toNat) 1=1 then bankB 32 else []):Y E0 (.loop 22 1 0 5 [(0,.i a),(2,.pa 0 0),(3,.pa 1 0),(4,.i 1),(5,.nm 2),(6,.i 0)] [(0,some (.var [.nil,.i 0])),(1,some (.var [.nm 3,.i 0])),(2,some (.row 22 (.sl .u8) [])),(3,some (.rowA 24 1 1 [.nm 4])),(4,some (.row 22 (.sl .u8) l))])=some (.fin (.exit 2) 5 [(0,.i a),(2,.pa 0 0),(3,.pa 1 0),(4,.i 1),(5,.nm 2)] [(0,some (.var [.nil,.i 0])),(1,some (.var [.nm 3,.i 0])),(2,some (.row 22 (.sl .u8) l')),(3,some (.rowA 24 1 1 [.nm 4])),(4,some (.row 22 (.sl .u8) l))]):=by
 by_cases h:BJ .and (Bc a (Bf 1).toNat) 1=1
 ·rw[if_pos h] at hl;subst hl;exact ev_r8on1 a l h 16 0 zf
 ·rw[if_neg h] at hl;subst hl;exact ev_r8off1 a l h
theorem ev_r8new(a:Int)(ha:0<=a):Y E0 (.call 22 [.i a] [])=some (.ret (.agg [.sl (.sl (.sl .u8)) (newRB a),.i 0]) []):=by
 have e3:BJ .and a 3=a%4:=iand_mask 2 zh a
 have b0:BJ .and (Bc a (Bf 0).toNat) 1=a%2:=by rw[show(Bf 0).toNat=0 from by rw[iu64_eq];rfl,ishr_eq zf];exact(iand_mask 1 zh _).trans zB
 have b1:BJ .and (Bc a (Bf 1).toNat) 1=a/2%2:=by rw[show(Bf 1).toNat=1 from by rw[iu64_eq];rfl,ishr_eq zf];exact(iand_mask 1 zh _).trans zB
 have q0:=ev_r8in0 a _ (by rw[b0])
 have q1:=ev_r8in1 a (if a%2=1 then bankB 20 else []) _ (by rw[b1])
 have hl:Y E0 (.loop 22 0 0 2 [(0,AV.i a),(2,AV.pa 0 0),(3,AV.pa 1 0),(4,AV.i 0)] [(0,some (Rs.var [AV.nil,AV.i 0])),(1,some (Rs.var [AV.nil,AV.i 0]))])=some (.fin (.exit 0) 5 [(2,.pa 0 0),(3,.pa 1 0)] [(0,some (.var [.nil,.i 0])),(1,some (.var [.nm 2,.i 0])),(2,some (.rowA 24 1 2 [.nm 3,.nm 4])),(3,some (.row 22 (.sl .u8) (if a%2=1 then bankB 20 else []))),(4,some (.row 22 (.sl .u8) (if a/2%2=1 then bankB 32 else [])))]):=by
  refine tq ?_;rw[q0];refine tq ?_;refine tq ?_;rw[show(0:Int)+1=1 from rfl,q1];refine tq ?_;exact tq rfl
 refine tq ?_;rw[e3]
 rcases ieq_c (a%4) 0 with hc0|hc0
 ·refine tq ?_
  (rw[newRB,if_pos (show a%4=0 by omega)])
 refine tq ?_;rw[hl];refine tq ?_
 (rw[newRB,if_neg (show ¬a%4=0 by omega)])
variable (sd au:List (List UInt8))(en:List UInt8)(ac re rs ck:Int)(od:Bool)(sb:List (List (List UInt8)))(su mc:Int)(ix:List (El FU))(l1 l2 l3 l4 l5 l6:Int)(ks:List (El IJ))(st sp:Bool)(rb:List (List (List UInt8)))(ru vc:Int)(sf:Bool)(dr:Int)(ss:List (El Gi))(ob:List (El objT))(rl wl:List Int)
end
section
attribute [local irreducible] BL BM BN BO BP BJ BQ CX Cm CY CW Ba Bc BF BC and' BG Bd Aa Ac Ad Ae Af AL AO AP AQ BR D8 BU D5 Be Bf Ag Ah Ai Aj AB AZ AU Ar BA BV BH BB Au Aw BI Bg BX fits BZ BK A7 A8 AC
theorem ev_r22shapes:Y E0 (.call 156 [] [])=some (.ret (.agg [.i (-2),.i 0,.i 0,.i 0,.i 0,.i 0,.i 1,.i 0,.i 0,.i 0,.i 1,.i 0,.i (-2),.i 0,.i 0,.i 0,.i 0,.i 0,.i 0,.i 0,.i 0,.i 0,.i 2,.i 0,.i 0,.i 0,.i 1,.i 2,.i 0,.i 0,.i 1,.i 1,.i 0,.i 0,.i 1,.i 0,.i 1,.i 1,.i 3,.i 3,.i 1,.i 1,.i 3,.i 3,.i 1,.i 1,.i 0,.i 2,.i 0,.i 0,.i 1,.i 0,.i 1,.i 1,.i 0,.i 0,.i 1,.i 1,.i 0,.i 1,.i 1,.i 1,.i 2,.i 1,.i 0,.i 0,.i 1,.i 0,.i 0,.i 0,.i 6,.i (-1),.i 1,.i 1,.i 2,.i 1,.i 0,.i 0,.i 1,.i 3,.i 0,.i 0,.i 1,.i 0,.i 1,.i 1,.i 4,.i 2,.i 1,.i 1,.i 1,.i 0,.i 2,.i 1,.i 1,.i 1,.i 2,.i 1,.i 2,.i 0,.i 2,.i 1,.i 0,.i 0,.i 2,.i 1,.i 0,.i 1,.i 2,.i 1,.i 0,.i 1,.i 2,.i 1,.i 0,.i 0,.i 2,.i 1,.i 0,.i 0,.i 1,.i 1,.i 0,.i 1,.i 1,.i 1,.i 0,.i 0,.i 1,.i 1,.i 0,.i 0,.i 1,.i 1,.i 3,.i 0]) []):=by
 rw[JB]
 kernel_rfl
end
end Go.Proofs.YtanagnimhaemgaaGreatDoor
