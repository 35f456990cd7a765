/-
  Own texts, laid together for this claim: contracts of functions of the program and its references, used by the statements of this seat.
-/
import Derived.Test.YtnhgnfdbdflhcaaGreatDoorMtab
import Derived.Test.YtnhgnfdbdflhcaaGreatDoorMtae
import Derived.Test.YtnhgnfdbdflhcaaGreatDoorMtaf
import Derived.Test.YtnhgnfdbdflhcaaGreatDoorMtaj
set_option linter.all false
set_option maxHeartbeats 40000000
set_option maxRecDepth 100000
namespace Go.Proofs.YtnhgnfdbdflhcaaGreatDoor
open Go Go.Ax Go.Eng
section
attribute [local irreducible] Cc Dn D7 DU DD BA Dp F7 FY FD Ez Ci CS DK DV and' DW DL C9 BR Bh CB CG BG BI Aw BC Dq Fh Dt ER DX Bl CE Bv Bz Bi Az Bg BK Bj BO Du Bc DF BZ BM Cj Di fits Dv Dk Ac Am BH
attribute [local irreducible] Dw CJ
theorem Ql(x:UInt8)(m:Nat)(hm:m<=1000):∀(k j:Nat),j+k=m->Y E0 (.loop 203 0 0 1 [(0,.i (m:Int)),(1,.u8 x),(5,.nm 0),(6,.i (j:Int))] [(0,some (.row 5 .u8 (List.replicate j x++List.replicate k 0)))])=some (.fin (.exit 0) 0 [(5,.sl .u8 (List.replicate m x))] [])
 | 0,j,hj=>by
  obtain rfl:j=m:=zaa
  refine tq ?_
  simp
 | k+1,j,hj=>by
  have ih:=Ql x m hm k (j+1) zaa
  rw[show((j+1:Nat):Int)=(j:Int)+1 from by omega,<-A5Q] at ih
  have hs:Bc (List.replicate j x++List.replicate (k+1) 0) (j:Int) x=(List.replicate j x++List.replicate (k+1) 0).set j x:=by rw[GG];simp
  refine tq ?_;rw[hs];exact ih
theorem OZ(n:Int)(x:UInt8)(hn:0<=n/\n<=1000):Y E0 (.call 203 [.i n,.u8 x] [])=some (.ret (.sl .u8 (List.replicate n.toNat x)) []):=by
 obtain⟨m,rfl⟩:∃ m:Nat,n=m:=⟨n.toNat,by omega⟩
 have hl:=Ql x m zaa m 0 zaa
 rw[show((0:Nat):Int)=0 from rfl,List.replicate_zero,List.nil_append] at hl
 have he:BZ (m:Int) (0:UInt8)=List.replicate m 0:=by rw[FH];simp
 refine tq ?_;rw[he,hl];refine tq ?_
 simp
theorem di(b:Int):Y E0 (.call 204 [.i b] [])=some (.ret (.i (Px b)) []):=by
 refine tq ?_
 rcases AL b 0 with hc0|hc0
 ·subst hc0;refine tq ?_
  unfold Px;(repeat(first|rw[if_pos zax]|rw[if_neg zax]));try simp only[NO]
 refine tq ?_
 rcases AL b 1 with hc1|hc1
 ·subst hc1;refine tq ?_
  unfold Px;(repeat(first|rw[if_pos zax]|rw[if_neg zax]));try simp only[NO]
 refine tq ?_
 unfold Px;(repeat(first|rw[if_pos zax]|rw[if_neg zax]));try simp only[NO]
theorem IZ(b j:Int)(hb:b=0\/b=1):Y E0 (.call 155 [.i b,.i j] [])=some (.ret (.sl .u8 (List.replicate (Px b).toNat (if 12<=j then 255 else 0))) []):=by
 have hs:0<=Px b/\Px b<=1000:=by unfold Px;split<;>(try split)<;>omega
 refine tq ?_
 rcases DJ 12 j with hc0|hc0
 ·refine tq ?_;rw[di _];refine tq ?_;rw[OZ _ _ A7];refine tq ?_
  (rw[if_pos zaa];try rfl)
 refine tq ?_;rw[di _];refine tq ?_;rw[OZ _ _ A7];refine tq ?_
 (rw[if_neg zaa];try rfl)
theorem dm:Y E0 (.call 87 [] [])=some (.ret (.agg [.i 0,.i 5,.i 100,.i 0,.i 0,.i 1000]) []):=by
 exact tq rfl
theorem ng(a:Int)(h:BA .and (CS a (Bl 0).toNat) 1=1):∀(k j:Nat),j+k=16->Y E0 (.loop 88 1 0 3 [(0,.i a),(2,.pa 0 0),(3,.pa 1 0),(4,.i 0),(5,.nm 2),(6,.i (j:Int))] [(0,some (.var [.nil,.i 0])),(1,some (.var [.nil,.i 0])),(2,some (.row 22 (.sl .u8) (OV 20 j)))])=some (.fin (.exit 2) 3 [(0,.i a),(2,.pa 0 0),(3,.pa 1 0),(4,.i 0),(5,.nm 2)] [(0,some (.var [.nil,.i 0])),(1,some (.var [.nil,.i 0])),(2,some (.row 22 (.sl .u8) (OV 20 16)))])
 | 0,j,hj=>by
  obtain rfl:j=16:=zaa
  exact tq rfl
 | k+1,j,hj=>by
  have ih:=ng a h k (j+1) zaa
  rw[show((j+1:Nat):Int)=(j:Int)+1 from by omega,<-mg 0 20 j rfl] at ih
  refine tq ?_;rw[IZ _ _ A7];refine tq ?_;exact ih
theorem A0X(a:Int)(h:BA .and (CS a (Bl 0).toNat) 1≠1):Y E0 (.loop 88 1 0 3 [(0,.i a),(2,.pa 0 0),(3,.pa 1 0),(4,.i 0),(5,.nm 2),(6,.i 0)] [(0,some (.var [.nil,.i 0])),(1,some (.var [.nil,.i 0])),(2,some (.row 22 (.sl .u8) []))])=some (.fin (.exit 2) 3 [(0,.i a),(2,.pa 0 0),(3,.pa 1 0),(4,.i 0),(5,.nm 2)] [(0,some (.var [.nil,.i 0])),(1,some (.var [.nil,.i 0])),(2,some (.row 22 (.sl .u8) []))]):=by
 exact tq rfl
theorem ni(a:Int)(l:List (List UInt8))(h:BA .and (CS a (Bl 1).toNat) 1=1):∀(k j:Nat),j+k=16->Y E0 (.loop 88 1 0 5 [(0,.i a),(2,.pa 0 0),(3,.pa 1 0),(4,.i 1),(5,.nm 2),(6,.i (j:Int))] [(0,some (.var [.nil,.i 0])),(1,some (.var [.nm 3,.i 0])),(2,some (.row 22 (.sl .u8) (OV 32 j))),(3,some (.rowA 24 1 1 [.nm 4])),(4,some (.row 22 (.sl .u8) l))])=some (.fin (.exit 2) 5 [(0,.i a),(2,.pa 0 0),(3,.pa 1 0),(4,.i 1),(5,.nm 2)] [(0,some (.var [.nil,.i 0])),(1,some (.var [.nm 3,.i 0])),(2,some (.row 22 (.sl .u8) (OV 32 16))),(3,some (.rowA 24 1 1 [.nm 4])),(4,some (.row 22 (.sl .u8) l))])
 | 0,j,hj=>by
  obtain rfl:j=16:=zaa
  exact tq rfl
 | k+1,j,hj=>by
  have ih:=ni a l h k (j+1) zaa
  rw[show((j+1:Nat):Int)=(j:Int)+1 from by omega,<-mg 1 32 j rfl] at ih
  refine tq ?_;rw[IZ _ _ A7];refine tq ?_;exact ih
theorem A0Y(a:Int)(l:List (List UInt8))(h:BA .and (CS a (Bl 1).toNat) 1≠1):Y E0 (.loop 88 1 0 5 [(0,.i a),(2,.pa 0 0),(3,.pa 1 0),(4,.i 1),(5,.nm 2),(6,.i 0)] [(0,some (.var [.nil,.i 0])),(1,some (.var [.nm 3,.i 0])),(2,some (.row 22 (.sl .u8) [])),(3,some (.rowA 24 1 1 [.nm 4])),(4,some (.row 22 (.sl .u8) l))])=some (.fin (.exit 2) 5 [(0,.i a),(2,.pa 0 0),(3,.pa 1 0),(4,.i 1),(5,.nm 2)] [(0,some (.var [.nil,.i 0])),(1,some (.var [.nm 3,.i 0])),(2,some (.row 22 (.sl .u8) [])),(3,some (.rowA 24 1 1 [.nm 4])),(4,some (.row 22 (.sl .u8) l))]):=by
 exact tq rfl
theorem A3m(a:Int)(l:List (List UInt8))(hl:l=if BA .and (CS a (Bl 0).toNat) 1=1 then VF 20 else []):Y E0 (.loop 88 1 0 3 [(0,.i a),(2,.pa 0 0),(3,.pa 1 0),(4,.i 0),(5,.nm 2),(6,.i 0)] [(0,some (.var [.nil,.i 0])),(1,some (.var [.nil,.i 0])),(2,some (.row 22 (.sl .u8) []))])=some (.fin (.exit 2) 3 [(0,.i a),(2,.pa 0 0),(3,.pa 1 0),(4,.i 0),(5,.nm 2)] [(0,some (.var [.nil,.i 0])),(1,some (.var [.nil,.i 0])),(2,some (.row 22 (.sl .u8) l))]):=by
 by_cases h:BA .and (CS a (Bl 0).toNat) 1=1
 ·rw[if_pos h] at hl;subst hl;exact ng a h 16 0 zaa
 ·rw[if_neg h] at hl;subst hl;exact A0X a h
theorem A3n(a:Int)(l l':List (List UInt8))(hl:l'=if BA .and (CS a (Bl 1).toNat) 1=1 then VF 32 else []):Y E0 (.loop 88 1 0 5 [(0,.i a),(2,.pa 0 0),(3,.pa 1 0),(4,.i 1),(5,.nm 2),(6,.i 0)] [(0,some (.var [.nil,.i 0])),(1,some (.var [.nm 3,.i 0])),(2,some (.row 22 (.sl .u8) [])),(3,some (.rowA 24 1 1 [.nm 4])),(4,some (.row 22 (.sl .u8) l))])=some (.fin (.exit 2) 5 [(0,.i a),(2,.pa 0 0),(3,.pa 1 0),(4,.i 1),(5,.nm 2)] [(0,some (.var [.nil,.i 0])),(1,some (.var [.nm 3,.i 0])),(2,some (.row 22 (.sl .u8) l')),(3,some (.rowA 24 1 1 [.nm 4])),(4,some (.row 22 (.sl .u8) l))]):=by
 by_cases h:BA .and (CS a (Bl 1).toNat) 1=1
 ·rw[if_pos h] at hl;subst hl;exact ni a l h 16 0 zaa
 ·rw[if_neg h] at hl;subst hl;exact A0Y a l h
theorem ny(a:Int)(ha:0<=a):Y E0 (.call 88 [.i a] [])=some (.ret (.agg [.sl (.sl (.sl .u8)) (Nk a),.i 0]) []):=by
 have e3:BA .and a 3=a%4:=Jp 2 zal a
 have b0:BA .and (CS a (Bl 0).toNat) 1=a%2:=by rw[show(Bl 0).toNat=0 from by rw[MH];rfl,Ik zaa];exact(Jp 1 zal _).trans zam
 have b1:BA .and (CS a (Bl 1).toNat) 1=a/2%2:=by rw[show(Bl 1).toNat=1 from by rw[MH];rfl,Ik zaa];exact(Jp 1 zal _).trans zam
 have q0:=A3m a _ (by rw[b0])
 have q1:=A3n a (if a%2=1 then VF 20 else []) _ (by rw[b1])
 have hl:Y E0 (.loop 88 0 0 2 [(0,AV.i a),(2,AV.pa 0 0),(3,AV.pa 1 0),(4,AV.i 0)] [(0,some (Rs.var [AV.nil,AV.i 0])),(1,some (Rs.var [AV.nil,AV.i 0]))])=some (.fin (.exit 0) 5 [(2,.pa 0 0),(3,.pa 1 0)] [(0,some (.var [.nil,.i 0])),(1,some (.var [.nm 2,.i 0])),(2,some (.rowA 24 1 2 [.nm 3,.nm 4])),(3,some (.row 22 (.sl .u8) (if a%2=1 then VF 20 else []))),(4,some (.row 22 (.sl .u8) (if a/2%2=1 then VF 32 else [])))]):=by
  refine tq ?_;rw[q0];refine tq ?_;refine tq ?_;rw[show(0:Int)+1=1 from rfl,q1];refine tq ?_;exact tq rfl
 refine tq ?_;rw[e3]
 rcases AL (a%4) 0 with hc0|hc0
 ·refine tq ?_
  (rw[Nk,if_pos (show a%4=0 by omega)])
 refine tq ?_;rw[hl];refine tq ?_
 (rw[Nk,if_neg (show ¬a%4=0 by omega)])
theorem NM(sd au:List (List UInt8))(en:List UInt8)(ac re rs ck:Int)(od:Bool)(sb:List (List (List UInt8)))(su mc:Int)(ix:List (El Gp))(l1 l2 l3 l4 l5 l6:Int)(ks:List (El J8)):Y E0 (.call 27 [.agg [.sl (.sl .u8) sd,.sl (.sl .u8) au,.sl .u8 en,.i ac,.i re,.i rs,.i ck,.b od,.sl (.sl (.sl .u8)) sb,.i su,.i mc,.sl Gp ix,.i l1,.i l2,.i l3,.i l4,.i l5,.i l6,.sl J8 ks]] [])=some (.ret ((sX sd au en ac re rs ck od sb su mc ix l1 l2 l3 l4 l5 l6 ks false false [] 0 0 false 0 (List.replicate 3 ses0) (List.replicate 3 obj0) [] [])) []):=by
 have h1:BZ 3 ((0,[],[],0,0,0,0,false):El sesT)=List.replicate 3 ses0:=zbO
 have h2:BZ 3 (((0,0,0,[],[]),([],[],[]),0):El objT)=List.replicate 3 obj0:=zbO
 refine tq ?_
 (rw[h1,h2])
theorem Zy(en:List UInt8)(a:Int)(he:en.length=32)(ha:0<=a/\a<=3)(e:List UInt8):Y E0 (.loop 25 0 0 3 [(0,AV.sl Ty.u8 en),(4,AV.pa 0 0),(6,AV.pa 1 0),(7,AV.i 0)] [(0,some (Rs.var [AV.nil,AV.nil,AV.nil,AV.i 0,AV.i 0,AV.i 0,AV.i 0,AV.b false,AV.nil,AV.i 0,AV.i 0,AV.nil,AV.i 0,AV.i 0,AV.i 0,AV.i 0,AV.i 0,AV.i 0,AV.nil])),(1,some (Rs.var [AV.nil,AV.nm 2,AV.sl Ty.u8 e,AV.i a,AV.i 0,AV.i 0,AV.i 0,AV.b true,AV.nil,AV.i 0,AV.i 0,AV.nil,AV.i 0,AV.i 5,AV.i 100,AV.i 0,AV.i 0,AV.i 1000,AV.nil])),(2,some (Rs.row 22 Ty.u8.sl (BZ 4 [])))]) =
  some (.fin (.exit 0) 4 [(4,.pa 0 0),(6,.pa 1 0)] [(0,some (Rs.var [AV.nil,AV.nil,AV.nil,AV.i 0,AV.i 0,AV.i 0,AV.i 0,AV.b false,AV.nil,AV.i 0,AV.i 0,AV.nil,AV.i 0,AV.i 0,AV.i 0,AV.i 0,AV.i 0,AV.i 0,AV.nil])),(1,some (Rs.var [AV.nm 2,AV.nm 3,AV.sl Ty.u8 e,AV.i a,AV.i 0,AV.i 0,AV.i 0,AV.b true,AV.nil,AV.i 0,AV.i 0,AV.nil,AV.i 0,AV.i 5,AV.i 100,AV.i 0,AV.i 0,AV.i 1000,AV.nil])),(2,some (Rs.row 22 Ty.u8.sl (BM (BM [Dw en I4 [ER 0] 32] [Dw en I4 [ER 1] 32]) [Dw en I4 [ER 2] 32]))),(3,some (Rs.row 22 Ty.u8.sl (BZ 4 [])))]):=by
 refine tq ?_;rw[show strOf {data := #[115,101,101,100]}=I4 from rfl,Es _ _ _ _ zaa zal zam];refine tq ?_;refine tq ?_;rw[show strOf {data := #[115,101,101,100]}=I4 from rfl,Es _ _ _ _ zaa zal zam];refine tq ?_;refine tq ?_;rw[show strOf {data := #[115,101,101,100]}=I4 from rfl,Es _ _ _ _ zaa zal zam];refine tq ?_;refine tq ?_
 rfl
theorem dn(en:List UInt8)(a:Int)(he:en.length=32)(ha:0<=a/\a<=3):Y E0 (.call 25 [.sl .u8 en,.i a] [])=some (.ret (.tup [.agg [.sl (.sl .u8) (PH en),.sl (.sl .u8) [[],[],[],[]],.sl .u8 (Dw en mf [] 32),.i a,.i 0,.i 0,.i 0,.b true,.sl (.sl (.sl .u8)) [],.i 0,.i 0,.sl Gp [],.i 0,.i 5,.i 100,.i 0,.i 0,.i 1000,.sl J8 []],.i 0]) []):=by
 have h1:BM (BM [Dw en I4 [ER 0] 32] [Dw en I4 [ER 1] 32]) [Dw en I4 [ER 2] 32]=PH en:=by rw[Ag,Ag,FP,FP,FP];rfl
 have h2:BZ 4 ([]:List UInt8)=[[],[],[],[]]:=zbO
 refine tq ?_;rw[show strOf {data := #[101,110,116,114,111,112,121]}=mf from rfl,Es _ _ _ _ zaa zal zam];refine tq ?_;rw[dm];refine tq ?_;rw[Zy _ _ A7 A7 _];refine tq ?_
 (rw[h1,h2])
variable (sd au:List (List UInt8))(en:List UInt8)(ac re rs ck:Int)(od:Bool)(sb:List (List (List UInt8)))(su mc:Int)(ix:List (El Gp))(l1 l2 l3 l4 l5 l6:Int)(ks:List (El J8))(st sp:Bool)(rb:List (List (List UInt8)))(ru vc:Int)(sf:Bool)(dr:Int)(ss:List (El sesT))(ob:List (El objT))(rl wl:List Int)
theorem Qm(h:st=false/\sp=false)(hr:0<=re/\re<=1000000)(ha:0<=ac):Y E0 (.call 26 [(sX sd au en ac re rs ck od sb su mc ix l1 l2 l3 l4 l5 l6 ks st sp rb ru vc sf dr ss ob rl wl),.i 0] [])=some (.ret (.tup [(sX sd au en ac (re+1) 0 ck false [] 0 mc ix l1 l2 l3 l4 l5 l6 ks true sp (Nk ac) 0 ck od dr ss ob rl wl),.i 0]) []):=by
 obtain⟨rfl,rfl⟩:=h;refine tp ?_;rw[ny _ A7];exact tq rfl
theorem A5a(h:st=true):Y E0 (.call 91 [(sX sd au en ac re rs ck od sb su mc ix l1 l2 l3 l4 l5 l6 ks st sp rb ru vc sf dr ss ob rl wl)] [])=some (.ret ((sX sd au en ac re rs ck od sb su mc ix l1 l2 l3 l4 l5 l6 ks st sp rb ru vc sf dr ss ob rl wl)) []):=by
 subst h;exact tq rfl
theorem A3o(h:st=true)(n:Int):Y E0 (.call 28 [(sX sd au en ac re rs ck od sb su mc ix l1 l2 l3 l4 l5 l6 ks st sp rb ru vc sf dr ss ob rl wl),.sl .u8 [],.sl .u8 [],.i n] [])=some (.ret ((sX sd au en ac re rs ck od sb su mc ix l1 l2 l3 l4 l5 l6 ks st sp rb ru vc sf dr ss ob rl wl)) []):=by
 subst h
 have hl:Y E0 (.loop 28 0 0 2 [(1,.sl .u8 []),(2,.sl .u8 []),(3,.i n),(4,.pa 0 0),(8,.pa 1 0),(9,.i 0)] [(0,some (.var [.sl (.sl .u8) sd,.sl (.sl .u8) au,.sl .u8 en,.i ac,.i re,.i rs,.i ck,.b od,.sl (.sl (.sl .u8)) sb,.i su,.i mc,.sl Gp ix,.i l1,.i l2,.i l3,.i l4,.i l5,.i l6,.sl J8 ks,.b true,.b sp,.sl (.sl (.sl .u8)) rb,.i ru,.i vc,.b sf,.i dr,.sl sesT ss,.sl objT ob,.sl .i64 rl,.sl .i64 wl])),(1,some (Rs.var [AV.nil,AV.nil,AV.nil,AV.i 0,AV.i 0,AV.i 0,AV.i 0,AV.b false,AV.nil,AV.i 0,AV.i 0,AV.nil,AV.i 0,AV.i 0,AV.i 0,AV.i 0,AV.i 0,AV.i 0,AV.nil,AV.b false,AV.b false,AV.nil,AV.i 0,AV.i 0,AV.b false,AV.i 0,AV.nil,AV.nil,AV.nil,AV.nil]))])=some (.fin (.exit 0) 2 [(4,.pa 0 0),(8,.pa 1 0)] [(0,some (.var [.sl (.sl .u8) sd,.sl (.sl .u8) au,.sl .u8 en,.i ac,.i re,.i rs,.i ck,.b od,.sl (.sl (.sl .u8)) sb,.i su,.i mc,.sl Gp ix,.i l1,.i l2,.i l3,.i l4,.i l5,.i l6,.sl J8 ks,.b true,.b sp,.sl (.sl (.sl .u8)) rb,.i ru,.i vc,.b sf,.i dr,.sl sesT ss,.sl objT ob,.sl .i64 rl,.sl .i64 wl])),(1,some (Rs.var [AV.nil,AV.nil,AV.nil,AV.i 0,AV.i 0,AV.i 0,AV.i 0,AV.b false,AV.nil,AV.i 0,AV.i 0,AV.nil,AV.i 0,AV.i 0,AV.i 0,AV.i 0,AV.i 0,AV.i 0,AV.nil,AV.b false,AV.b false,AV.nil,AV.i 0,AV.i 0,AV.b false,AV.i 0,AV.nil,AV.nil,AV.nil,AV.nil]))]):=by
  exact tq rfl
 refine tq ?_;rw[hl];refine tq ?_;rw[A5a _ _ _ _ _ _ _ _ _ _ _ _ _ _ _ _ _ _ _ _ _ _ _ _ _ _ _ _ _ _ rfl];exact tq rfl
theorem A0Z(n:Int):Y E0 (.call 7 [.i n,.sl .u8 [],.sl .u8 []] [])=some (.ret ((sX (PH A7H) [[],[],[],[]] (Dw A7H mf [] 32) (n%4) 1 0 0 false [] 0 0 [] 0 5 100 0 0 1000 [] true false (Nk (n%4)) 0 0 true 0 (List.replicate 3 ses0) (List.replicate 3 obj0) [] [])) []):=by
 have e3:BA .and n 3=n%4:=Jp 2 zal n
 refine tq ?_;rw[IK _]
 conv=>lhs;whnf
 try dsimp -iota -beta -eta -zeta only
 rw[e3];refine tq ?_;rw[dn _ _ (AP _) zaa];refine tq ?_;rw[NM ..];refine tq ?_;rw[Qm _ _ _ _ _ _ _ _ _ _ _ _ _ _ _ _ _ _ _ _ _ _ _ _ _ _ _ _ _ _ ⟨rfl,rfl⟩ zaa zaa];refine tq ?_;rw[A3o _ _ _ _ _ _ _ _ _ _ _ _ _ _ _ _ _ _ _ _ _ _ _ _ _ _ _ _ _ _ rfl _];refine tq ?_
 rfl
end
end Go.Proofs.YtnhgnfdbdflhcaaGreatDoor
