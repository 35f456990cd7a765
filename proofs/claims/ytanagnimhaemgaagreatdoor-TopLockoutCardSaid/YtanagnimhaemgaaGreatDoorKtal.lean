/-
  Own texts, laid together for this claim: contracts of functions of the program and its references, used by the statements of this seat.
-/
import Derived.Test.YtanagnimhaemgaaGreatDoorKtac
import Derived.Test.YtanagnimhaemgaaGreatDoorKtad
import Derived.Test.YtanagnimhaemgaaGreatDoorKtaf
import Derived.Test.YtanagnimhaemgaaGreatDoorKtag
import Derived.Test.YtanagnimhaemgaaGreatDoorKtah
import Derived.Test.YtanagnimhaemgaaGreatDoorKtaj
set_option linter.all false
set_option maxHeartbeats 40000000
set_option maxRecDepth 100000
namespace Go.Proofs.YtanagnimhaemgaaGreatDoor
open Go Go.Ax Go.Eng
variable (sd:List (List UInt8))(x:Int)(au:List (List UInt8))(u y:Int)(en:List UInt8)(z ac re rs:Int)(b:List UInt8)(ck:Int)(od:Bool)(su mc:Int)(ix:List (El AB))(l1 l2 l3 l4 l5 l6:Int)
section
attribute [local irreducible] Bl CS CU CJ Bh Ak CV Du EN E5 EH Be BN CE Bz and' CG CO BC Ag Ar BF BG AY Aa AP AX CW Dv CX DT C9 BJ BD BA BB Au AQ Az Ac Aw Ah CY BL Bi BR BI CB CZ CP fits Cb CQ A8 AA AZ
attribute [local irreducible] BK
theorem A0I(x:Bool):Y E0 (.call 123 [.b x] [])=some (.ret (.u8 (We x)) []):=by
 cases x
 ·refine tq ?_
  rfl
 ·refine tq ?_
  rfl
theorem Wl(l:List (List UInt8))(i:Int)(hi:0<=i)(hl:l.length<=1000):Y E0 (.call 121 [.sl (.sl .u8) l,.i i] [])=some (.ret (.sl .u8 (l.getD i.toNat [])) []):=by
 refine tq ?_
 rcases dm (↑l.length) i with hc0|hc0
 ·
  refine tq ?_
  (rw[List.getD_eq_getElem?_getD,List.getElem?_eq_none zaa];rfl)
 refine tq ?_
 refine tq ?_
 rw[DZ zaa]
 conv=>lhs;whnf
 (rw[List.getD_eq_getElem?_getD,List.getElem?_eq_getElem zaa];rfl)
theorem lK:Y E0 (.loop 155 0 0 1 [(1,.pa 0 0),(3,.i 0),(7,.i 0),(8,.i 0)] [(0,some (.var [.sl (.sl (.sl .u8)) [],.i u]))])=some (.fin (.exit 0) 0 [(3,.i 0)] []):=by
 rw[AU];conv=>lhs;whnf
 exact tq rfl
theorem lL(l:List UInt8):Y E0 (.loop 124 0 0 2 [(1,.pa 0 0),(3,.nm 1),(16,.i 0),(17,.i 0)] [(0,some (.var [.sl (.sl (.sl .u8)) [],.i u])),(1,some (.row 5 .u8 l))])=some (.fin (.exit 0) 0 [(3,.sl .u8 l)] []):=by
 rw[AU];conv=>lhs;whnf
 exact tq rfl
theorem A0J:Y E0 (.call 155 [.agg [.sl (.sl (.sl .u8)) [],.i u]] [])=some (.ret (.i 0) []):=by
 have e:Aw ([]:List (List (List UInt8)))=0:=zaQ
 refine tq ?_
 rw[e,lK]
 exact tq rfl
theorem A0K:Y E0 (.call 124 [.agg [.sl (.sl (.sl .u8)) [],.i u]] [])=some (.ret (.sl .u8 (0::n8 u)) []):=by
 have e:Aw ([]:List (List (List UInt8)))=0:=zaQ
 refine tq ?_
 rw[A0J _]
 refine tq ?_
 rw[DN _ _ _ Am]
 refine tq ?_
 rw[e,lL]
 refine tq ?_
 (rw[Kv,EM];rfl)
theorem lM(hb:b.length<=100000):Y E0 (.loop 122 0 2 2 [(1,.pa 0 0),(5,.sl .i64 [x]),(6,.i 1),(7,.i 0)] [(0,some (.var [.nm 1])),(1,some (.row 5 .u8 b))])=some (.fin (.exit 0) 3 [] [(0,some (.var [.nm 2])),(1,some (.row 5 .u8 b)),(2,some (.row 5 .u8 (b++n8 x)))]):=by
 rw[AU];conv=>lhs;whnf
 refine tq ?_
 rw[DN _ _ _ Am]
 refine tq ?_
 refine tq ?_
 rfl
theorem lN(hb:b.length<=100000):Y E0 (.loop 122 0 2 2 [(1,.pa 0 0),(5,.sl .i64 [x,y,z]),(6,.i 3),(7,.i 0)] [(0,some (.var [.nm 1])),(1,some (.row 5 .u8 b))])=some (.fin (.exit 0) 3 [] [(0,some (.var [.nm 2])),(1,some (.row 5 .u8 b)),(2,some (.row 5 .u8 (b++n8 x++n8 y++n8 z)))]):=by
 rw[AU];conv=>lhs;whnf
 refine tq ?_
 rw[DN _ _ _ Am]
 refine tq ?_
 rw[AU]
 conv=>lhs;whnf
 rw[Dn zaa]
 conv=>lhs;whnf
 rw[DZ zad]
 conv=>lhs;whnf
 try dsimp -iota -beta -eta -zeta only
 rw[Aj]
 rw[DN _ _ _ Am]
 refine tq ?_
 rw[AU]
 conv=>lhs;whnf
 rw[Dn zaa]
 conv=>lhs;whnf
 rw[DZ zad]
 conv=>lhs;whnf
 try dsimp -iota -beta -eta -zeta only
 rw[Aj]
 rw[DN _ _ _ Am]
 refine tq ?_
 refine tq ?_
 (simp only[Kv];rfl)
theorem lQ(u v w:Int)(b:List UInt8)(hb:b.length<=100000):Y E0 (.loop 122 0 2 2 [(1,.pa 0 0),(5,.sl .i64 [x,y,z,u,v,w]),(6,.i 6),(7,.i 0)] [(0,some (.var [.nm 1])),(1,some (.row 5 .u8 b))])=some (.fin (.exit 0) 3 [] [(0,some (.var [.nm 2])),(1,some (.row 5 .u8 b)),(2,some (.row 5 .u8 (b++n8 x++n8 y++n8 z++n8 u++n8 v++n8 w)))]):=by
 rw[AU];conv=>lhs;whnf
 refine tq ?_
 rw[DN _ _ _ Am]
 refine tq ?_
 rw[AU]
 conv=>lhs;whnf
 rw[Dn zaa]
 conv=>lhs;whnf
 rw[DZ zad]
 conv=>lhs;whnf
 try dsimp -iota -beta -eta -zeta only
 rw[Aj]
 rw[DN _ _ _ Am]
 refine tq ?_
 rw[AU]
 conv=>lhs;whnf
 rw[Dn zaa]
 conv=>lhs;whnf
 rw[DZ zad]
 conv=>lhs;whnf
 try dsimp -iota -beta -eta -zeta only
 rw[Aj]
 rw[DN _ _ _ Am]
 refine tq ?_
 rw[AU]
 conv=>lhs;whnf
 rw[Dn zaa]
 conv=>lhs;whnf
 rw[DZ zad]
 conv=>lhs;whnf
 try dsimp -iota -beta -eta -zeta only
 rw[Aj]
 rw[DN _ _ _ Am]
 refine tq ?_
 rw[AU]
 conv=>lhs;whnf
 rw[Dn zaa]
 conv=>lhs;whnf
 rw[DZ zad]
 conv=>lhs;whnf
 try dsimp -iota -beta -eta -zeta only
 rw[Aj]
 rw[DN _ _ _ Am]
 refine tq ?_
 rw[AU]
 conv=>lhs;whnf
 rw[Dn zaa]
 conv=>lhs;whnf
 rw[DZ zad]
 conv=>lhs;whnf
 try dsimp -iota -beta -eta -zeta only
 rw[Aj]
 rw[DN _ _ _ Am]
 refine tq ?_
 refine tq ?_
 (simp only[Kv];rfl)
theorem A0L(hb:b.length<=100000):Y E0 (.call 122 [.sl .i64 [x],.pa 0 0] [.var [.nm 1],.row 5 .u8 b])=some (.ret (.tup []) [some (.var [.nm 2]),some (.row 5 .u8 b),some (.row 5 .u8 (b++n8 x))]):=by
 have e:Aw [x]=1:=zaQ
 refine tq ?_
 rw[e,show Nat.add 0 [Rs.row 5 Ty.u8 b].length+1=2 from rfl,lM x b hb]
 exact tq rfl
theorem A0M(hb:b.length<=100000):Y E0 (.call 122 [.sl .i64 [x,y,z],.pa 0 0] [.var [.nm 1],.row 5 .u8 b])=some (.ret (.tup []) [some (.var [.nm 2]),some (.row 5 .u8 b),some (.row 5 .u8 (b++n8 x++n8 y++n8 z))]):=by
 have e:Aw [x,y,z]=3:=zaQ
 refine tq ?_
 rw[e,show Nat.add 0 [Rs.row 5 Ty.u8 b].length+1=2 from rfl,lN x y z b hb]
 exact tq rfl
theorem A0N(u v w:Int)(b:List UInt8)(hb:b.length<=100000):Y E0 (.call 122 [.sl .i64 [x,y,z,u,v,w],.pa 0 0] [.var [.nm 1],.row 5 .u8 b])=some (.ret (.tup []) [some (.var [.nm 2]),some (.row 5 .u8 b),some (.row 5 .u8 (b++n8 x++n8 y++n8 z++n8 u++n8 v++n8 w))]):=by
 have e:Aw [x,y,z,u,v,w]=6:=zaQ
 refine tq ?_
 rw[e,show Nat.add 0 [Rs.row 5 Ty.u8 b].length+1=2 from rfl,lQ x y z u v w b hb]
 exact tq rfl
theorem EJ{l:List (List UInt8)}{m:Nat}(h:∀ x∈l,x.length<=m)(i:Nat):(l.getD i []).length<=m:=by
 rw[List.getD_eq_getElem?_getD]
 cases hx:l[i]? with
 | none=>exact Nat.zero_le _
 | some x=>exact h x (List.mem_of_getElem? hx)
theorem qL(sb:List (List (List UInt8)))(su mc:Int)(ix:List (El AB))(l1 l2 l3 l4 l5 l6:Int)(ks:List (El BP)):Y E0 (.call 52 [.agg (qK sd au en ac re rs ck od sb su mc ix l1 l2 l3 l4 l5 l6 ks)] [])=some (.ret (.agg (qK sd au en ac re rs ck od sb su mc ix l1 l2 l3 l4 l5 l6 ks++[.b false,.b false,.sl (.sl (.sl .u8)) [],.i 0,.i 0,.b false,.i 0,.sl sesT (List.replicate 3 (0,[],[],0,0,0,0,false)),.sl objT (List.replicate 3 ((0,0,0,[],[]),([],[],[]),0)),.sl .i64 [],.sl .i64 []])) []):=by
 have h1:BR 3 ((0,[],[],0,0,0,0,false):El sesT)=List.replicate 3 (0,[],[],0,0,0,0,false):=by rw[FO];rfl
 have h2:BR 3 (((0,0,0,[],[]),([],[],[]),0):El objT)=List.replicate 3 ((0,0,0,[],[]),([],[],[]),0):=by rw[FO];rfl
 refine tq ?_
 (rw[<-h1,<-h2];rfl)
theorem lS(ks:List (El BP))(hs:sd.length=3)(hsm:∀ x∈sd,x.length<=1000)(b:List UInt8)(hb:b.length<=1000):
  Y E0 (.loop 78 0 0 3 [(1,.pa 0 0),(3,.pa 1 0),(16,.i 0)] [(0,some (.var (qK sd au en ac re rs ck od [] su mc ix l1 l2 l3 l4 l5 l6 ks))),(1,some (.var [.nm 2])),(2,some (.row 5 .u8 b))])
   = some (.fin (.exit 0) 3 [(1,.pa 0 0),(3,.pa 1 0)] [(0,some (.var (qK sd au en ac re rs ck od [] su mc ix l1 l2 l3 l4 l5 l6 ks))),(1,some (.var [.nm 2])),(2,some (.row 5 .u8 (b++bl (sd.getD 0 [])++bl (sd.getD 1 [])++bl (sd.getD 2 []))))]):=by
 have h0:=EJ hsm 0
 have h1:=EJ hsm 1
 have h2:=EJ hsm 2
 rw[<-Fg (Nat.le_trans h0 zac),<-Fg (Nat.le_trans h1 zac),<-Fg (Nat.le_trans h2 zac)]
 rw[AU];conv=>lhs;whnf
 refine tq ?_
 rw[Wl _ _ Am Am]
 refine tq ?_
 rw[FQ _ _ Am]
 refine tq ?_
 refine tq ?_
 rw[Wl _ _ Am Am]
 refine tq ?_
 rw[FQ _ _ Am]
 refine tq ?_
 refine tq ?_
 rw[Wl _ _ Am Am]
 refine tq ?_
 rw[FQ _ _ Am]
 refine tq ?_
 refine tq ?_
 rfl
theorem lT(ks:List (El BP))(ha:au.length=4)(ham:∀ x∈au,x.length<=1000)(b:List UInt8)(hb:b.length<=10000):
  Y E0 (.loop 78 1 0 3 [(1,.pa 0 0),(3,.pa 1 0),(26,.i 0)] [(0,some (.var (qK sd au en ac re rs ck od [] su mc ix l1 l2 l3 l4 l5 l6 ks))),(1,some (.var [.nm 2])),(2,some (.row 5 .u8 b))])
   = some (.fin (.exit 2) 3 [(1,.pa 0 0),(3,.pa 1 0)] [(0,some (.var (qK sd au en ac re rs ck od [] su mc ix l1 l2 l3 l4 l5 l6 ks))),(1,some (.var [.nm 2])),(2,some (.row 5 .u8 (b++bl (au.getD 0 [])++bl (au.getD 1 [])++bl (au.getD 2 [])++bl (au.getD 3 []))))]):=by
 have h0:=EJ ham 0
 have h1:=EJ ham 1
 have h2:=EJ ham 2
 have h3:=EJ ham 3
 rw[<-Fg (Nat.le_trans h0 zac),<-Fg (Nat.le_trans h1 zac),<-Fg (Nat.le_trans h2 zac),<-Fg (Nat.le_trans h3 zac)]
 rw[AU];conv=>lhs;whnf
 refine tq ?_
 rw[Wl _ _ Am Am]
 refine tq ?_
 rw[FQ _ _ Am]
 refine tq ?_
 refine tq ?_
 rw[Wl _ _ Am Am]
 refine tq ?_
 rw[FQ _ _ Am]
 refine tq ?_
 refine tq ?_
 rw[Wl _ _ Am Am]
 refine tq ?_
 rw[FQ _ _ Am]
 refine tq ?_
 refine tq ?_
 rw[Wl _ _ Am Am]
 refine tq ?_
 rw[FQ _ _ Am]
 refine tq ?_
 refine tq ?_
 rfl
theorem A5D(x:El AB)(h:NT x):Gy (Gy (Gy (BI (BH (BI b [DT x.1,DT x.2.1,DT x.2.2.1]) 2 x.2.2.2.1) [We x.2.2.2.2.2.2.1]) x.2.2.2.2.1) x.2.2.2.2.2.1) x.2.2.2.2.2.2.2=b++XK x:=by
 obtain⟨-,-,h1,h2,h3,-⟩:=h
 rw[Fg (Nat.le_trans h3 zac),Fg (Nat.le_trans h2 zac),Fg (Nat.le_trans h1 zac),SL,Ap,Ap,EM,EM,EM,XK]
 simp only[List.append_assoc,List.cons_append,List.nil_append]
theorem Zm(x:El AB)(h:NT x):(XK x).length<=300:=by
 obtain⟨-,-,h1,h2,h3,-⟩:=h
 simp only[XK,List.length_cons,List.length_append,DK,Cc];omega
theorem A5E(x:El BP)(h:lH x):BI (Gy b x.1) [DT x.2]=b++XL x:=by
 rw[Fg (Nat.le_trans h.1 zac),Ap,EM,XL,List.append_assoc]
theorem Zn(x:El BP)(h:lH x):(XL x).length<=300:=by
 have:=h.1
 simp only[XL,List.length_cons,List.length_append,List.length_nil,Cc];omega
theorem H6{α:Type}{l:List α}{j:Nat}{x:α}(h:l[j]?=some x):l.drop j=x::l.drop (j+1):=by
 obtain⟨h1,h2⟩:=List.getElem?_eq_some_iff.1 h
 rw[<-h2];exact List.drop_eq_getElem_cons h1
theorem Wn(sd au:List (List UInt8))(en:List UInt8)(ac re rs ck:Int)(od:Bool)(su mc:Int)(ix:List (El AB))(l1 l2 l3 l4 l5 l6:Int)(ks:List (El BP))(hl:ix.length<=6)(hx:∀ x∈ix,NT x):∀(k j:Nat) (b:List UInt8),j+k=ix.length->b.length+300*k<=50000 ->
  Y E0 (.loop 78 2 0 3 [(1,.pa 0 0),(3,.pa 1 0),(6,.fn 122 [] [.pa 1 0]),(74,.sl AB ix),(75,.i (ix.length:Int)),(76,.i (j:Int))] [(0,some (.var (qK sd au en ac re rs ck od [] su mc ix l1 l2 l3 l4 l5 l6 ks))),(1,some (.var [.nm 2])),(2,some (.row 5 .u8 b))])
   = some (.fin (.exit 4) 3 [(1,.pa 0 0),(3,.pa 1 0),(6,.fn 122 [] [.pa 1 0])] [(0,some (.var (qK sd au en ac re rs ck od [] su mc ix l1 l2 l3 l4 l5 l6 ks))),(1,some (.var [.nm 2])),(2,some (.row 5 .u8 (b++(ix.drop j).flatMap XK)))])
 | 0,j,b,hj,hb=>by
  obtain rfl:j=ix.length:=zaa
  rw[List.drop_length,List.flatMap_nil,List.append_nil]
  rw[AU];conv=>lhs;whnf
  refine tq ?_
  with_reducible rfl
 | k+1,j,b,hj,hb=>by
  obtain⟨x,hm,hg⟩:=Gp (l:=ix) (i:=(j:Int)) zaa
  have ho:=hx x hm
  have e:=A5D b x ho
  have el:=Zm x ho
  have ih:=Wn sd au en ac re rs ck od su mc ix l1 l2 l3 l4 l5 l6 ks hl hx k (j+1) (b++XK x) zaa zaA
  rw[D5] at hg
  rw[show((j+1:Nat):Int)=(j:Int)+1 from by omega,List.append_assoc,<-List.flatMap_cons,<-H6 hg,<-e] at ih
  rw[<-D5] at hg
  obtain⟨-,-,q1,q2,q3,-⟩:=ho
  rw[AU];conv=>lhs;whnf
  refine to ?_
  rw[hg]
  refine tq ?_
  rw[DN _ _ _ Am]
  refine tq ?_
  rw[A0I _]
  refine tq ?_
  rw[FQ _ _ Am]
  refine tq ?_
  rw[FQ _ _ Am]
  refine tq ?_
  rw[FQ _ _ Am]
  refine tq ?_
  exact ih
theorem Wp(ks:List (El BP))(hl:ks.length<=8)(hx:∀ x∈ks,lH x):∀(k j:Nat) (b:List UInt8),j+k=ks.length->b.length+300*k<=60000 ->
  Y E0 (.loop 78 3 0 2 [(3,.pa 0 0),(137,.sl BP ks),(138,.i (ks.length:Int)),(139,.i (j:Int))] [(0,some (.var [.nm 1])),(1,some (.row 5 .u8 b))])
   = some (.fin (.exit 6) 2 [(3,.pa 0 0)] [(0,some (.var [.nm 1])),(1,some (.row 5 .u8 (b++(ks.drop j).flatMap XL)))])
 | 0,j,b,hj,hb=>by
  obtain rfl:j=ks.length:=zaa
  rw[List.drop_length,List.flatMap_nil,List.append_nil]
  rw[AU];conv=>lhs;whnf
  refine tq ?_
  with_reducible rfl
 | k+1,j,b,hj,hb=>by
  obtain⟨x,hm,hg⟩:=Gp (l:=ks) (i:=(j:Int)) zaa
  have ho:=hx x hm
  have e:=A5E b x ho
  have el:=Zn x ho
  have ih:=Wp ks hl hx k (j+1) (b++XL x) zaa zaA
  rw[D5] at hg
  rw[show((j+1:Nat):Int)=(j:Int)+1 from by omega,List.append_assoc,<-List.flatMap_cons,<-H6 hg,<-e] at ih
  rw[<-D5] at hg
  obtain⟨q1,-⟩:=ho
  rw[AU];conv=>lhs;whnf
  refine to ?_
  rw[hg]
  refine tq ?_
  rw[FQ _ _ Am]
  refine tq ?_
  exact ih
theorem lU(ks:List (El BP))(hl:ks.length<=8)(hx:∀ x∈ks,lH x)(b:List UInt8)(hb:b.length<=50000):
  Y E0 (.loop 78 3 0 2 [(3,.pa 0 0),(137,.sl BP ks),(138,.i (Aw ks)),(139,.i 0)] [(0,some (.var [.nm 1])),(1,some (.row 5 .u8 b))])
   = some (.fin (.exit 6) 2 [(3,.pa 0 0)] [(0,some (.var [.nm 1])),(1,some (.row 5 .u8 (b++ks.flatMap XL)))]):=by
 have h:=Wp ks hl hx ks.length 0 b zaa zaa
 rw[AC];rw[List.drop_zero] at h;exact h
theorem lV(ks:List (El BP))(hl:ix.length<=6)(hx:∀ x∈ix,NT x)(b:List UInt8)(hb:b.length<=40000):
  Y E0 (.loop 78 2 0 3 [(1,.pa 0 0),(3,.pa 1 0),(6,.fn 122 [] [.pa 1 0]),(74,.sl AB ix),(75,.i (Aw ix)),(76,.i 0)] [(0,some (.var (qK sd au en ac re rs ck od [] su mc ix l1 l2 l3 l4 l5 l6 ks))),(1,some (.var [.nm 2])),(2,some (.row 5 .u8 b))])
   = some (.fin (.exit 4) 3 [(1,.pa 0 0),(3,.pa 1 0),(6,.fn 122 [] [.pa 1 0])] [(0,some (.var (qK sd au en ac re rs ck od [] su mc ix l1 l2 l3 l4 l5 l6 ks))),(1,some (.var [.nm 2])),(2,some (.row 5 .u8 (b++ix.flatMap XK)))]):=by
 have h:=Wn sd au en ac re rs ck od su mc ix l1 l2 l3 l4 l5 l6 ks hl hx ix.length 0 b zaa zaa
 rw[AC];rw[List.drop_zero] at h;exact h
theorem Ht{α:Type}{f:α->List UInt8}{m:Nat}:∀ {l:List α},(∀ x∈l,(f x).length<=m)->(l.flatMap f).length<=m*l.length
 | [],_=>zan
 | x::l,h=>by
  have:=Ht (l:=l) fun y hy=>h y (List.mem_cons_of_mem _ hy)
  have:=h x (List.mem_cons_self ..)
  rw[List.flatMap_cons,List.length_append,List.length_cons,Nat.mul_add];omega
theorem Kw(ks:List (El BP))(hs:sd.length=3)(ha:au.length=4)(hsm:∀ x∈sd,x.length<=1000)(ham:∀ x∈au,x.length<=1000)(he:en.length<=1000)(hi:ix.length<=6)(hix:∀ x∈ix,NT x)(hk:ks.length<=8)(hkx:∀ x∈ks,lH x):Y E0 (.call 78 [.agg (qK sd au en ac re rs ck od [] su mc ix l1 l2 l3 l4 l5 l6 ks)] [])=some (.ret (.sl .u8 (encS sd au en ac re rs ck od [] su mc ix l1 l2 l3 l4 l5 l6 ks)) []):=by
 have h0:=EJ hsm 0
 have h1:=EJ hsm 1
 have h2:=EJ hsm 2
 have h3:=EJ ham 0
 have h4:=EJ ham 1
 have h5:=EJ ham 2
 have h6:=EJ ham 3
 have hF:(List.flatMap XK ix).length<=1800:=Nat.le_trans (Ht (m:=300) fun x hx=>Zm x (hix x hx)) zaa
 have hK:(List.flatMap XL ks).length<=2400:=Nat.le_trans (Ht (m:=300) fun x hx=>Zn x (hkx x hx)) zaa
 refine tq ?_
 rw[lS (hs:=hs) (hsm:=hsm) (b:=[UInt8.ofNat 1,DT ac]) (hb:=zan)]
 refine tq ?_
 rw[lT _ _ _ _ _ _ _ _ _ _ _ _ _ _ _ _ _ _ zaa zaa _ zad]
 refine tq ?_
 rw[FQ _ _ zad]
 refine tq ?_
 rw[A0M _ _ _ _ zad]
 refine tq ?_
 rw[A0I _]
 conv=>lhs;whnf
 rw[EF zad]
 conv=>lhs;whnf
 try dsimp -iota -beta -eta -zeta only
 rw[drw zai];conv=>lhs;whnf
 try dsimp -iota -beta -eta -zeta only
 rw[Aj]
 rw[A0K _]
 refine tq ?_
 rw[FQ _ _ zad]
 refine tq ?_
 rw[A0L _ _ zad]
 conv=>lhs;whnf
 rw[EF zad]
 conv=>lhs;whnf
 try dsimp -iota -beta -eta -zeta only
 rw[Eo]
 rw[lV _ _ _ _ _ _ _ _ _ _ _ _ _ _ _ _ _ _ zaa zaa _ zad]
 refine tq ?_
 rw[A0N _ _ _ _ _ _ _ zad]
 conv=>lhs;whnf
 rw[EF zad]
 conv=>lhs;whnf
 rw[AU]
 conv=>lhs;whnf
 try dsimp -iota -beta -eta -zeta only
 rw[Eo]
 rw[lU ks hk hkx _ zad]
 refine tq ?_
 (delta encS;rw[pz];simp only[Ap,AC,EM,Fg (show en.length<=65535 by omega),Fg (show(0::n8 su).length<=65535 by rw[List.length_cons,Bo];omega),show UInt8.ofNat 1=1 from rfl])
end
section
attribute [local irreducible] Bl CS CU CJ Bh Ak CV Du EN E5 EH Be BN CE Bz and' CG CO BC Ag Ar BF BG AY Aa AP AX CW Dv CX DT C9 BJ BD BA BB Au AQ Az Ac Aw Ah CY BL Bi BR BI CB CZ CP fits Cb CQ A8 AA AZ
theorem uZ(h i:Int)(l r:List UInt8)(hl:l.length<=1000000)(hr:r.length<=1000000):Y E0 (.call 333 [.i h,.i i,.sl .u8 l,.sl .u8 r] [])=some (.ret (.sl .u8 (SG h i l r)) []):=by
 refine tq ?_;rw[FB _ _ (by rw[lC];simp;omega) zan]
 refine tq ?_;simp only[EM];rfl
theorem Oy(n:Int):Y E0 (.loop 358 0 0 0 [(0,.i n),(3,.i 0)] [])=(if GN n<0 then some (.fin (.exit 0) 0 [] []) else some (.fin .ret 0 [(2,.i (GN n))] [])):=by
 unfold GN
 refine tq ?_;rw[show Be 1 (BJ 0).toNat=1 from di zac];refine tq ?_
 rcases I7 n 1 with hc0|hc0
 ·subst hc0;refine tq ?_
  simp[*]
 refine tq ?_;refine tq ?_;rw[show Be 1 (BJ (0+1)).toNat=2 from di zac];refine tq ?_
 rcases I7 n 2 with hc1|hc1
 ·subst hc1;refine tq ?_
  simp[*]
 refine tq ?_;refine tq ?_;rw[show Be 1 (BJ (0+1+1)).toNat=4 from di zac];refine tq ?_
 rcases I7 n 4 with hc2|hc2
 ·subst hc2;refine tq ?_
  simp[*]
 refine tq ?_;refine tq ?_;rw[show Be 1 (BJ (0+1+1+1)).toNat=8 from di zac];refine tq ?_
 rcases I7 n 8 with hc3|hc3
 ·subst hc3;refine tq ?_
  simp[*]
 refine tq ?_;refine tq ?_
 simp[*]
theorem YT(n:Int):Y E0 (.call 358 [.i n] [])=some (.ret (.i (GN n)) []):=by
 by_cases h:GN n<0
 ·have h1:GN n = -1:=by(unfold GN at *;(repeat' split at h)<;>first|omega|simp[*])
  refine tq ?_;rw[Oy,if_pos h];refine tq ?_;rw[h1]
 ·refine tq ?_;rw[Oy,if_neg h];exact tq rfl
theorem OJ(O:List (List (List UInt8)))(h:Nat)(ls:List (List UInt8))(hO:O[h]?=some ls)(hOl:O.length<=10)(hm:∀ l∈ls,l.length<=1000000)(hn:ls.length<=1000):∀(k i:Nat) (acc:List (List UInt8)),ls.length=2*i+2*k->acc.length<=i ->
  Y E0 (.loop 359 1 0 2 [(3,.nm 0),(4,.i h),(5,.nm 1),(6,.i i)] [(0,some (.row 24 (.sl (.sl .u8)) O)),(1,some (.row 22 (.sl .u8) acc))])=some (.fin (.exit 2) 1 [(3,.nm 0),(4,.i h),(5,.sl (.sl .u8) (acc++eQ h i (ls.drop (2*i))))] [(0,some (.row 24 (.sl (.sl .u8)) O))])
 | k,i,acc,hi,ha=>by
  have hg:Ah O (h:Int)=some ls:=by rw[D5];exact hO
  have hh:h<O.length:=(List.getElem?_eq_some_iff.1 hO).1
  by_cases hc:2*i+1<ls.length
  ·obtain⟨k,rfl⟩:∃ j,k=j+1:=⟨k-1,by omega⟩
   have h1:=hm _ (List.getElem_mem (l:=ls) (n:=2*i) zaa)
   have h2:=hm _ (List.getElem_mem (l:=ls) (n:=2*i+1) zaa)
   have ih:=OJ O h ls hO hOl hm hn k (i+1) (acc++[SG h i ls[2*i] ls[2*i+1]]) zaa zar
   rw[drop2 hc,eQ];rw[List.append_assoc,List.singleton_append] at ih
   rw[AU];conv=>lhs;whnf
   rw[Jk zaa]
   conv=>lhs;whnf
   try dsimp -iota -beta -eta -zeta only
   rw[hg];refine to ?_;rw[hg]
   conv=>lhs;whnf
   rw[MG zaa];rw[DZ zaa]
   conv=>lhs;whnf
   rw[Jk zaa]
   conv=>lhs;whnf
   try dsimp -iota -beta -eta -zeta only
   rw[hg]
   conv=>lhs;whnf
   rw[MG zaa];rw[D7 zaa];rw[DZ zaa]
   conv=>lhs;whnf
   try dsimp -iota -beta -eta -zeta only
   rw[Aj];rw[uZ _ _ _ _ Am Am];refine tq ?_
   refine(congrArg (Y E0) ?_).trans ih;(try simp only[Rq.loop.injEq,Rq.call.injEq,Rq.ops.injEq,List.cons.injEq,Prod.mk.injEq,AV.i.injEq,AV.sl.injEq,AV.st.injEq,AV.b.injEq,AV.u8.injEq,AV.nm.injEq,Option.some.injEq,Rs.row.injEq,Rs.var.injEq,heq_eq_eq,true_and,and_true]);(try(repeat' apply And.intro));all_goals first|(with_reducible rfl)|omega|(rw[D7 zaa];omega)|(rw[EI zaa];omega)|(rw[Ap];rfl)
  ·rw[Zf _ _ _ zaK,List.append_nil]
   rw[AU];conv=>lhs;whnf
   rw[Jk zaa]
   conv=>lhs;whnf
   try dsimp -iota -beta -eta -zeta only
   rw[hg];exact tq rfl
theorem Oz:∀(k h:Nat) (pre:List (List (List UInt8))) (cur:List (List UInt8)),k<=3->pre.length=h->h<=3->cur.length=2^k->(∀ l∈cur,l.length<=1000000)->h+k<=3->Y E0 (.loop 359 0 0 1 [(3,.nm 0),(4,.i h)] [(0,some (.row 24 (.sl (.sl .u8)) (pre++[cur])))])=some (.fin (.exit 0) 0 [(3,.sl (.sl (.sl .u8)) (pre++eU k h cur))] [])
 | 0,h,pre,cur,hk,hp,hh,hc,hm,hs=>by
  have hg:=YK pre cur h zaa
  have hpl:(pre++[cur]).length=h+1:=zar
  rw[eU]
  refine to ?_;rw[hg];exact tq rfl
 | k+1,h,pre,cur,hk,hp,hh,hc,hm,hs=>by
  have hg:=YK pre cur h zaa
  have hpl:(pre++[cur]).length=h+1:=zar
  have hc':cur.length=2*2^k:=by rw[hc,Nat.pow_succ];omega
  have hk1:1<=2^k:=Nat.one_le_two_pow
  have hk2:2^k<=4:=by
   have:=Nat.pow_le_pow_right (n:=2) zaa (show k<=2 by omega);simpa using this
  have h1:=OJ (pre++[cur]) h cur (by subst hp;simp) zaa hm zaa (2^k) 0 [] zaa zan
  have ih:=Oz k (h+1) (pre++[cur]) (eQ h 0 cur) zaa zar zaa (by rw[Zg _ _ _ _ (Nat.le_refl _)];omega) (Zh h _ 0 cur (Nat.le_refl _)) zaa
  rw[List.nil_append,Nat.mul_zero,List.drop_zero,show((0:Nat):Int)=0 from rfl] at h1;rw[eU];rw[show((h+1:Nat):Int)=(h:Int)+1 from by omega] at ih;simp only[List.append_assoc,List.cons_append,List.nil_append] at ih
  refine to ?_;rw[hg];refine tq ?_;rw[h1];refine tq ?_
  refine(congrArg (Y E0) ?_).trans ih;(try simp only[Rq.loop.injEq,Rq.call.injEq,Rq.ops.injEq,List.cons.injEq,Prod.mk.injEq,AV.i.injEq,AV.sl.injEq,AV.st.injEq,AV.b.injEq,AV.u8.injEq,AV.nm.injEq,Option.some.injEq,Rs.row.injEq,Rs.var.injEq,heq_eq_eq,true_and,and_true]);(try(repeat' apply And.intro));all_goals first|(with_reducible rfl)|omega|(rw[D7 zaa];omega)|(rw[EI zaa];omega)|(rw[Ap,List.append_assoc];rfl)
theorem uf(k:Nat)(ls:List (List UInt8))(hk:k<=3)(hl:ls.length=2^k)(hm:∀ l∈ls,l.length<=1000000):Y E0 (.call 359 [.sl (.sl .u8) ls] [])=some (.ret (.sl (.sl (.sl .u8)) (eU k 0 ls)) []):=by
 have h0:=Oz k 0 [] ls hk rfl zaa hl hm zaa
 rw[List.nil_append,List.nil_append,show((0:Nat):Int)=0 from rfl] at h0;refine tq ?_;rw[h0];exact tq rfl
theorem A0W(ls:List (List UInt8))(hm:∀ l∈ls,l.length<=1000000)(hn:ls.length<=1000):Y E0 (.call 352 [.sl (.sl .u8) ls] [])=some (.ret (.sl .u8 (SH ls)) []):=by
 by_cases h:GN ls.length<0
 ·refine tq ?_;rw[YT _];refine tq ?_
  unfold SH;(repeat(first|rw[if_pos zaN]|rw[if_neg zaN]));try simp only[NO]
 ·obtain⟨k,hk,hk2,hk3⟩:=lD ls.length h
  have hlv:=uf k ls hk hk3 hm
  have hg:Ah (eU k 0 ls) (k:Int)=some (jV k 0 ls):=by rw[D5];exact eY k 0 ls k (Nat.le_refl _)
  have hln:=Zi k 0 ls 0 hk3
  have hx:=oz k 0 ls hm _ (List.getElem_mem (l:=jV k 0 ls) (n:=0) zaa)
  refine tq ?_;rw[AC,YT,hk2];refine tq ?_;rw[hlv];refine tq ?_;rw[hg];refine tq ?_;rw[DZ zaa];refine tq ?_
  unfold SH;rw[hk2,if_neg zaa];simp[Ap,List.getD,hln]
end
end Go.Proofs.YtanagnimhaemgaaGreatDoor
