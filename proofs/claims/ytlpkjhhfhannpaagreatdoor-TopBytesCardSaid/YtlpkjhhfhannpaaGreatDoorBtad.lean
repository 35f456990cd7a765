/- Own texts of this claim: contracts of functions. -/
import Derived.Test.YtlpkjhhfhannpaaGreatDoorBtac
set_option linter.all false
set_option maxHeartbeats 40000000
set_option maxRecDepth 100000
namespace Go.Ax
variable (b k:List UInt8)
def orx(d:UInt8):List UInt8->List UInt8->UInt8
 | a::x,b::y=>orx (d|||(a^^^b)) x y
 | _,_=>d
theorem nU:∀(a b:List UInt8) (d:UInt8),a.length=b.length->(orx d a b=0↔d=0/\a=b)
 | [],[],d,_=>by simp[orx]
 | x::a,y::b,d,h=>by
  rw[orx,nU a b _ za8,UInt8.or_eq_zero_iff,UInt8.xor_eq_zero_iff,List.cons.injEq,and_assoc]
 | [],y::b,d,h|x::a,[],d,h=>zbq
theorem A4V(d:UInt8)(a b:List UInt8)(h:a.length=b.length)(j:Nat)(hj:j<a.length):orx d (a.drop j) (b.drop j)=orx (d|||(a[j]^^^b[j])) (a.drop (j+1)) (b.drop (j+1)):=by
 rw[List.drop_eq_getElem_cons hj,List.drop_eq_getElem_cons (show j<b.length by omega),orx]
theorem Z7(h:k.length=b.length):(Ws b k).length=b.length:=by rw[Ws,List.length_zipWith,h,Nat.min_self]
theorem A4W(h:k.length=b.length)(j:Nat)(hj:j<b.length):
  ((Ws b k).take j++List.replicate (b.length-j) 0).set j (b[j]^^^k[j])=(Ws b k).take (j+1)++List.replicate (b.length-(j+1)) 0:=by
 have hl:=Z7 b k h
 have hx:(Ws b k)[j]'zaa=b[j]^^^k[j]:=by simp[Ws]
 rw[List.take_succ_eq_append_getElem zaa,hx,List.set_append,if_neg zaX,List.length_take,show j-min j (Ws b k).length=0 from by omega,
  show b.length-j=(b.length-(j+1))+1 from by omega,List.replicate_succ,List.set_cons_zero,List.append_assoc]
 rfl
theorem A4X(h:k.length=b.length)(j:Nat)(hj:j<=b.length):((Ws b k).take j++List.replicate (b.length-j) (0:UInt8)).length=b.length:=by
 have hl:=Z7 b k h
 simp;omega
end Go.Ax
namespace Go.Ax
open Go.Eng
theorem vT(tag:Int):∀(ls:List (List UInt8)) (m:Nat),(∀ x∈ls,x.length<=m)->(Az tag ls).length<=1+ls.length*(m+4):=by
 intro ls m h
 have key:∀ j,j<=ls.length->(Az tag (ls.take j)).length<=1+j*(m+4):=by
  intro j
  induction j with
  | zero=>intro _;simp[Az,fieldsB]
  | succ j ih =>
   intro hj
   have hg:ls[j]?=some (ls[j]'zaa):=List.getElem?_eq_getElem zaa
   have hx:=h _ (List.getElem_mem (show j<ls.length by omega))
   rw[Pi tag ls j _ hg,List.length_append,List.length_append]
   have:=ih zaa
   have h4:(sS (ls[j]'zaa)).length=4:=rfl
   rw[h4,Nat.succ_mul];omega
 have:=key ls.length (Nat.le_refl _)
 rwa [List.take_length] at this
end Go.Ax
namespace Go.Proofs.YtlpkjhhfhannpaaGreatDoor
open Go Go.Ax Go.Eng
attribute [local irreducible] CS Cj CP CW CQ BC Cm ED ES Dx EG CJ Bi Ce CX and' Cf CU BL Au BI BP BR Ag Ai AY Ae D5 EJ D6 DX Cb BZ BQ BM BO BJ AZ BK Aj Ak Ap D7 BB CV BU BF CO D8 Cc fits D9 Ci AC AQ Ah
section
attribute [local irreducible] BG
variable (sd:List (List UInt8))(x:Int)(au:List (List UInt8))(y:Int)(en:List UInt8)(z u ac re rs ck:Int)(od:Bool)(sb:List (List (List UInt8)))(su mc:Int)(ix:List (El Bf))(l1 l2 l3 l4 l5 l6:Int)(ks:List (El E8))(b:List UInt8)
theorem A49(x:Bool):Y E0 (.call 106 [.b x] [])=some (.ret (.u8 (A48 x)) []):=by
 cases x
 ·refine tq ?_
  rfl
 ·refine tq ?_
  rfl
theorem Yq(l:List (List UInt8))(i:Int)(hi:0<=i)(hl:l.length<=1000):Y E0 (.call 104 [.sl (.sl .u8) l,.i i] [])=some (.ret (.sl .u8 (l.getD i.toNat [])) []):=by
 refine tq ?_
 rcases Gw (↑l.length) i with hc0|hc0
 ·
  refine tq ?_
  (rw[List.getD_eq_getElem?_getD,List.getElem?_eq_none zaa];rfl)
 refine tq ?_
 refine tq ?_
 rw[Bv zaa]
 conv=>lhs;whnf
 (rw[List.getD_eq_getElem?_getD,List.getElem?_eq_getElem zaa];rfl)
theorem uZ:Y E0 (.loop 155 0 0 1 [(1,.pa 0 0),(3,.i 0),(7,.i 0),(8,.i 0)] [(0,some (.var [.sl (.sl (.sl .u8)) [],.i u]))])=some (.fin (.exit 0) 0 [(3,.i 0)] []):=by
 rw[AL];conv=>lhs;whnf
 exact tq rfl
theorem uf(l:List UInt8):Y E0 (.loop 107 0 0 2 [(1,.pa 0 0),(3,.nm 1),(16,.i 0),(17,.i 0)] [(0,some (.var [.sl (.sl (.sl .u8)) [],.i u])),(1,some (.row 5 .u8 l))])=some (.fin (.exit 0) 0 [(3,.sl .u8 l)] []):=by
 rw[AL];conv=>lhs;whnf
 exact tq rfl
theorem A4A:Y E0 (.call 155 [.agg [.sl (.sl (.sl .u8)) [],.i u]] [])=some (.ret (.i 0) []):=by
 have e:Ak ([]:List (List (List UInt8)))=0:=zaV
 refine tq ?_
 rw[e,uZ]
 exact tq rfl
theorem A4B:Y E0 (.call 107 [.agg [.sl (.sl (.sl .u8)) [],.i u]] [])=some (.ret (.sl .u8 (0::n8 u)) []):=by
 have e:Ak ([]:List (List (List UInt8)))=0:=zaV
 refine tq ?_
 rw[A4A _]
 refine tq ?_
 rw[Dy _ _ _ AA]
 refine tq ?_
 rw[e,uf]
 refine tq ?_
 (rw[Lm,Dq];rfl)
theorem ug(hb:b.length<=100000):Y E0 (.loop 105 0 2 2 [(1,.pa 0 0),(5,.sl .i64 [x]),(6,.i 1),(7,.i 0)] [(0,some (.var [.nm 1])),(1,some (.row 5 .u8 b))])=some (.fin (.exit 0) 3 [] [(0,some (.var [.nm 2])),(1,some (.row 5 .u8 b)),(2,some (.row 5 .u8 (b++n8 x)))]):=by
 rw[AL];conv=>lhs;whnf
 refine tq ?_
 rw[Dy _ _ _ AA]
 refine tq ?_
 refine tq ?_
 rfl
theorem uh(hb:b.length<=100000):Y E0 (.loop 105 0 2 2 [(1,.pa 0 0),(5,.sl .i64 [x,y,z]),(6,.i 3),(7,.i 0)] [(0,some (.var [.nm 1])),(1,some (.row 5 .u8 b))])=some (.fin (.exit 0) 3 [] [(0,some (.var [.nm 2])),(1,some (.row 5 .u8 b)),(2,some (.row 5 .u8 (b++n8 x++n8 y++n8 z)))]):=by
 rw[AL];conv=>lhs;whnf
 refine tq ?_
 rw[Dy _ _ _ AA]
 refine tq ?_
 rw[AL]
 conv=>lhs;whnf
 rw[Dl zaa]
 conv=>lhs;whnf
 rw[Bv zan]
 conv=>lhs;whnf
 try dsimp -iota -beta -eta -zeta only
 rw[AX]
 rw[Dy _ _ _ AA]
 refine tq ?_
 rw[AL]
 conv=>lhs;whnf
 rw[Dl zaa]
 conv=>lhs;whnf
 rw[Bv zan]
 conv=>lhs;whnf
 try dsimp -iota -beta -eta -zeta only
 rw[AX]
 rw[Dy _ _ _ AA]
 refine tq ?_
 refine tq ?_
 (simp only[Lm];rfl)
theorem ui(v w:Int)(b:List UInt8)(hb:b.length<=100000):Y E0 (.loop 105 0 2 2 [(1,.pa 0 0),(5,.sl .i64 [x,y,z,u,v,w]),(6,.i 6),(7,.i 0)] [(0,some (.var [.nm 1])),(1,some (.row 5 .u8 b))])=some (.fin (.exit 0) 3 [] [(0,some (.var [.nm 2])),(1,some (.row 5 .u8 b)),(2,some (.row 5 .u8 (b++n8 x++n8 y++n8 z++n8 u++n8 v++n8 w)))]):=by
 rw[AL];conv=>lhs;whnf
 refine tq ?_
 rw[Dy _ _ _ AA]
 refine tq ?_
 rw[AL]
 conv=>lhs;whnf
 rw[Dl zaa]
 conv=>lhs;whnf
 rw[Bv zan]
 conv=>lhs;whnf
 try dsimp -iota -beta -eta -zeta only
 rw[AX]
 rw[Dy _ _ _ AA]
 refine tq ?_
 rw[AL]
 conv=>lhs;whnf
 rw[Dl zaa]
 conv=>lhs;whnf
 rw[Bv zan]
 conv=>lhs;whnf
 try dsimp -iota -beta -eta -zeta only
 rw[AX]
 rw[Dy _ _ _ AA]
 refine tq ?_
 rw[AL]
 conv=>lhs;whnf
 rw[Dl zaa]
 conv=>lhs;whnf
 rw[Bv zan]
 conv=>lhs;whnf
 try dsimp -iota -beta -eta -zeta only
 rw[AX]
 rw[Dy _ _ _ AA]
 refine tq ?_
 rw[AL]
 conv=>lhs;whnf
 rw[Dl zaa]
 conv=>lhs;whnf
 rw[Bv zan]
 conv=>lhs;whnf
 try dsimp -iota -beta -eta -zeta only
 rw[AX]
 rw[Dy _ _ _ AA]
 refine tq ?_
 rw[AL]
 conv=>lhs;whnf
 rw[Dl zaa]
 conv=>lhs;whnf
 rw[Bv zan]
 conv=>lhs;whnf
 try dsimp -iota -beta -eta -zeta only
 rw[AX]
 rw[Dy _ _ _ AA]
 refine tq ?_
 refine tq ?_
 (simp only[Lm];rfl)
theorem A4C(hb:b.length<=100000):Y E0 (.call 105 [.sl .i64 [x],.pa 0 0] [.var [.nm 1],.row 5 .u8 b])=some (.ret (.tup []) [some (.var [.nm 2]),some (.row 5 .u8 b),some (.row 5 .u8 (b++n8 x))]):=by
 have e:Ak [x]=1:=zaV
 refine tq ?_
 rw[e,show Nat.add 0 [Rs.row 5 Ty.u8 b].length+1=2 from rfl,ug x b hb]
 exact tq rfl
theorem A4D(hb:b.length<=100000):Y E0 (.call 105 [.sl .i64 [x,y,z],.pa 0 0] [.var [.nm 1],.row 5 .u8 b])=some (.ret (.tup []) [some (.var [.nm 2]),some (.row 5 .u8 b),some (.row 5 .u8 (b++n8 x++n8 y++n8 z))]):=by
 have e:Ak [x,y,z]=3:=zaV
 refine tq ?_
 rw[e,show Nat.add 0 [Rs.row 5 Ty.u8 b].length+1=2 from rfl,uh x y z b hb]
 exact tq rfl
theorem A4E(v w:Int)(b:List UInt8)(hb:b.length<=100000):Y E0 (.call 105 [.sl .i64 [x,y,z,u,v,w],.pa 0 0] [.var [.nm 1],.row 5 .u8 b])=some (.ret (.tup []) [some (.var [.nm 2]),some (.row 5 .u8 b),some (.row 5 .u8 (b++n8 x++n8 y++n8 z++n8 u++n8 v++n8 w))]):=by
 have e:Ak [x,y,z,u,v,w]=6:=zaV
 refine tq ?_
 rw[e,show Nat.add 0 [Rs.row 5 Ty.u8 b].length+1=2 from rfl,ui x y z u v w b hb]
 exact tq rfl
theorem Ej{l:List (List UInt8)}{m:Nat}(h:∀ x∈l,x.length<=m)(i:Nat):(l.getD i []).length<=m:=by
 rw[List.getD_eq_getElem?_getD]
 cases hx:l[i]? with
 | none=>exact Nat.zero_le _
 | some x=>exact h x (List.mem_of_getElem? hx)
theorem iQ:Y E0 (.call 111 [.agg (VW sd au en ac re rs ck od sb su mc ix l1 l2 l3 l4 l5 l6 ks)] [])=some (.ret (.agg (VW sd au en ac re rs ck od sb su mc ix l1 l2 l3 l4 l5 l6 ks++[.b false,.b false,.sl (.sl (.sl .u8)) [],.i 0,.i 0,.b false,.i 0,.sl sesT (List.replicate 3 (0,[],[],0,0,0,0,false)),.sl objT (List.replicate 3 ((0,0,0,[],[]),([],[],[]),0)),.sl .i64 [],.sl .i64 []])) []):=by
 have h1:BU 3 ((0,[],[],0,0,0,0,false):El sesT)=List.replicate 3 (0,[],[],0,0,0,0,false):=zbw
 have h2:BU 3 (((0,0,0,[],[]),([],[],[]),0):El objT)=List.replicate 3 ((0,0,0,[],[]),([],[],[]),0):=zbw
 refine tq ?_
 (rw[<-h1,<-h2];rfl)
theorem AAH(x:El Bf)(h:Gv x):Hy (Hy (Hy (BF (Bg (BF b [DX x.1,DX x.2.1,DX x.2.2.1]) 2 x.2.2.2.1) [A48 x.2.2.2.2.2.2.1]) x.2.2.2.2.1) x.2.2.2.2.2.1) x.2.2.2.2.2.2.2=b++Ze x:=by
 obtain⟨-,-,h1,h2,h3,-⟩:=h
 rw[GX (Nat.le_trans h3 zaj),GX (Nat.le_trans h2 zaj),GX (Nat.le_trans h1 zaj),UN,Ac,Ac,Dq,Dq,Dq,Ze]
 simp only[List.append_assoc,List.cons_append,List.nil_append]
theorem iR(x:El Bf)(h:Gv x):(Ze x).length<=300:=by
 obtain⟨-,-,h1,h2,h3,-⟩:=h
 simp only[Ze,List.length_cons,List.length_append,Bh,Ba];omega
theorem AAI(x:El E8)(h:LZ x):BF (Hy b x.1) [DX x.2]=b++Zf x:=by
 rw[GX (Nat.le_trans h.1 zaj),Ac,Dq,Zf,List.append_assoc]
theorem iT(x:El E8)(h:LZ x):(Zf x).length<=300:=by
 have:=h.1
 simp only[Zf,List.length_cons,List.length_append,List.length_nil,Ba];omega
theorem HY{α:Type}{l:List α}{j:Nat}{x:α}(h:l[j]?=some x):l.drop j=x::l.drop (j+1):=by
 obtain⟨h1,h2⟩:=List.getElem?_eq_some_iff.1 h
 rw[<-h2];exact List.drop_eq_getElem_cons h1
theorem Yr(ks:List (El E8))(hl:ks.length<=8)(hx:∀ x∈ks,LZ x):∀(k j:Nat) (b:List UInt8),j+k=ks.length->b.length+300*k<=60000 ->
  Y E0 (.loop 62 3 0 2 [(3,.pa 0 0),(137,.sl E8 ks),(138,.i (ks.length:Int)),(139,.i (j:Int))] [(0,some (.var [.nm 1])),(1,some (.row 5 .u8 b))])
   = some (.fin (.exit 6) 2 [(3,.pa 0 0)] [(0,some (.var [.nm 1])),(1,some (.row 5 .u8 (b++(ks.drop j).flatMap Zf)))])
 | 0,j,b,hj,hb=>by
  obtain rfl:j=ks.length:=zaa
  rw[List.drop_length,List.flatMap_nil,List.append_nil]
  rw[AL];conv=>lhs;whnf
  refine tq ?_
  with_reducible rfl
 | k+1,j,b,hj,hb=>by
  obtain⟨x,hm,hg⟩:=EO (l:=ks) (i:=(j:Int)) zaa
  have ho:=hx x hm
  have e:=AAI b x ho
  have el:=iT x ho
  have ih:=Yr ks hl hx k (j+1) (b++Zf x) zaa zaP
  rw[DU] at hg
  rw[show((j+1:Nat):Int)=(j:Int)+1 from by omega,List.append_assoc,<-List.flatMap_cons,<-HY hg,<-e] at ih
  rw[<-DU] at hg
  obtain⟨q1,-⟩:=ho
  rw[AL];conv=>lhs;whnf
  refine to ?_
  rw[hg]
  refine tq ?_
  rw[G9 _ _ AA]
  refine tq ?_
  exact ih
theorem uj(hl:ks.length<=8)(hx:∀ x∈ks,LZ x)(b:List UInt8)(hb:b.length<=50000):
  Y E0 (.loop 62 3 0 2 [(3,.pa 0 0),(137,.sl E8 ks),(138,.i (Ak ks)),(139,.i 0)] [(0,some (.var [.nm 1])),(1,some (.row 5 .u8 b))])
   = some (.fin (.exit 6) 2 [(3,.pa 0 0)] [(0,some (.var [.nm 1])),(1,some (.row 5 .u8 (b++ks.flatMap Zf)))]):=by
 have h:=Yr ks hl hx ks.length 0 b zaa zaa
 rw[AP];rw[List.drop_zero] at h;exact h
theorem IK{α:Type}{f:α->List UInt8}{m:Nat}:∀ {l:List α},(∀ x∈l,(f x).length<=m)->(l.flatMap f).length<=m*l.length
 | [],_=>zat
 | x::l,h=>by
  have:=IK (l:=l) fun y hy=>h y (List.mem_cons_of_mem _ hy)
  have:=h x (List.mem_cons_self ..)
  rw[List.flatMap_cons,List.length_append,List.length_cons,Nat.mul_add];omega
theorem nN(hs:sd.length=3)(hsm:∀ x∈sd,x.length<=1000)(b:List UInt8)(hb:b.length<=1000):
  Y E0 (.loop 62 0 0 3 [(1,.pa 0 0),(3,.pa 1 0),(16,.i 0)] [(0,some (.var (VW sd au en ac re rs ck od sb su mc ix l1 l2 l3 l4 l5 l6 ks))),(1,some (.var [.nm 2])),(2,some (.row 5 .u8 b))])
   = some (.fin (.exit 0) 3 [(1,.pa 0 0),(3,.pa 1 0)] [(0,some (.var (VW sd au en ac re rs ck od sb su mc ix l1 l2 l3 l4 l5 l6 ks))),(1,some (.var [.nm 2])),(2,some (.row 5 .u8 (b++bl (sd.getD 0 [])++bl (sd.getD 1 [])++bl (sd.getD 2 []))))]):=by
 have h0:=Ej hsm 0
 have h1:=Ej hsm 1
 have h2:=Ej hsm 2
 rw[<-GX (Nat.le_trans h0 zaj),<-GX (Nat.le_trans h1 zaj),<-GX (Nat.le_trans h2 zaj)]
 rw[AL];conv=>lhs;whnf
 refine tq ?_
 rw[Yq _ _ AA AA]
 refine tq ?_
 rw[G9 _ _ AA]
 refine tq ?_
 refine tq ?_
 rw[Yq _ _ AA AA]
 refine tq ?_
 rw[G9 _ _ AA]
 refine tq ?_
 refine tq ?_
 rw[Yq _ _ AA AA]
 refine tq ?_
 rw[G9 _ _ AA]
 refine tq ?_
 refine tq ?_
 rfl
theorem nO(ha:au.length=4)(ham:∀ x∈au,x.length<=1000)(b:List UInt8)(hb:b.length<=10000):
  Y E0 (.loop 62 1 0 3 [(1,.pa 0 0),(3,.pa 1 0),(26,.i 0)] [(0,some (.var (VW sd au en ac re rs ck od sb su mc ix l1 l2 l3 l4 l5 l6 ks))),(1,some (.var [.nm 2])),(2,some (.row 5 .u8 b))])
   = some (.fin (.exit 2) 3 [(1,.pa 0 0),(3,.pa 1 0)] [(0,some (.var (VW sd au en ac re rs ck od sb su mc ix l1 l2 l3 l4 l5 l6 ks))),(1,some (.var [.nm 2])),(2,some (.row 5 .u8 (b++bl (au.getD 0 [])++bl (au.getD 1 [])++bl (au.getD 2 [])++bl (au.getD 3 []))))]):=by
 have h0:=Ej ham 0
 have h1:=Ej ham 1
 have h2:=Ej ham 2
 have h3:=Ej ham 3
 rw[<-GX (Nat.le_trans h0 zaj),<-GX (Nat.le_trans h1 zaj),<-GX (Nat.le_trans h2 zaj),<-GX (Nat.le_trans h3 zaj)]
 rw[AL];conv=>lhs;whnf
 refine tq ?_
 rw[Yq _ _ AA AA]
 refine tq ?_
 rw[G9 _ _ AA]
 refine tq ?_
 refine tq ?_
 rw[Yq _ _ AA AA]
 refine tq ?_
 rw[G9 _ _ AA]
 refine tq ?_
 refine tq ?_
 rw[Yq _ _ AA AA]
 refine tq ?_
 rw[G9 _ _ AA]
 refine tq ?_
 refine tq ?_
 rw[Yq _ _ AA AA]
 refine tq ?_
 rw[G9 _ _ AA]
 refine tq ?_
 refine tq ?_
 rfl
theorem WJ(sd au:List (List UInt8))(en:List UInt8)(ac re rs ck:Int)(od:Bool)(sb:List (List (List UInt8)))(su mc:Int)(ix:List (El Bf))(l1 l2 l3 l4 l5 l6:Int)(ks:List (El E8))(hl:ix.length<=6)(hx:∀ x∈ix,Gv x):∀(k j:Nat) (b:List UInt8),j+k=ix.length->b.length+300*k<=50000 ->
  Y E0 (.loop 62 2 0 3 [(1,.pa 0 0),(3,.pa 1 0),(6,.fn 105 [] [.pa 1 0]),(74,.sl Bf ix),(75,.i (ix.length:Int)),(76,.i (j:Int))] [(0,some (.var (VW sd au en ac re rs ck od sb su mc ix l1 l2 l3 l4 l5 l6 ks))),(1,some (.var [.nm 2])),(2,some (.row 5 .u8 b))])
   = some (.fin (.exit 4) 3 [(1,.pa 0 0),(3,.pa 1 0),(6,.fn 105 [] [.pa 1 0])] [(0,some (.var (VW sd au en ac re rs ck od sb su mc ix l1 l2 l3 l4 l5 l6 ks))),(1,some (.var [.nm 2])),(2,some (.row 5 .u8 (b++(ix.drop j).flatMap Ze)))])
 | 0,j,b,hj,hb=>by
  obtain rfl:j=ix.length:=zaa
  rw[List.drop_length,List.flatMap_nil,List.append_nil]
  rw[AL];conv=>lhs;whnf
  refine tq ?_
  with_reducible rfl
 | k+1,j,b,hj,hb=>by
  obtain⟨x,hm,hg⟩:=EO (l:=ix) (i:=(j:Int)) zaa
  have ho:=hx x hm
  have e:=AAH b x ho
  have el:=iR x ho
  have ih:=WJ sd au en ac re rs ck od sb su mc ix l1 l2 l3 l4 l5 l6 ks hl hx k (j+1) (b++Ze x) zaa zaP
  rw[DU] at hg
  rw[show((j+1:Nat):Int)=(j:Int)+1 from by omega,List.append_assoc,<-List.flatMap_cons,<-HY hg,<-e] at ih
  rw[<-DU] at hg
  obtain⟨-,-,q1,q2,q3,-⟩:=ho
  rw[AL];conv=>lhs;whnf
  refine to ?_
  rw[hg]
  refine tq ?_
  rw[Dy _ _ _ AA]
  refine tq ?_
  rw[A49 _]
  refine tq ?_
  rw[G9 _ _ AA]
  refine tq ?_
  rw[G9 _ _ AA]
  refine tq ?_
  rw[G9 _ _ AA]
  refine tq ?_
  exact ih
theorem nP(hl:ix.length<=6)(hx:∀ x∈ix,Gv x)(b:List UInt8)(hb:b.length<=40000):
  Y E0 (.loop 62 2 0 3 [(1,.pa 0 0),(3,.pa 1 0),(6,.fn 105 [] [.pa 1 0]),(74,.sl Bf ix),(75,.i (Ak ix)),(76,.i 0)] [(0,some (.var (VW sd au en ac re rs ck od sb su mc ix l1 l2 l3 l4 l5 l6 ks))),(1,some (.var [.nm 2])),(2,some (.row 5 .u8 b))])
   = some (.fin (.exit 4) 3 [(1,.pa 0 0),(3,.pa 1 0),(6,.fn 105 [] [.pa 1 0])] [(0,some (.var (VW sd au en ac re rs ck od sb su mc ix l1 l2 l3 l4 l5 l6 ks))),(1,some (.var [.nm 2])),(2,some (.row 5 .u8 (b++ix.flatMap Ze)))]):=by
 have h:=WJ sd au en ac re rs ck od sb su mc ix l1 l2 l3 l4 l5 l6 ks hl hx ix.length 0 b zaa zaa
 rw[AP];rw[List.drop_zero] at h;exact h
theorem nR(hR:Y E0 (.call 107 [.agg [.sl (.sl (.sl .u8)) sb,.i su]] [])=some (.ret (.sl .u8 (UO sb su)) []))(hRl:(UO sb su).length<=4000)(hs:sd.length=3)(ha:au.length=4)(hsm:∀ x∈sd,x.length<=1000)(ham:∀ x∈au,x.length<=1000)(he:en.length<=1000)(hi:ix.length<=6)(hix:∀ x∈ix,Gv x)(hk:ks.length<=8)(hkx:∀ x∈ks,LZ x):Y E0 (.call 62 [.agg (VW sd au en ac re rs ck od sb su mc ix l1 l2 l3 l4 l5 l6 ks)] [])=some (.ret (.sl .u8 (encS sd au en ac re rs ck od sb su mc ix l1 l2 l3 l4 l5 l6 ks)) []):=by
 have h0:=Ej hsm 0
 have h1:=Ej hsm 1
 have h2:=Ej hsm 2
 have h3:=Ej ham 0
 have h4:=Ej ham 1
 have h5:=Ej ham 2
 have h6:=Ej ham 3
 have hF:(List.flatMap Ze ix).length<=1800:=Nat.le_trans (IK (m:=300) fun x hx=>iR x (hix x hx)) zaa
 have hK:(List.flatMap Zf ks).length<=2400:=Nat.le_trans (IK (m:=300) fun x hx=>iT x (hkx x hx)) zaa
 refine tq ?_
 rw[nN (hs:=hs) (hsm:=hsm) (b:=[UInt8.ofNat 1,DX ac]) (hb:=zat)]
 refine tq ?_
 rw[nO _ _ _ _ _ _ _ _ _ _ _ _ _ _ _ _ _ _ _ zaa zaa _ zan]
 refine tq ?_
 rw[G9 _ _ zan]
 refine tq ?_
 rw[A4D _ _ _ _ zan]
 refine tq ?_
 rw[A49 _]
 conv=>lhs;whnf
 rw[Dk zan]
 conv=>lhs;whnf
 try dsimp -iota -beta -eta -zeta only
 rw[drw zaw];conv=>lhs;whnf
 try dsimp -iota -beta -eta -zeta only
 rw[AX]
 rw[hR]
 refine tq ?_
 rw[G9 _ _ zan]
 refine tq ?_
 rw[A4C _ _ zan]
 conv=>lhs;whnf
 rw[Dk zan]
 conv=>lhs;whnf
 try dsimp -iota -beta -eta -zeta only
 rw[Du]
 rw[nP _ _ _ _ _ _ _ _ _ _ _ _ _ _ _ _ _ _ _ zaa zaa _ zan]
 refine tq ?_
 rw[A4E _ _ _ _ _ _ _ zan]
 conv=>lhs;whnf
 rw[Dk zan]
 conv=>lhs;whnf
 rw[AL]
 conv=>lhs;whnf
 try dsimp -iota -beta -eta -zeta only
 rw[Du]
 rw[uj ks hk hkx _ zan]
 refine tq ?_
 (delta encS;simp only[Ac,AP,Dq,GX (show en.length<=65535 by omega),GX (show(UO sb su).length<=65535 by omega),show UInt8.ofNat 1=1 from rfl])
theorem UR(hs:sd.length=3)(ha:au.length=4)(hsm:∀ x∈sd,x.length<=1000)(ham:∀ x∈au,x.length<=1000)(he:en.length<=1000)(hi:ix.length<=6)(hix:∀ x∈ix,Gv x)(hk:ks.length<=8)(hkx:∀ x∈ks,LZ x):Y E0 (.call 62 [.agg (VW sd au en ac re rs ck od [] su mc ix l1 l2 l3 l4 l5 l6 ks)] [])=some (.ret (.sl .u8 (encS sd au en ac re rs ck od [] su mc ix l1 l2 l3 l4 l5 l6 ks)) []):=by
 have hR:=A4B su
 rw[<-yT] at hR
 exact nR sd au en ac re rs ck od [] su mc ix l1 l2 l3 l4 l5 l6 ks hR (by rw[yT,List.length_cons,BX];decide) hs ha hsm ham he hi hix hk hkx
theorem bH(hR:(UO sb su).length<=4000)(h:stOK sd au en ac re rs ck su mc ix l1 l2 l3 l4 l5 l6 ks):(encS sd au en ac re rs ck od sb su mc ix l1 l2 l3 l4 l5 l6 ks).length<=30000:=by
 have h0:=Ej h.sm 0
 have h1:=Ej h.sm 1
 have h2:=Ej h.sm 2
 have h3:=Ej h.am 0
 have h4:=Ej h.am 1
 have h5:=Ej h.am 2
 have h6:=Ej h.am 3
 have hF:(List.flatMap Ze ix).length<=1800:=Nat.le_trans (IK (m:=300) fun x hx=>iR x (h.im x hx)) (by have:=h.il;omega)
 have hK:(List.flatMap Zf ks).length<=2400:=Nat.le_trans (IK (m:=300) fun x hx=>iT x (h.km x hx)) (by have:=h.kl;omega)
 have he:=h.en
 delta encS
 simp only[List.length_append,List.length_cons,List.length_nil,Ba,BX]
 omega
end
end Go.Proofs.YtlpkjhhfhannpaaGreatDoor
namespace Go.Proofs.YtlpkjhhfhannpaaGreatDoor
open Go Go.Ax
attribute [local irreducible] CS Cj CP CW CQ BC Cm ED ES Dx EG CJ Bi Ce CX and' Cf CU BL Au BI BP BR Ag Ai AY Ae D5 EJ D6 DX Cb BZ BQ BM BO BJ AZ BK Aj Ak Ap D7 BB CV BU BF CO D8 Cc fits D9 Ci AC AQ Ah
variable (b:List UInt8)(p:Nat)(e n:Int)
theorem QB(n:Int):∀(k:Nat) (i:Int) (acc:List UInt8),i=(k:Int)-1->k<=8->acc.length+k<=5000000000 ->
  Y E0 (.loop 53 0 0 1 [(2,.i n),(7,.nm 0),(8,.i i)] [(0,some (.row 5 .u8 acc))])=some (.fin (.exit 0) 1 [(7,.nm 0)] [(0,some (.row 5 .u8 (acc++Sm k (UInt64.ofInt n))))])
 | 0,i,acc,hi,_,_=>by
  rw[AL];conv=>lhs;whnf
  refine Bl ?_
  simp[Sm]
 | k+1,i,acc,hi,hk,hl=>by
  rw[AL];conv=>lhs;whnf
  rw[Fb zaa]
  conv=>lhs;whnf
  rw[Dk zaF]
  conv=>lhs;whnf
  try dsimp -iota -beta -eta -zeta only
  rw[DV zaa]
  rw[QB n k _ _ zac zac zac]
  refine Bl ?_
  simp only[Ac,U4,Sm,List.append_assoc,List.cons_append,List.nil_append];rw[A6k zaa,JM,Qb zaa,show(8*i).toNat=8*k from by omega]
theorem EN(size n:Int)(hb:b.length<=4294967296):Y E0 (.call 53 [.sl .u8 b,.i size,.i n] [])=some (.ret (.nm 0) [some (.row 5 .u8 (Bg b size n))]):=by
 rw[AL]
 conv=>lhs;whnf
 rw[Dk zaF]
 conv=>lhs;whnf
 rcases Bc size 1 with hc0|hc0
 ·
  refine Bl ?_
  exact zao
 refine Bl ?_
 rcases Bc 8 size with hc1|hc1
 ·
  refine Bl ?_
  exact zao
 refine Bl ?_
 rw[QB n size.toNat _ _ zac zac zac]
 refine Bl ?_
 exact zao
theorem GK(x:List UInt8)(hb:b.length<=4294900000):Y E0 (.call 68 [.sl .u8 b,.sl .u8 x] [])=some (.ret (.nm 0) [some (.row 5 .u8 (Hy b x))]):=by
 have h2:(x.take 65535).length<=65535:=zaX
 have h1:=aK b 2 (Ak (x.take 65535))
 have hx:CV x 0 65535=some (x.take 65535)\/x.length<65535:=by
  rcases Nat.lt_or_ge x.length 65535 with h|h
  ·exact .inr h
  ·exact .inl (by rw[LK zaa];rfl)
 by_cases h:65535<x.length
 ·have hx:CV x 0 65535=some (x.take 65535):=by rw[LK zaa];rfl
  rw[AL]
  conv=>lhs;whnf
  rw[Dl zaF]
  conv=>lhs;whnf
  rw[hx]
  refine Bl ?_
  rw[EN _ _ _ DJ]
  conv=>lhs;whnf
  rw[Dk zaF]
  conv=>lhs;whnf
  rw[Ac,Hy,AP]
 ·rw[List.take_of_length_le zaa] at h1
  rw[AL]
  conv=>lhs;whnf
  rw[Fv zaF]
  conv=>lhs;whnf
  rw[AL]
  conv=>lhs;whnf
  try dsimp -iota -beta -eta -zeta only
  rw[AX]
  rw[EN _ _ _ DJ]
  conv=>lhs;whnf
  rw[Dk zaF]
  conv=>lhs;whnf
  rw[Ac,Hy,List.take_of_length_le zaa,AP]
theorem Yy:Y E0 (.call 44 [.sl .u8 b] [])=some (.ret (.pa 0 0) [some (.var [.sl .u8 b,.i 0,.i 0])]):=by
 exact Bl rfl
theorem LC(p e n:Int)(hb:b.length<=4294967296)(hp:0<=p/\p<=b.length)(he:e=0)(hn:p+n<=b.length):Y E0 (.call 88 [.pa 0 0,.i n] [.var [.sl .u8 b,.i p,.i e]])=some (.ret (.b true) [some (.var [.sl .u8 b,.i p,.i 0])]):=by
 subst he
 rw[AL]
 conv=>lhs;whnf
 rw[Dz zaa]
 conv=>lhs;whnf
 try dsimp -iota -beta -eta -zeta only
 rw[DV zaF]
 rw[drw zaw];conv=>lhs;whnf
 rw[Fv zaF]
 conv=>lhs;whnf
 rw[AL]
 conv=>lhs;whnf
 rw[Dz rfl]
theorem QC(p e n:Int)(hb:b.length<=4294967296)(hp:0<=p/\p<=b.length)(he:e=0)(hn:b.length<p+n):Y E0 (.call 88 [.pa 0 0,.i n] [.var [.sl .u8 b,.i p,.i e]])=some (.ret (.b false) [some (.var [.sl .u8 b,.i p,.i 2])]):=by
 subst he
 rw[AL]
 conv=>lhs;whnf
 rw[Dz zaa]
 conv=>lhs;whnf
 try dsimp -iota -beta -eta -zeta only
 rw[DV zaF]
 rw[drw zaw];conv=>lhs;whnf
 rw[Dl zaF]
 conv=>lhs;whnf
 rw[AL]
 conv=>lhs;whnf
 rw[Aa zaj]
theorem A0q(hb:b.length<=4294967296)(hp:p<=b.length):Y E0 (.call 89 [.pa 0 0] [.var [.sl .u8 b,.i p,.i e]])=some (.ret (.i ((b.length-p:Nat):Int)) [some (.var [.sl .u8 b,.i p,.i e])]):=by
 rw[AL]
 conv=>lhs;whnf
 try dsimp -iota -beta -eta -zeta only
 rw[DV zaF]
 rw[drw zaw];conv=>lhs;whnf
 simp only[AP];congr 4;omega
theorem Yz(hb:b.length<=4294967296)(hp:p<=b.length):Y E0 (.call 47 [.pa 0 0] [.var [.sl .u8 b,.i p,.i e]])=some (.ret (.i (PI b p e)) [some (.var [.sl .u8 b,.i p,.i e])]):=by
 refine Bl ?_
 rcases Ar e 0 with hc0|hc0
 ·
  subst hc0
  refine Bl ?_
  rw[A0q _ _ _ DJ DJ]
  refine Bl ?_
  rcases Bc 0 (↑(b.length-p)) with hc1|hc1
  ·
   refine Bl ?_
   exact zaq
  refine Bl ?_
  exact zaq
 refine Bl ?_
 exact zaq
theorem La(b:List UInt8)(n p e:Int)(hb:b.length<=4294967296)(hp:0<=p)(h:p+n<=b.length)(hn:n<=8):∀(k:Nat) (acc:UInt64) (j:Int),j=n-k->0<=j ->
  Y E0 (.loop 45 0 1 1 [(0,.pa 0 0),(1,.i n),(5,.u64 acc),(6,.i j)] [(0,some (.var [.sl .u8 b,.i p,.i e]))])=some (.fin (.exit 0) 1 [(0,.pa 0 0),(1,.i n),(5,.u64 ((((b.drop p.toNat).take n.toNat).drop j.toNat).foldl (fun n x=>n<<<8|||x.toUInt64) acc))] [(0,some (.var [.sl .u8 b,.i p,.i e]))])
 | 0,acc,j,hj,hk=>by
  rw[AL];conv=>lhs;whnf
  rw[Fv zaa]
  conv=>lhs;whnf
  rw[List.drop_eq_nil_of_le zaD];rfl
 | k+1,acc,j,hj,hk=>by
  have hlt:j.toNat<((b.drop p.toNat).take n.toNat).length:=zaD
  rw[AL];conv=>lhs;whnf
  rw[Dl zaa]
  conv=>lhs;whnf
  rw[Bj zaa]
  rw[Bv zaa]
  conv=>lhs;whnf
  rw[drw zaw];conv=>lhs;whnf
  rw[Bj zaa]
  rw[La b n p e hb hp h hn k _ _ zaa zaa]
  conv=>lhs;whnf
  rw[show((b.drop p.toNat).take n.toNat).drop j.toNat=((b.drop p.toNat).take n.toNat)[j.toNat]::((b.drop p.toNat).take n.toNat).drop (j+1).toNat from by rw[List.drop_eq_getElem_cons hlt,show(j+1).toNat=j.toNat+1 from by omega],List.foldl_cons,lu,lm,aJ zaj];simp only[List.getElem_take,List.getElem_drop,show(p+j).toNat=p.toNat+j.toNat from by omega];rfl
theorem FV(hb:b.length<=4294967296)(hp:p<=b.length):Y E0 (.call 45 [.pa 0 0,.i n] [.var [.sl .u8 b,.i p,.i e]])=some (.ret (.i (Dt b p e n).1) [some (.var [.sl .u8 b,.i (Dt b p e n).2.1,.i (Dt b p e n).2.2])]):=by
 have hv:∀ l:List UInt8,(l.drop (0:Int).toNat).foldl (fun(n:UInt64) (x:UInt8)=>n<<<8|||x.toUInt64) (UInt64.ofNat 0)=beN l:=fun _=>rfl
 by_cases h4:(b.length:Int)<(p:Int)+n
 ·rw[AL];conv=>lhs;whnf
  rcases Bool.eq_false_or_eq_true (ED e 0) with hc0|hc0
  ·rw[hc0];replace hc0:=PY hc0;try simp only[AP] at hc0
   subst hc0
   conv=>lhs;whnf
   rw[Fv zaa]
   conv=>lhs;whnf
   rcases Bool.eq_false_or_eq_true (Dx 8 n) with hc1|hc1
   ·rw[hc1];replace hc1:=Ii hc1;try simp only[AP] at hc1
    conv=>lhs;whnf
    rw[AL];conv=>lhs;whnf
    rw[Ih zaa]
    conv=>lhs;whnf
    exact zad
   ·rw[hc1];replace hc1:=Ij hc1;try simp only[AP] at hc1
    conv=>lhs;whnf
    rw[AL];conv=>lhs;whnf
    rw[FH zaa]
    conv=>lhs;whnf
    rw[AX]
    rw[QC _ _ _ _ zaa zaa zaa zaa]
    conv=>lhs;whnf
    rw[DW];conv=>lhs;whnf
    exact zad
  ·rw[hc0];replace hc0:=YG hc0;try simp only[AP] at hc0
   conv=>lhs;whnf
   rw[AL];conv=>lhs;whnf
   rw[Ih zaa]
   conv=>lhs;whnf
   exact zad
 ·by_cases h5:9223372036854775807<(beN ((b.drop p).take n.toNat)).toNat
  ·have hg:AZ .geq (beN ((b.drop p).take n.toNat)) (UInt64.ofNat 9223372036854775808)=true:=by rw[Hm,Fb zbc]
   rw[AL];conv=>lhs;whnf
   rcases Bool.eq_false_or_eq_true (ED e 0) with hc0|hc0
   ·rw[hc0];replace hc0:=PY hc0;try simp only[AP] at hc0
    subst hc0
    conv=>lhs;whnf
    rcases Bool.eq_false_or_eq_true (Dx n 1) with hc1|hc1
    ·rw[hc1];replace hc1:=Ii hc1;try simp only[AP] at hc1
     conv=>lhs;whnf
     rw[AL];conv=>lhs;whnf
     rw[Ih zaa]
     conv=>lhs;whnf
     exact zad
    ·rw[hc1];replace hc1:=Ij hc1;try simp only[AP] at hc1
     conv=>lhs;whnf
     rcases Bool.eq_false_or_eq_true (Dx 8 n) with hc2|hc2
     ·rw[hc2];replace hc2:=Ii hc2;try simp only[AP] at hc2
      conv=>lhs;whnf
      rw[AL];conv=>lhs;whnf
      rw[Ih zaa]
      conv=>lhs;whnf
      exact zad
     ·rw[hc2];replace hc2:=Ij hc2;try simp only[AP] at hc2
      conv=>lhs;whnf
      rw[AL];conv=>lhs;whnf
      rw[FH zaa]
      conv=>lhs;whnf
      rw[AX]
      rw[LC _ _ _ _ zaa zaa zaa zaa]
      conv=>lhs;whnf
      rw[DW];conv=>lhs;whnf
      rw[Du]
      rw[La b n p 0 hb zaa zaa zaa n.toNat _ 0 zaa zaa,hv,Int.toNat_natCast]
      conv=>lhs;whnf
      rw[hg];conv=>lhs;whnf
      exact zad
   ·rw[hc0];replace hc0:=YG hc0;try simp only[AP] at hc0
    conv=>lhs;whnf
    rw[AL];conv=>lhs;whnf
    rw[Ih zaa]
    conv=>lhs;whnf
    exact zad
  ·have hg:AZ .geq (beN ((b.drop p).take n.toNat)) (UInt64.ofNat 9223372036854775808)=false:=by rw[Hm,RI zbc]
   rw[AL];conv=>lhs;whnf
   rcases Bool.eq_false_or_eq_true (ED e 0) with hc0|hc0
   ·rw[hc0];replace hc0:=PY hc0;try simp only[AP] at hc0
    subst hc0
    conv=>lhs;whnf
    rcases Bool.eq_false_or_eq_true (Dx n 1) with hc1|hc1
    ·rw[hc1];replace hc1:=Ii hc1;try simp only[AP] at hc1
     conv=>lhs;whnf
     rw[AL];conv=>lhs;whnf
     rw[Ih zaa]
     conv=>lhs;whnf
     exact zad
    ·rw[hc1];replace hc1:=Ij hc1;try simp only[AP] at hc1
     conv=>lhs;whnf
     rcases Bool.eq_false_or_eq_true (Dx 8 n) with hc2|hc2
     ·rw[hc2];replace hc2:=Ii hc2;try simp only[AP] at hc2
      conv=>lhs;whnf
      rw[AL];conv=>lhs;whnf
      rw[Ih zaa]
      conv=>lhs;whnf
      exact zad
     ·rw[hc2];replace hc2:=Ij hc2;try simp only[AP] at hc2
      conv=>lhs;whnf
      rw[AL];conv=>lhs;whnf
      rw[FH zaa]
      conv=>lhs;whnf
      rw[AX]
      rw[LC _ _ _ _ zaa zaa zaa zaa]
      conv=>lhs;whnf
      rw[DW];conv=>lhs;whnf
      rw[Du]
      rw[La b n p 0 hb zaa zaa zaa n.toNat _ 0 zaa zaa,hv,Int.toNat_natCast]
      conv=>lhs;whnf
      rw[hg];conv=>lhs;whnf
      rw[Qa zaa]
      rw[Bj zaa]
      rw[show(p:Int)+n=((p+n.toNat:Nat):Int) from by omega];unfold Dt;(repeat(first|rw[if_pos zac]|rw[if_neg zac]))
   ·rw[hc0];replace hc0:=YG hc0;try simp only[AP] at hc0
    conv=>lhs;whnf
    rw[AL];conv=>lhs;whnf
    rw[Ih zaa]
    conv=>lhs;whnf
    exact zad
theorem MX(hb:b.length<=4294967296)(hp:p<=b.length):Y E0 (.call 46 [.pa 0 0,.i n] [.var [.sl .u8 b,.i p,.i e]])=some (.ret (.sl .u8 (Fg b p e n).1) [some (.var [.sl .u8 b,.i (Fg b p e n).2.1,.i (Fg b p e n).2.2])]):=by
 by_cases h2:(b.length:Int)<(p:Int)+2
 ·rw[AL];conv=>lhs;whnf
  rcases Bool.eq_false_or_eq_true (ES e 0) with hc0|hc0
  ·rw[hc0];replace hc0:=YH hc0;try simp only[AP] at hc0
   conv=>lhs;whnf
   exact zae
  ·rw[hc0];replace hc0:=YI hc0;try simp only[AP] at hc0
   subst hc0
   conv=>lhs;whnf
   rw[AX]
   rw[QC _ _ _ _ zaa zaa zaa zaa]
   conv=>lhs;whnf
   rw[DW];conv=>lhs;whnf
   exact zae
 ·have hv:BC .or (CJ (EJ (b[p]'zaa)) (UInt64.ofNat 8).toNat) (EJ (b[((p:Int)+1).toNat]'zaa))=(EH b p:Int):=by
   rw[show(UInt64.ofNat 8).toNat=8 from rfl,LP,LP,xw,iC,U5,EH]
   simp only[List.getD,List.getElem?_eq_getElem (show p<b.length by omega),List.getElem?_eq_getElem (show p+1<b.length by omega),show((p:Int)+1).toNat=p+1 from by omega,Option.getD_some]
  have hx:=(b.getD p 0).toNat_lt
  have hy:=(b.getD (p+1) 0).toNat_lt
  have hl:EH b p<=65535:=by rw[EH];omega
  by_cases h4:(b.length:Int)<(p:Int)+2+EH b p
  ·rw[AL];conv=>lhs;whnf
   rcases Bool.eq_false_or_eq_true (ES e 0) with hc0|hc0
   ·rw[hc0];replace hc0:=YH hc0;try simp only[AP] at hc0
    conv=>lhs;whnf
    exact zae
   ·rw[hc0];replace hc0:=YI hc0;try simp only[AP] at hc0
    subst hc0
    conv=>lhs;whnf
    rw[AX]
    rw[LC _ _ _ _ zaa zaa zaa zaa]
    conv=>lhs;whnf
    rw[DW];conv=>lhs;whnf
    rw[JC zaa]
    conv=>lhs;whnf
    rw[Bj zaa]
    rw[Bv zaa]
    conv=>lhs;whnf
    rw[hv];conv=>lhs;whnf
    rw[drw zaw];conv=>lhs;whnf
    rcases Bool.eq_false_or_eq_true (Dx n ↑(EH b p)) with hc1|hc1
    ·rw[hc1];replace hc1:=Ii hc1;try simp only[AP] at hc1
     conv=>lhs;whnf
     exact zae
    ·rw[hc1];replace hc1:=Ij hc1;try simp only[AP] at hc1
     conv=>lhs;whnf
     rw[Bj zaa]
     rw[AX]
     rw[QC _ _ _ _ zaa zaa zaa zaa]
     conv=>lhs;whnf
     rw[DW];conv=>lhs;whnf
     exact zae
  ·rw[AL];conv=>lhs;whnf
   rcases Bool.eq_false_or_eq_true (ES e 0) with hc0|hc0
   ·rw[hc0];replace hc0:=YH hc0;try simp only[AP] at hc0
    conv=>lhs;whnf
    exact zae
   ·rw[hc0];replace hc0:=YI hc0;try simp only[AP] at hc0
    subst hc0
    conv=>lhs;whnf
    rw[AX]
    rw[LC _ _ _ _ zaa zaa zaa zaa]
    conv=>lhs;whnf
    rw[DW];conv=>lhs;whnf
    rw[JC zaa]
    conv=>lhs;whnf
    rw[Bj zaa]
    rw[Bv zaa]
    conv=>lhs;whnf
    rw[hv];conv=>lhs;whnf
    rw[drw zaw];conv=>lhs;whnf
    rcases Bool.eq_false_or_eq_true (Dx n ↑(EH b p)) with hc1|hc1
    ·rw[hc1];replace hc1:=Ii hc1;try simp only[AP] at hc1
     conv=>lhs;whnf
     exact zae
    ·rw[hc1];replace hc1:=Ij hc1;try simp only[AP] at hc1
     conv=>lhs;whnf
     rw[Bj zaa]
     rw[AX]
     rw[LC _ _ _ _ zaa zaa zaa zaa]
     conv=>lhs;whnf
     rw[DW];conv=>lhs;whnf
     rw[Bj (a:=2) (b:=↑(EH b p)) zaa]
     rw[Bj zaa]
     rw[DV zaa]
     rw[LK zaa]
     conv=>lhs;whnf
     rw[Dk zaF]
     conv=>lhs;whnf
     rw[drw zaw];conv=>lhs;whnf
     unfold Fg;(repeat(first|rw[if_pos zac]|rw[if_neg zac]));simp only[Ac,List.nil_append,show(p:Int)+(2+(EH b p:Int))-(EH b p:Int)=((p+2:Nat):Int) from by omega,show(p:Int)+(2+(EH b p:Int))-((p+2:Nat):Int)=EH b p from by omega,Int.toNat_natCast];rw[show(p:Int)+(2+(EH b p:Int))=((p+2+EH b p:Nat):Int) from by omega]
end Go.Proofs.YtlpkjhhfhannpaaGreatDoor
namespace Go.Proofs.YtlpkjhhfhannpaaGreatDoor
open Go Go.Ax Go.Eng
attribute [local irreducible] CS Cj CP CW CQ BC Cm ED ES Dx EG CJ Bi Ce CX and' Cf CU BL Au BI BP BR Ag Ai AY Ae D5 EJ D6 DX Cb BZ BQ BM BO BJ AZ BK Aj Ak Ap D7 BB CV BU BF CO D8 Cc fits D9 Ci AC AQ Ah
theorem Rf(a b:List UInt8)(h:a.length=b.length)(ha:a.length<=4294967296):∀(n j:Nat) (d:UInt8),j+n=a.length->Y E0 (.loop 304 0 0 0 [(0,.sl .u8 a),(1,.sl .u8 b),(5,.u8 d),(13,.i a.length),(14,.i (j:Int))] [])=some (.fin (.exit 0) 0 [(5,.u8 (orx d (a.drop j) (b.drop j)))] [])
 | 0,j,d,hj=>by
  rw[List.drop_eq_nil_of_le zaa,List.drop_eq_nil_of_le zaa,orx]
  exact tq rfl
  all_goals intros;simp_all
 | n+1,j,d,hj=>by
  have ih:=Rf a b h ha n (j+1) (d|||(a[j]'zaa^^^b[j]'zaa)) zaa
  rw[<-A4V d a b h j zaa] at ih
  refine tq ?_
  refine(congrArg (Y E0) ?_).trans ih;(try simp only[Rq.loop.injEq,Rq.call.injEq,Rq.ops.injEq,List.cons.injEq,Prod.mk.injEq,AV.i.injEq,AV.sl.injEq,AV.st.injEq,AV.b.injEq,AV.u8.injEq,AV.nm.injEq,Option.some.injEq,Rs.row.injEq,Rs.var.injEq,heq_eq_eq,true_and,and_true]);(try(repeat' apply And.intro));all_goals first|(with_reducible rfl)|omega|(rw[Bj zaa];omega)|(rw[DV zaa];omega)|(rw[MQ,A6j])
theorem Z8(a b:List UInt8)(ha:a.length<=4294967296):Y E0 (.call 304 [.sl .u8 a,.sl .u8 b] [])=some (.ret (.b (decide (a=b))) []):=by
 by_cases hab:a.length=b.length
 ·have hl:=Rf a b hab ha a.length 0 (UInt8.ofNat 0) zaa
  rw[List.drop_zero,List.drop_zero,show((0:Nat):Int)=0 from rfl] at hl
  have hz:=nU a b (UInt8.ofNat 0) hab
  refine tq ?_;rw[AP,hl]
  conv=>lhs;whnf
  exact congrArg (fun b=>some (Rsp.ret (AV.b b) [])) (by rw[J5,GY];apply decide_eq_decide.2;rw[Int.ofNat_inj,UInt8.toNat_inj];exact hz.trans zat)
 ·rw[decide_eq_false (fun e=>hab (by rw[e]))];exact tq rfl
theorem QD(b k:List UInt8)(h:k.length=b.length)(hb:b.length<=1024):∀(n j:Nat),j+n=b.length->Y E0 (.loop 166 0 0 1 [(2,.sl .u8 b),(7,.sl .u8 k),(8,.nm 0),(9,.i (j:Int))] [(0,some (.row 5 .u8 ((Ws b k).take j++List.replicate (b.length-j) 0)))])=some (.fin (.exit 0) 0 [(8,.sl .u8 (Ws b k))] [])
 | 0,j,hj=>by
  have hl:=Z7 b k h
  rw[List.take_of_length_le zaa,show b.length-j=0 from by omega,List.replicate_zero,List.append_nil]
  exact tq rfl
 | n+1,j,hj=>by
  have ih:=QD b k h hb n (j+1) zaa
  have hs:=A4W b k h j zaa
  have hl2:=A4X b k h j zaa
  refine tq ?_
  refine(congrArg (Y E0) ?_).trans ih;(try simp only[Rq.loop.injEq,Rq.call.injEq,Rq.ops.injEq,List.cons.injEq,Prod.mk.injEq,AV.i.injEq,AV.sl.injEq,AV.st.injEq,AV.b.injEq,AV.u8.injEq,AV.nm.injEq,Option.some.injEq,Rs.row.injEq,Rs.var.injEq,heq_eq_eq,true_and,and_true]);(try(repeat' apply And.intro));all_goals first|(with_reducible rfl)|omega|(rw[Bj zaa];omega)|(rw[DV zaa];omega)|(rw[EL,MQ];exact hs)
theorem A0t(key nonce b:List UInt8)(hk:key.length<=1000000)(hn:nonce.length<=1000)(hb:b.length<=1024):Y E0 (.call 166 [.sl .u8 key,.sl .u8 nonce,.sl .u8 b] [])=some (.ret (.sl .u8 (A0b key nonce b)) []):=by
 have hd:=aj (key:=key) (label:=Yf) (ctx:=nonce) hb
 have hl:=QD b _ hd hb b.length 0 zaa
 rw[List.take_zero,List.nil_append,Nat.sub_zero,show((0:Nat):Int)=0 from rfl] at hl;refine tq ?_;rw[show strOf {data := #[101,110,99,114,121,112,116]}=Yf from rfl,Il _ _ _ _ zaa zaj zaa,AP];refine tq ?_;rw[AP,Ea,Int.toNat_natCast,hl];refine tq ?_
 rfl
theorem A4Y(key nonce ad c:List UInt8)(hk:key.length<=1000000)(hn:nonce.length<=1000)(ha:ad.length<=1000000)(hc:c.length<=1024):Y E0 (.call 167 [.sl .u8 key,.sl .u8 nonce,.sl .u8 ad,.sl .u8 c] [])=some (.ret (.sl .u8 (A7K key nonce ad c)) []):=by
 have hd:=Et (key:=key) (label:=A3z) (ctx:=nonce) (n:=32) zaa
 refine tq ?_;rw[show strOf {data := #[97,117,116,104,101,110,116,105,99,97,116,101]}=A3z from rfl,Il _ _ _ _ zaa zaj zaa];refine tq ?_;rw[J7 _ _ AA AA];refine tq ?_;rw[iF _ _ AA AA];refine tq ?_
 rfl
theorem A0u(key nonce ad plain:List UInt8)(hk:key.length<=1000000)(ha:ad.length<=1000000):Y E0 (.call 117 [.sl .u8 key,.sl .u8 nonce,.sl .u8 ad,.sl .u8 plain] [])=some (.ret (.nm 0) [some (.row 5 .u8 (Pv key nonce ad plain))]):=by
 refine tq ?_
 rcases Bc 64 (↑nonce.length) with hc0|hc0
 ·refine tq ?_
  unfold Pv;(repeat(first|rw[if_pos zaM]|rw[if_neg zaM]));try simp only[NO]
 refine tq ?_
 rcases Bc 1024 (↑plain.length) with hc1|hc1
 ·refine tq ?_
  unfold Pv;(repeat(first|rw[if_pos zaM]|rw[if_neg zaM]));try simp only[NO]
 refine tq ?_
 have hs:=mi (key:=key) (nonce:=nonce) (b:=plain) zaa;rw[A0t _ _ _ zaa zaa zaa];refine tq ?_;rw[GK _ _ AA];refine tq ?_;rw[GK _ _ AA];refine tq ?_;rw[A4Y _ _ _ _ AA AA AA AA];refine tq ?_
 (rw[Pv,if_neg zaa,mf,Ac])
section
attribute [local irreducible] BG DY encS
theorem O9(sd au:List (List UInt8))(en:List UInt8)(ac re rs ck:Int)(od:Bool)(su mc:Int)(ix:List (El Bf))(l1 l2 l3 l4 l5 l6:Int)(ks:List (El E8))(h:stOK sd au en ac re rs ck su mc ix l1 l2 l3 l4 l5 l6 ks):(encS sd au en ac re rs ck od [] su mc ix l1 l2 l3 l4 l5 l6 ks).length<=30000 :=
 bH sd au en ac re rs ck od [] su mc ix l1 l2 l3 l4 l5 l6 ks (by rw[yT,List.length_cons,BX];decide) h
end
section
attribute [local irreducible] BG DY CY nameB Eh Ef Az
theorem pV{α:Type}{l:List α}{j:Nat}(h:j<l.length):BF (l.take j) [l[j]]=l.take (j+1):=by rw[Ac,List.take_succ_eq_append_getElem h]
abbrev Lh(rb:List (List (List UInt8)))(u:Int):AV:=.agg [.sl (.sl (.sl .u8)) rb,.i u]
theorem A16(b:List (List UInt8))(l:List (List (List UInt8)))(u:Int)(hl:l.length<=100):Y E0 (.call 51 [Lh (b::l) u,.i 0] [])=some (.ret (.b (decide (0<b.length))) []):=by
 refine tq ?_
 (rw[II,AP];simp)
theorem bu(c b:List (List UInt8))(l:List (List (List UInt8)))(u:Int)(hl:l.length<=100):Y E0 (.call 51 [Lh (c::b::l) u,.i 1] [])=some (.ret (.b (decide (0<b.length))) []):=by
 refine tq ?_
 (rw[II,AP];simp)
theorem bz(u k:Int)(hk:0<=k):Y E0 (.call 51 [Lh [] u,.i k] [])=some (.ret (.b false) []):=by
 exact tq rfl
theorem WO{n:Nat}{b:List (List UInt8)}(h:b=[]\/Eg n b)(hn:n<=1000):b.length<=16/\∀ x∈b,x.length<=1000:=by
 rcases h with rfl|⟨h1,h2⟩
 ·simp
 ·exact⟨by omega,fun x hx=>by rw[h2 x hx];exact hn⟩
theorem yc{n:Nat}{b:List (List UInt8)}(h:b=[]\/Eg n b):b.length=0\/b.length=16:=by
 rcases h with rfl|h
 ·exact .inl rfl
 ·exact .inr h.1
end
section
attribute [local irreducible] BG DY CY nameB Eh Ef Az
def vS(l:List (List UInt8)):Prop:=l.length=2/\∀ x∈l,x.length<=32
theorem dg0:vS (BU 2 []):=by
 obtain⟨h1,h2⟩:=A47 (n:=2) (x:=([]:List UInt8)) (p:=fun x:List UInt8=>x.length<=32) zaj zat;exact⟨by omega,h2⟩
theorem dgS{l:List (List UInt8)}{i:Int}{x:List UInt8}(h:vS l)(hx:x.length<=32):vS (BB l i x):=by
 obtain⟨h1,h2⟩:=bC (i:=i) (p:=fun x:List UInt8=>x.length<=32) h.2 hx;exact⟨h1.trans h.1,h2⟩
end
section
attribute [local irreducible] BG DY CY nameB Eh Ef Az
abbrev vU(k s0 s1:Int)(d:List UInt8)(n o:Int)(x y z:List UInt8)(bs:List (List UInt8)):AV:=.agg [.i k,.i s0,.i s1,.sl .u8 d,.i n,.i o,.sl .u8 x,.sl .u8 y,.sl .u8 z,.sl (.sl .u8) bs]
def A17(d x y z:List UInt8)(bs:List (List UInt8)):Prop:=d.length<=2000/\x.length<=2000/\y.length<=2000/\z.length<=2000/\bs.length<=100/\∀ b∈bs,b.length<=2000
theorem vV:EC E0 (.call 55 [] []) fun r=>∃ l:List UInt8,(l.length=32)/\r=some (.ret (.sl .u8 l) []):=by
 refine G5 fun P hP=>tw ?_
 exact hP _ ⟨BU 32 0,AA,rfl⟩
theorem TB(n f:List UInt8):EC E0 (.call 148 [.sl .u8 n,.sl .u8 f] []) fun r=>∃ e:Int,r=some (.ret (.i e) []):=by
 refine G5 fun P hP=>tw ?_
 rcases CE (↑n.length) 32 with hc0|hc0
 ·refine tw ?_;exact hP _ ⟨1,rfl⟩
 refine tw ?_
 rcases Bc 128 (↑f.length) with hc1|hc1
 ·refine tw ?_;exact hP _ ⟨4,rfl⟩
 refine tw ?_;exact hP _ ⟨0,rfl⟩
theorem iw(a b:Int):EC E0 (.call 147 [.agg [.i a,.i b]] []) fun r=>∃ x:Bool,r=some (.ret (.b x) []):=by
 refine G5 fun P hP=>tw ?_
 rcases Gw 0 a with hc0|hc0
 ·refine tw ?_
  rcases Gw a 65535 with hc1|hc1
  ·refine tw ?_
   rcases Gw 0 b with hc2|hc2
   ·refine tw ?_;exact hP _ ⟨EG b 65535,rfl⟩
   refine tw ?_;exact hP _ ⟨false,rfl⟩
  refine tw ?_;exact hP _ ⟨false,rfl⟩
 refine tw ?_;exact hP _ ⟨false,rfl⟩
theorem PD(l:List (List UInt8))(hl:l.length<=100):∀(n:Nat) (j:Int),0<=j->j+n=l.length->EC E0 (.loop 149 0 0 0 [(0,.sl (.sl .u8) l),(3,.i j)] []) fun r=>r=some (.fin .ret 0 [(2,.b false)] [])\/r=some (.fin (.exit 0) 0 [] [])
 | 0,j,h0,hj=>by
  refine G5 fun P hP=>?_
  refine tw ?_;exact hP _ (Or.inr rfl)
 | n+1,j,h0,hj=>by
  have ih:=PD l hl n (j+1) zaa zaa
  refine G5 fun P hP=>?_
  refine tw ?_;obtain⟨x0,m0,g0⟩:=EO (l:=l) (i:=j) zaa;rw[g0];refine tw ?_
  rcases CE (↑x0.length) 32 with hc1|hc1
  ·refine tw ?_;exact hP _ (Or.inl rfl)
  refine tw ?_;exact hP _ ih
theorem Zg(l:List (List UInt8))(hl:l.length<=100):EC E0 (.call 149 [.sl (.sl .u8) l] []) fun r=>∃ x:Bool,r=some (.ret (.b x) []):=by
 refine G5 fun P hP=>tw ?_
 rcases Bc (↑l.length) 2 with hc0|hc0
 ·refine tw ?_;exact hP _ ⟨false,rfl⟩
 refine tw ?_
 rcases Bc 8 (↑l.length) with hc1|hc1
 ·refine tw ?_;exact hP _ ⟨false,rfl⟩
 refine tw ?_
 obtain(yy2|yy2):=PD l AA (Int.toNat (↑l.length-(0))) 0 AA zaa
 ·refine Dv yy2 ?_;exact hP _ ⟨false,rfl⟩
 refine Dv yy2 ?_;exact hP _ ⟨true,rfl⟩
theorem vW(k s0 s1:Int)(d:List UInt8)(n o:Int)(x y z:List UInt8)(bs:List (List UInt8))(h:A17 d x y z bs):EC E0 (.call 95 [vU k s0 s1 d n o x y z bs] []) fun r=>∃ e:Int,r=some (.ret (.i e) []):=by
 have hb:=h.2.2.2.2.1
 refine G5 fun P hP=>tw ?_
 rcases Ar k 1 with hc0|hc0
 ·subst hc0;refine tw ?_;obtain⟨x1,yy1⟩:=iw s0 s1;refine Dv yy1 ?_
  rcases bo x1 with rfl|rfl
  ·refine tw ?_
   rcases Ar (↑d.length) 32 with hc3|hc3
   ·refine tw ?_;exact hP _ ⟨0,rfl⟩
   refine tw ?_;exact hP _ ⟨1,rfl⟩
  refine tw ?_;exact hP _ ⟨1,rfl⟩
 refine tw ?_
 rcases Ar k 2 with hc4|hc4
 ·subst hc4;refine tw ?_
  rcases Gw 1 n with hc5|hc5
  ·refine tw ?_
   rcases Gw n 31 with hc6|hc6
   ·refine tw ?_;exact hP _ ⟨0,rfl⟩
   refine tw ?_;exact hP _ ⟨1,rfl⟩
  refine tw ?_;exact hP _ ⟨1,rfl⟩
 refine tw ?_
 rcases Ar k 3 with hc7|hc7
 ·subst hc7;refine tw ?_
  rcases Gw 1 n with hc8|hc8
  ·refine tw ?_
   rcases Gw n 255 with hc9|hc9
   ·refine tw ?_;exact hP _ ⟨0,rfl⟩
   refine tw ?_;exact hP _ ⟨1,rfl⟩
  refine tw ?_;exact hP _ ⟨1,rfl⟩
 refine tw ?_
 rcases Ar k 4 with hc10|hc10
 ·subst hc10;refine tw ?_
  rcases Bc o 0 with hc11|hc11
  ·refine tw ?_;exact hP _ ⟨1,rfl⟩
  refine tw ?_
  rcases Bc 3 o with hc12|hc12
  ·refine tw ?_;exact hP _ ⟨1,rfl⟩
  refine tw ?_;obtain⟨e13,yy13⟩:=TB y x;refine Dv yy13 ?_;exact hP _ ⟨e13,rfl⟩
 refine tw ?_
 rcases Ar k 5 with hc14|hc14
 ·subst hc14;refine tw ?_
  rcases Gw 0 o with hc15|hc15
  ·refine tw ?_
   rcases Gw o 3 with hc16|hc16
   ·refine tw ?_
    rcases Gw 0 n with hc17|hc17
    ·refine tw ?_
     rcases Gw n 1099511627776 with hc18|hc18
     ·refine tw ?_;exact hP _ ⟨0,rfl⟩
     refine tw ?_;exact hP _ ⟨1,rfl⟩
    refine tw ?_;exact hP _ ⟨1,rfl⟩
   refine tw ?_;exact hP _ ⟨1,rfl⟩
  refine tw ?_;exact hP _ ⟨1,rfl⟩
 refine tw ?_
 rcases Ar k 6 with hc19|hc19
 ·subst hc19;refine tw ?_;obtain⟨e20,yy20⟩:=TB y z;refine Dv yy20 ?_;exact hP _ ⟨e20,rfl⟩
 refine tw ?_
 rcases Ar k 9 with hc21|hc21
 ·subst hc21;refine tw ?_;obtain⟨e22,yy22⟩:=TB y z;refine Dv yy22 ?_;exact hP _ ⟨e22,rfl⟩
 refine tw ?_
 rcases Ar k 7 with hc23|hc23
 ·subst hc23;refine tw ?_;exact hP _ ⟨0,rfl⟩
 refine tw ?_
 rcases Ar k 8 with hc24|hc24
 ·subst hc24;refine tw ?_;obtain⟨x25,yy25⟩:=Zg bs AA;refine Dv yy25 ?_
  rcases bo x25 with rfl|rfl
  ·refine tw ?_;exact hP _ ⟨0,rfl⟩
  refine tw ?_;exact hP _ ⟨1,rfl⟩
 refine tw ?_;exact hP _ ⟨19,rfl⟩
theorem FB(tag:Int)(ls:List (List UInt8))(hn:ls.length<=120)(hm:∀ x∈ls,x.length<=2000):EC E0 (.call 92 [.i tag,.sl (.sl .u8) ls] []) fun r=>∃ l:List UInt8,(l.length<=300000)/\r=some (.ret (.sl .u8 l) []):=by
 have h:=vT tag ls 2000 hm
 have h2:ls.length*(2000+4)<=120*2004:=Nat.mul_le_mul_right _ hn
 exact⟨_,by omega,J7 tag ls zaa zaa⟩
theorem vX(w:List UInt8)(k s0 s1:Int)(d:List UInt8)(n o:Int)(x y z:List UInt8)(bs:List (List UInt8))(hw:w.length<=2000)(h:A17 d x y z bs):EC E0 (.call 96 [.sl .u8 w,vU k s0 s1 d n o x y z bs] []) fun r=>∃ l:List UInt8,(l.length<=300000)/\r=some (.ret (.sl .u8 l) []):=by
 obtain⟨h1,h2,h3,h4,h5,h6⟩:=h
 refine G5 fun P hP=>tw ?_
 rcases Ar k 1 with hc0|hc0
 ·subst hc0;refine tw ?_;rw[EN _ _ _ AA];refine tw ?_;rw[EN _ _ _ AA];refine tw ?_;obtain⟨l1,h1_1,yy1⟩:=FB 8 (BF [[DX 1]] [w,Bg (Bg [] 2 s0) 2 s1,d]) AA (by(rw[Ac];simp only[List.cons_append,List.nil_append,List.forall_mem_cons,List.not_mem_nil,false_implies,implies_true,and_true,List.length_cons,List.length_nil,AU,A8];first|assumption|omega|(refine⟨by omega,?_⟩;assumption)))
  refine Dv yy1 ?_;exact hP _ ⟨l1,AA,rfl⟩
 refine tw ?_
 rcases Ar k 2 with hc2|hc2
 ·subst hc2;refine tw ?_;obtain⟨l3,h3_1,yy3⟩:=FB 8 (BF [[DX 2]] [w,[DX n]]) AA (by(rw[Ac];simp only[List.cons_append,List.nil_append,List.forall_mem_cons,List.not_mem_nil,false_implies,implies_true,and_true,List.length_cons,List.length_nil,AU,A8];first|assumption|omega|(refine⟨by omega,?_⟩;assumption)))
  refine Dv yy3 ?_;exact hP _ ⟨l3,AA,rfl⟩
 refine tw ?_
 rcases Ar k 3 with hc4|hc4
 ·subst hc4;refine tw ?_;obtain⟨l5,h5_1,yy5⟩:=FB 8 (BF [[DX 3]] [w,[DX n]]) AA (by(rw[Ac];simp only[List.cons_append,List.nil_append,List.forall_mem_cons,List.not_mem_nil,false_implies,implies_true,and_true,List.length_cons,List.length_nil,AU,A8];first|assumption|omega|(refine⟨by omega,?_⟩;assumption)))
  refine Dv yy5 ?_;exact hP _ ⟨l5,AA,rfl⟩
 refine tw ?_
 rcases Ar k 4 with hc6|hc6
 ·subst hc6;refine tw ?_;obtain⟨l7,h7_1,yy7⟩:=FB 8 (BF [[DX 4]] [w,[DX o],x,y]) AA (by(rw[Ac];simp only[List.cons_append,List.nil_append,List.forall_mem_cons,List.not_mem_nil,false_implies,implies_true,and_true,List.length_cons,List.length_nil,AU,A8];first|assumption|omega|(refine⟨by omega,?_⟩;assumption)))
  refine Dv yy7 ?_;exact hP _ ⟨l7,AA,rfl⟩
 refine tw ?_
 rcases Ar k 5 with hc8|hc8
 ·subst hc8;refine tw ?_;rw[EN _ _ _ AA];refine tw ?_;obtain⟨l9,h9_1,yy9⟩:=FB 8 (BF [[DX 5]] [w,[DX o],Bg [] 8 n]) AA (by(rw[Ac];simp only[List.cons_append,List.nil_append,List.forall_mem_cons,List.not_mem_nil,false_implies,implies_true,and_true,List.length_cons,List.length_nil,AU,A8];first|assumption|omega|(refine⟨by omega,?_⟩;assumption)))
  refine Dv yy9 ?_;exact hP _ ⟨l9,AA,rfl⟩
 refine tw ?_
 rcases Ar k 6 with hc10|hc10
 ·subst hc10;refine tw ?_;obtain⟨l11,h11_1,yy11⟩:=FB 8 (BF [[DX 6]] [w,y,z]) AA (by(rw[Ac];simp only[List.cons_append,List.nil_append,List.forall_mem_cons,List.not_mem_nil,false_implies,implies_true,and_true,List.length_cons,List.length_nil,AU,A8];first|assumption|omega|(refine⟨by omega,?_⟩;assumption)))
  refine Dv yy11 ?_;exact hP _ ⟨l11,AA,rfl⟩
 refine tw ?_
 rcases Ar k 7 with hc12|hc12
 ·subst hc12;refine tw ?_;obtain⟨l13,h13_1,yy13⟩:=FB 8 (BF [[DX 7]] [w]) AA (by(rw[Ac];simp only[List.cons_append,List.nil_append,List.forall_mem_cons,List.not_mem_nil,false_implies,implies_true,and_true,List.length_cons,List.length_nil,AU,A8];first|assumption|omega|(refine⟨by omega,?_⟩;assumption)))
  refine Dv yy13 ?_;exact hP _ ⟨l13,AA,rfl⟩
 refine tw ?_
 rcases Ar k 8 with hc14|hc14
 ·subst hc14;refine tw ?_;obtain⟨l15,h15_1,yy15⟩:=FB 8 (BF [[DX 8]] bs) AA (by(rw[Ac];simp only[List.cons_append,List.nil_append,List.forall_mem_cons,List.not_mem_nil,false_implies,implies_true,and_true,List.length_cons,List.length_nil,AU,A8];first|assumption|omega|(refine⟨by omega,?_⟩;assumption)))
  refine Dv yy15 ?_;exact hP _ ⟨l15,AA,rfl⟩
 refine tw ?_
 rcases Ar k 9 with hc16|hc16
 ·subst hc16;refine tw ?_;obtain⟨l17,h17_1,yy17⟩:=FB 8 (BF [[DX 9]] [y,z]) AA (by(rw[Ac];simp only[List.cons_append,List.nil_append,List.forall_mem_cons,List.not_mem_nil,false_implies,implies_true,and_true,List.length_cons,List.length_nil,AU,A8];first|assumption|omega|(refine⟨by omega,?_⟩;assumption)))
  refine Dv yy17 ?_;exact hP _ ⟨l17,AA,rfl⟩
 refine tw ?_;rw[J7 _ _ AA AA];refine tw ?_;exact hP _ ⟨Az 8 [[DX k]],AA,rfl⟩
theorem pY(w:List UInt8)(k s0 s1:Int)(d:List UInt8)(n o:Int)(x y z:List UInt8)(bs:List (List UInt8))(hw:w.length<=2000)(h:A17 d x y z bs):EC E0 (.call 56 [.sl .u8 w,vU k s0 s1 d n o x y z bs] []) fun r=>∃ l:List UInt8,(l.length<=32)/\r=some (.ret (.sl .u8 l) []):=by
 refine G5 fun P hP=>tw ?_
 obtain⟨e0,yy0⟩:=vW k s0 s1 d n o x y z bs AA;refine Dv yy0 ?_
 rcases CE e0 0 with hc1|hc1
 ·refine tw ?_;exact hP _ ⟨[],AA,rfl⟩
 subst hc1;refine tw ?_;obtain⟨l2,h2_1,yy2⟩:=vX w k s0 s1 d n o x y z bs AA AA;refine Dv yy2 ?_;rw[IA _ AA];refine tw ?_;exact hP _ ⟨sha256 l2,AA,rfl⟩
end
end Go.Proofs.YtlpkjhhfhannpaaGreatDoor
