/-
  Own texts, laid together for this claim: contracts of functions of the program and its references, used by the statements of this seat.
-/
import Derived.Test.YtanagnimhaemgaaGreatDoorKtac
import Derived.Test.YtanagnimhaemgaaGreatDoorKtad
import Derived.Test.YtanagnimhaemgaaGreatDoorKtaf
import Derived.Test.YtanagnimhaemgaaGreatDoorKtah
import Derived.Test.YtanagnimhaemgaaGreatDoorKtaj
import Derived.Test.YtanagnimhaemgaaGreatDoorKtal
import Derived.Test.YtanagnimhaemgaaGreatDoorKtam
import Derived.Test.YtanagnimhaemgaaGreatDoorKtan
import Derived.Test.YtanagnimhaemgaaGreatDoorKtao
import Derived.Test.YtanagnimhaemgaaGreatDoorKtav
set_option linter.all false
set_option maxHeartbeats 40000000
set_option maxRecDepth 100000
namespace Go.Proofs.YtanagnimhaemgaaGreatDoor
open Go Go.Ax Go.Eng
variable (is:List Int)(bs ns:List (List UInt8))
section
attribute [local irreducible] Bl CS CU CJ Bh Ak CV Du EN E5 EH Be BN CE Bz and' CG CO BC Ag Ar BF BG AY Aa AP AX CW Dv CX DT C9 BJ BD BA BB Au AQ Az Ac Aw Ah CY BL Bi BR BI CB CZ CP fits Cb CQ A8 AA AZ
@[reducible] def Jw (e:Int) (is:List Int) (bs ns:List (List UInt8)):AV:=.agg [.i e,.sl .i64 is,.sl (.sl .u8) bs,.sl (.sl .u8) ns]
theorem iG(e:Int)(is:List Int)(bs ns:List (List UInt8))(he:e≠0):Y E0 (.call 130 [Jw e is bs ns] [])=some (.ret (.sl .u8 (Gi e is bs ns)) []):=by
 have h:[DT e]=Gi e is bs ns:=by rw[Gi,if_pos he,EM]
 refine tq ?_
 (rw[h])
theorem YZ(is:List Int)(bs ns:List (List UInt8))(hl:is.length<=10):∀(k j:Nat) (b:List UInt8),j+k=is.length->b.length+8*k<=1000 ->
  Y E0 (.loop 130 0 0 2 [(1,.pa 0 0),(3,.nm 1),(26,.sl .i64 is),(27,.i (is.length:Int)),(28,.i (j:Int))] [(0,some (.var [.i 0,.sl .i64 is,.sl (.sl .u8) bs,.sl (.sl .u8) ns])),(1,some (.row 5 .u8 b))])
   = some (.fin (.exit 0) 2 [(1,.pa 0 0),(3,.nm 1)] [(0,some (.var [.i 0,.sl .i64 is,.sl (.sl .u8) bs,.sl (.sl .u8) ns])),(1,some (.row 5 .u8 (b++(is.drop j).flatMap n8)))])
 | 0,j,b,hj,hb=>by
  obtain rfl:j=is.length:=zaa
  rw[List.drop_length,List.flatMap_nil,List.append_nil]
  rw[AU];conv=>lhs;whnf
  refine tq ?_
  with_reducible rfl
 | k+1,j,b,hj,hb=>by
  obtain⟨x,hm,hg⟩:=Gp (l:=is) (i:=(j:Int)) zaa
  have el:=Bo x
  have ih:=YZ is bs ns hl k (j+1) (b++n8 x) zaa zaA
  rw[D5] at hg
  rw[show((j+1:Nat):Int)=(j:Int)+1 from by omega,List.append_assoc,<-List.flatMap_cons,<-H6 hg,<-Kv] at ih
  rw[<-D5] at hg
  rw[AU];conv=>lhs;whnf
  refine to ?_
  rw[hg]
  refine tq ?_
  rw[DN _ _ _ Am]
  refine tq ?_
  exact ih
theorem UC(q:List (List (List UInt8)))(i:Int)(bs:List (List UInt8))(hl:bs.length<=10)(hx:∀ x∈bs,x.length<=2000):∀(k j:Nat) (b:List UInt8),j+k=bs.length->b.length+2002*k<=100000 ->
  Y E0 (.loop 130 2 0 1 [(3,.nm 0),(40,.sl (.sl (.sl .u8)) q),(41,.i 2),(42,.i i),(52,.sl (.sl .u8) bs),(53,.i (bs.length:Int)),(54,.i (j:Int))] [(0,some (.row 5 .u8 b))])
   = some (.fin (.exit 4) 1 [(3,.nm 0),(40,.sl (.sl (.sl .u8)) q),(41,.i 2),(42,.i i)] [(0,some (.row 5 .u8 (b++(bs.drop j).flatMap bl)))])
 | 0,j,b,hj,hb=>by
  obtain rfl:j=bs.length:=zaa
  rw[List.drop_length,List.flatMap_nil,List.append_nil]
  rw[AU];conv=>lhs;whnf
  refine tq ?_
  with_reducible rfl
 | k+1,j,b,hj,hb=>by
  obtain⟨x,hm,hg⟩:=Gp (l:=bs) (i:=(j:Int)) zaa
  have ho:=hx x hm
  have el:=Cc x
  have ih:=UC q i bs hl hx k (j+1) (b++bl x) zaa zaA
  rw[D5] at hg
  rw[show((j+1:Nat):Int)=(j:Int)+1 from by omega,List.append_assoc,<-List.flatMap_cons,<-H6 hg,<-Fg (show x.length<=65535 by omega)] at ih
  rw[<-D5] at hg
  rw[AU];conv=>lhs;whnf
  refine to ?_
  rw[hg]
  refine tq ?_
  rw[FQ _ _ Am]
  refine tq ?_
  exact ih
theorem uy(b:List UInt8)(hb:bs.length<=10)(hn:ns.length<=10)(hbm:∀ x∈bs,x.length<=1024)(hnm:∀ x∈ns,x.length<=1024)(hbl:b.length<=1000):Y E0 (.loop 130 1 0 1 [(3,.nm 0),(40,.sl (.sl (.sl .u8)) [bs,ns]),(41,.i 2),(42,.i 0)] [(0,some (.row 5 .u8 b))])
   = some (.fin (.exit 2) 0 [(3,.sl .u8 (b++(UInt8.ofInt (bs.length:Int)::(bs.flatMap bl++(UInt8.ofInt (ns.length:Int)::ns.flatMap bl)))))] []):=by
 have hB:(bs.flatMap bl).length<=10260:=Nat.le_trans (Ht (m:=1026) fun x hx=>by have:=hbm x hx;rw[Cc];omega) zaa
 have h1:=fun i=>UC [bs,ns] i bs hb (fun x hx=>by have:=hbm x hx;omega) bs.length 0 (b++[UInt8.ofInt (bs.length:Int)]) zaa zat
 have h2:=fun i=>UC [bs,ns] i ns hn (fun x hx=>by have:=hnm x hx;omega) ns.length 0 (b++[UInt8.ofInt (bs.length:Int)]++bs.flatMap bl++[UInt8.ofInt (ns.length:Int)]) zaa zat
 rw[show((0:Nat):Int)=0 from rfl,List.drop_zero] at h1 h2
 rw[show b++(UInt8.ofInt (bs.length:Int)::(bs.flatMap bl++(UInt8.ofInt (ns.length:Int)::ns.flatMap bl)))=b++[UInt8.ofInt (bs.length:Int)]++bs.flatMap bl++[UInt8.ofInt (ns.length:Int)]++ns.flatMap bl from by simp]
 have e2:[bs,ns][(0+1:Int).toNat]'(Nat.lt_add_one 1)=ns:=rfl
 rw[AU];conv=>lhs;whnf
 refine tq ?_
 simp only[AC,Ap,EM];rw[h1]
 refine tq ?_
 rw[AU]
 conv=>lhs;whnf
 rw[Dn zaa]
 conv=>lhs;whnf
 rw[DZ zas]
 conv=>lhs;whnf
 rw[EF zas]
 conv=>lhs;whnf
 try dsimp -iota -beta -eta -zeta only
 rw[Eo]
 simp only[e2,AC,Ap,EM,Nat.reduceAdd];rw[h2]
 refine tq ?_
 exact tq rfl
theorem A0x(hi:is.length<=10)(hb:bs.length<=10)(hn:ns.length<=10)(hbm:∀ x∈bs,x.length<=1024)(hnm:∀ x∈ns,x.length<=1024):Y E0 (.call 130 [Jw 0 is bs ns] [])=some (.ret (.sl .u8 (Gi 0 is bs ns)) []):=by
 have hI:(is.flatMap n8).length<=80:=Nat.le_trans (Ht (m:=8) fun x _=>by rw[Bo];decide) zaa
 have h0:=YZ is bs ns hi is.length 0 [UInt8.ofInt 0,UInt8.ofInt (is.length:Int)] zaa zat
 have h1:=uy bs ns ([UInt8.ofInt 0,UInt8.ofInt (is.length:Int)]++is.flatMap n8) hb hn hbm hnm zat
 rw[show((0:Nat):Int)=0 from rfl,List.drop_zero] at h0
 have e:Gi 0 is bs ns=[UInt8.ofInt 0,UInt8.ofInt (is.length:Int)]++is.flatMap n8++(UInt8.ofInt (bs.length:Int)::(bs.flatMap bl++(UInt8.ofInt (ns.length:Int)::ns.flatMap bl))):=by
  rw[Gi,if_neg zan];simp
 rw[e]
 have e2:Aw [bs,ns]=2:=zaQ
 refine tq ?_
 simp only[AC,Ap,EM,List.cons_append,List.nil_append,Nat.reduceAdd];rw[h0]
 refine tq ?_
 simp only[e2,Nat.reduceAdd];rw[h1]
 refine tq ?_
 simp only[NO];try with_reducible rfl
def A5K(b:List UInt8):Nat->List Int->Nat->Prop
 | p,[],q=>q=p
 | p,x::xs,q=>∃ p',IZ b p 0 8=(x,p',0)/\A5K b p' xs q
theorem iH{b r:List UInt8}:∀ {is:List Int} {p:Nat},p<=b.length->b.drop p=is.flatMap n8++r->(∀ x∈is,0<=x/\x<9223372036854775808)->∃ q,A5K b p is q/\q<=b.length/\b.drop q=r
 | [],p,hp,h,hm=>⟨p,rfl,hp,by simpa using h⟩
 | x::is,p,hp,h,hm=>by
  rw[List.flatMap_cons,List.append_assoc] at h
  obtain⟨q,g1,g2,g3⟩:=V3 hp h (hm x zan)
  obtain⟨q',k1,k2,k3⟩:=iH g2 g3 fun y hy=>hm y (by simp[hy])
  exact⟨q',⟨q,g1,k1⟩,k2,k3⟩
theorem A0y(e:Int)(is:List Int)(bs ns:List (List UInt8))(he:0<e/\e<=255):Y E0 (.call 40 [.sl .u8 (Gi e is bs ns)] [])=some (.ret (.tup [Jw e [] [] [],.i 0]) []):=by
 generalize hb:Gi e is bs ns=b
 have e0:b.drop 0=UInt8.ofInt e::[]:=by rw[List.drop_zero,<-hb,Gi,if_pos zaa]
 obtain⟨g0,q0,d0⟩:=Wu (Nat.zero_le _) e0 zaa
 have hl:b.length=1:=by have:=congrArg List.length e0;simpa using this
 have h0:=JF b 0 0 1 zaa zaa
 have hz:=SX b 1 0 zaa zaa
 rw[g0] at h0
 rw[show aG b 1 0=0 from WM q0 d0] at hz
 refine tq ?_
 rw[Wv _]
 refine tq ?_
 rw[show Y E0 (.call 61 [.pa 0 0,.i 1] [.var [.sl .u8 b,.i 0,.i 0]])=_ from h0]
 refine tq ?_
 rw[show Y E0 (.call 63 [.pa 0 0] _)=_ from hz]
 exact tq rfl
theorem iI(b:List UInt8)(m:Nat)(hb:b.length<=1000000)(hm:m<=255):∀(k j:Nat) (l xs:List Int) (p q:Nat),j+k=m->xs.length=k->p<=b.length->l.length+k<=300->A5K b p xs q ->
  Y E0 (.loop 40 0 0 4 [(2,.pa 0 0),(4,.pa 1 0),(5,.pa 2 0),(6,.i (m:Int)),(7,.i (j:Int))] [(0,some (.var [.i 0,.nil,.nil,.nil])),(1,some (.var [.sl .u8 b,.i (p:Int),.i 0])),(2,some (.var [.i 0,.nm 3,.nil,.nil])),(3,some (.row 3 .i64 l))])
   = some (.fin (.exit 0) 4 [(2,.pa 0 0),(4,.pa 1 0),(5,.pa 2 0)] [(0,some (.var [.i 0,.nil,.nil,.nil])),(1,some (.var [.sl .u8 b,.i (q:Int),.i 0])),(2,some (.var [.i 0,.nm 3,.nil,.nil])),(3,some (.row 3 .i64 (l++xs)))])
 | 0,j,l,[],p,q,hj,hx,hp,hl,h=>by
  obtain rfl:j=m:=zaa
  obtain rfl:q=p:=h
  rw[List.append_nil]
  rw[AU];conv=>lhs;whnf
  refine tq ?_
  with_reducible rfl
 | k+1,j,l,x::xs,p,q,hj,hx,hp,hl,h=>by
  obtain⟨q1,h1,h2⟩:=h
  have g:=JF b p 0 8 zaa hp
  rw[h1] at g
  have ih:=iI b m hb hm k (j+1) (l++[x]) xs q1 q zaa zaS (JQ hp h1) zar h2
  rw[show((j+1:Nat):Int)=(j:Int)+1 from by omega,List.append_assoc,List.singleton_append] at ih
  rw[<-Ap l [x]] at ih
  rw[AU];conv=>lhs;whnf
  refine tq ?_
  rw[g]
  refine tq ?_
  exact ih
theorem iJ(b:List UInt8)(is:List Int)(m:Nat)(hb:b.length<=1000000)(hm:m<=255):∀(k j:Nat) (l xs:List (List UInt8)) (p q:Nat),j+k=m->xs.length=k->p<=b.length->l.length+k<=300->lq b 1024 p xs q ->
  Y E0 (.loop 40 1 0 5 [(2,.pa 0 0),(4,.pa 1 0),(5,.pa 2 0),(6,.i (m:Int)),(8,.i (j:Int))] [(0,some (.var [.i 0,.nil,.nil,.nil])),(1,some (.var [.sl .u8 b,.i (p:Int),.i 0])),(2,some (.var [.i 0,.nm 3,.nm 4,.nil])),(3,some (.row 3 .i64 is)),(4,some (.row 22 (.sl .u8) l))])
   = some (.fin (.exit 2) 5 [(2,.pa 0 0),(4,.pa 1 0),(5,.pa 2 0)] [(0,some (.var [.i 0,.nil,.nil,.nil])),(1,some (.var [.sl .u8 b,.i (q:Int),.i 0])),(2,some (.var [.i 0,.nm 3,.nm 4,.nil])),(3,some (.row 3 .i64 is)),(4,some (.row 22 (.sl .u8) (l++xs)))])
 | 0,j,l,[],p,q,hj,hx,hp,hl,h=>by
  obtain rfl:j=m:=zaa
  obtain rfl:q=p:=h
  rw[List.append_nil]
  rw[AU];conv=>lhs;whnf
  refine tq ?_
  with_reducible rfl
 | k+1,j,l,x::xs,p,q,hj,hx,hp,hl,h=>by
  obtain⟨q1,h1,h2⟩:=h
  have g:=Wx b p 0 1024 zaa hp
  rw[h1] at g
  have ih:=iJ b is m hb hm k (j+1) (l++[x]) xs q1 q zaa zaS (OI hp h1) zar h2
  rw[show((j+1:Nat):Int)=(j:Int)+1 from by omega,List.append_assoc,List.singleton_append] at ih
  rw[<-Ap l [x]] at ih
  rw[AU];conv=>lhs;whnf
  refine tq ?_
  rw[g]
  refine tq ?_
  exact ih
theorem iK(b:List UInt8)(is:List Int)(bs:List (List UInt8))(m:Nat)(hb:b.length<=1000000)(hm:m<=255):∀(k j:Nat) (l xs:List (List UInt8)) (p q:Nat),j+k=m->xs.length=k->p<=b.length->l.length+k<=300->lq b 1024 p xs q ->
  Y E0 (.loop 40 2 0 6 [(2,.pa 0 0),(4,.pa 1 0),(5,.pa 2 0),(6,.i (m:Int)),(9,.i (j:Int))] [(0,some (.var [.i 0,.nil,.nil,.nil])),(1,some (.var [.sl .u8 b,.i (p:Int),.i 0])),(2,some (.var [.i 0,.nm 3,.nm 4,.nm 5])),(3,some (.row 3 .i64 is)),(4,some (.row 22 (.sl .u8) bs)),(5,some (.row 22 (.sl .u8) l))])
   = some (.fin (.exit 4) 6 [(2,.pa 0 0),(4,.pa 1 0),(5,.pa 2 0)] [(0,some (.var [.i 0,.nil,.nil,.nil])),(1,some (.var [.sl .u8 b,.i (q:Int),.i 0])),(2,some (.var [.i 0,.nm 3,.nm 4,.nm 5])),(3,some (.row 3 .i64 is)),(4,some (.row 22 (.sl .u8) bs)),(5,some (.row 22 (.sl .u8) (l++xs)))])
 | 0,j,l,[],p,q,hj,hx,hp,hl,h=>by
  obtain rfl:j=m:=zaa
  obtain rfl:q=p:=h
  rw[List.append_nil]
  rw[AU];conv=>lhs;whnf
  refine tq ?_
  with_reducible rfl
 | k+1,j,l,x::xs,p,q,hj,hx,hp,hl,h=>by
  obtain⟨q1,h1,h2⟩:=h
  have g:=Wx b p 0 1024 zaa hp
  rw[h1] at g
  have ih:=iK b is bs m hb hm k (j+1) (l++[x]) xs q1 q zaa zaS (OI hp h1) zar h2
  rw[show((j+1:Nat):Int)=(j:Int)+1 from by omega,List.append_assoc,List.singleton_append] at ih
  rw[<-Ap l [x]] at ih
  rw[AU];conv=>lhs;whnf
  refine tq ?_
  rw[g]
  refine tq ?_
  exact ih
theorem A49(hi:is.length<=10)(hb:bs.length<=10)(hn:ns.length<=10)(him:∀ x∈is,0<=x/\x<9223372036854775808)(hbm:∀ x∈bs,x.length<=1024)(hnm:∀ x∈ns,x.length<=1024):Y E0 (.call 40 [.sl .u8 (Gi 0 is bs ns)] [])=some (.ret (.tup [Jw 0 is bs ns,.i 0]) []):=by
 have hI:(is.flatMap n8).length<=80:=Nat.le_trans (Ht (m:=8) fun x _=>by rw[Bo];decide) zaa
 have hB:(bs.flatMap bl).length<=10260:=Nat.le_trans (Ht (m:=1026) fun x hx=>by have:=hbm x hx;rw[Cc];omega) zaa
 have hN:(ns.flatMap bl).length<=10260:=Nat.le_trans (Ht (m:=1026) fun x hx=>by have:=hnm x hx;rw[Cc];omega) zaa
 generalize hb':Gi 0 is bs ns=b
 have e0:b.drop 0=UInt8.ofInt 0::(UInt8.ofInt (is.length:Int)::(is.flatMap n8++(UInt8.ofInt (bs.length:Int)::(bs.flatMap bl++(UInt8.ofInt (ns.length:Int)::(ns.flatMap bl++[])))))):=by
  rw[List.drop_zero,<-hb',Gi,if_neg zan];simp
 have hlen:b.length<=30000:=by
  have:=congrArg List.length e0
  simp only[List.drop_zero,List.length_cons,List.length_append,List.length_nil] at this
  omega
 obtain⟨g0,q0,d0⟩:=Wu (Nat.zero_le _) e0 zaa
 obtain⟨g1,q1,d1⟩:=Wu q0 d0 zaa
 obtain⟨p2,g2,q2,d2⟩:=iH q1 d1 him
 obtain⟨g3,q3,d3⟩:=Wu q2 d2 zaa
 obtain⟨p4,g4,q4,d4⟩:=Si (m:=1024) zaa q3 d3 (fun x hx=>by have:=hbm x hx;omega)
 obtain⟨g5,q5,d5⟩:=Wu q4 d4 zaa
 obtain⟨p6,g6,q6,d6⟩:=Si (m:=1024) zaa q5 d5 (fun x hx=>by have:=hnm x hx;omega)
 have h0:=JF b 0 0 1 zaa zaa
 have h1:=JF b (0+1) 0 1 zaa q0
 have h3:=JF b p2 0 1 zaa q2
 have h5:=JF b p4 0 1 zaa q4
 have hz:=SX b p6 0 zaa q6
 rw[g0] at h0;rw[g1] at h1;rw[g3] at h3;rw[g5] at h5;rw[WM q6 d6] at hz
 have l0:=iI b is.length zaa zaa is.length 0 [] is (0+1+1) p2 zaa rfl q1 zar g2
 have l1:=iJ b is bs.length zaa zaa bs.length 0 [] bs (p2+1) p4 zaa rfl q3 zar g4
 have l2:=iK b is bs ns.length zaa zaa ns.length 0 [] ns (p4+1) p6 zaa rfl q5 zar g6
 simp only[List.nil_append,show((0:Nat):Int)=0 from rfl] at l0 l1 l2
 refine tq ?_
 rw[Wv _]
 refine tq ?_
 rw[show Y E0 (.call 61 [.pa 0 0,.i 1] [.var [.sl .u8 b,.i 0,.i 0]])=_ from h0]
 refine tq ?_
 rw[h1]
 refine tq ?_
 simp only[Nat.reduceAdd];rw[l0]
 refine tq ?_
 rw[h3]
 refine tq ?_
 simp only[Nat.reduceAdd];rw[l1]
 refine tq ?_
 rw[h5]
 refine tq ?_
 simp only[Nat.reduceAdd];rw[l2]
 refine tq ?_
 rw[hz]
 exact tq rfl
end
end Go.Proofs.YtanagnimhaemgaaGreatDoor
