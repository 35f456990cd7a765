/-
  Own texts, laid together for this claim: contracts of functions of the program and its references, used by the statements of this seat.
-/
import Derived.Test.YtanagnimhaemgaaGreatDoorKtac
import Derived.Test.YtanagnimhaemgaaGreatDoorKtad
import Derived.Test.YtanagnimhaemgaaGreatDoorKtaf
import Derived.Test.YtanagnimhaemgaaGreatDoorKtah
import Derived.Test.YtanagnimhaemgaaGreatDoorKtai
import Derived.Test.YtanagnimhaemgaaGreatDoorKtaj
import Derived.Test.YtanagnimhaemgaaGreatDoorKtam
set_option linter.all false
set_option maxHeartbeats 40000000
set_option maxRecDepth 100000
namespace Go.Proofs.YtanagnimhaemgaaGreatDoor
open Go Go.Ax Go.Eng
section
attribute [local irreducible] Bl CS CU CJ Bh Ak CV Du EN E5 EH Be BN CE Bz and' CG CO BC Ag Ar BF BG AY Aa AP AX CW Dv CX DT C9 BJ BD BA BB Au AQ Az Ac Aw Ah CY BL Bi BR BI CB CZ CP fits Cb CQ A8 AA AZ
theorem uw(b:List UInt8)(u v w:UInt8)(hb:5<=b.length/\b.length<=2048)(h0:Ah b 0=some 83)(h1:Ah b 1=some 87)(h2:Ah b 2=some u)(h3:Ah b 3=some v)(h4:Ah b 4=some w)(hl:Ak .or (Be (Dv u) (UInt64.ofNat 8).toNat) (Dv v)=(b.length:Int)):Y E0 (.call 157 [.sl .u8 b] [])=some (.ret (.tup [.i (Dv w),.i 0]) []):=by
 refine tq ?_
 rw[h0]
 conv=>lhs;whnf
 refine tq ?_
 rw[h1]
 conv=>lhs;whnf
 refine tq ?_
 rw[h2]
 refine tq ?_
 refine tq ?_
 rw[h3]
 conv=>lhs;whnf
 refine tq ?_
 rw[h4]
 conv=>lhs;whnf
 rw[AU]
 conv=>lhs;whnf
def A0q(b:List UInt8):Nat->List Int->Nat->Prop
 | p,[],q=>q=p
 | p,x::xs,q=>∃ p',IZ b p 0 2=(x,p',0)/\A0q b p' xs q
theorem A0r{b:List UInt8}:∀ {l:List Int} {p q:Nat},p<=b.length->A0q b p l q->q<=b.length
 | [],p,q,hp,h=>by obtain rfl:q=p:=h;exact hp
 | x::l,p,q,hp,⟨p',h1,h2⟩=>A0r (JQ hp h1) h2
def A0s(b:List UInt8):Nat->List (El AL)->Nat->Prop
 | p,[],q=>q=p
 | p,x::xs,q=>∃ p1,IZ b p 0 2=(x.1,p1,0)/\∃ p2,MH b p1 0 128=(x.2.1,p2,0)/\∃ p3,MH b p2 0 128=(x.2.2,p3,0)/\A0s b p3 xs q
theorem A0t{b:List UInt8}:∀ {l:List (El AL)} {p q:Nat},p<=b.length->A0s b p l q->q<=b.length
 | [],p,q,hp,h=>by obtain rfl:q=p:=h;exact hp
 | x::l,p,q,hp,⟨p1,h1,p2,h2,p3,h3,h4⟩=>A0t (OI (OI (JQ hp h1) h2) h3) h4
def A0u(b:List UInt8):Nat->List Int->Nat->Prop
 | p,[],q=>q=p
 | p,x::xs,q=>x<=1099511627776/\∃ p',IZ b p 0 8=(x,p',0)/\A0u b p' xs q
theorem A0v{b:List UInt8}:∀ {l:List Int} {p q:Nat},p<=b.length->A0u b p l q->q<=b.length
 | [],p,q,hp,h=>by obtain rfl:q=p:=h;exact hp
 | x::l,p,q,hp,⟨_,p',h1,h2⟩=>A0v (JQ hp h1) h2
def lq(b:List UInt8)(m:Int):Nat->List (List UInt8)->Nat->Prop
 | p,[],q=>q=p
 | p,x::xs,q=>∃ p',MH b p 0 m=(x,p',0)/\lq b m p' xs q
theorem A0w{b:List UInt8}{m:Int}:∀ {l:List (List UInt8)} {p q:Nat},p<=b.length->lq b m p l q->q<=b.length
 | [],p,q,hp,h=>by obtain rfl:q=p:=h;exact hp
 | x::l,p,q,hp,⟨p',h1,h2⟩=>A0w (OI hp h1) h2
theorem gY(c:Int)(b:List UInt8)(m:Nat)(hb:b.length<=1000000)(hm:m<=10)(n1 n2 n3:Int):∀(k j:Nat) (l xs:List Int) (p q:Nat),j+k=m->xs.length=k->p<=b.length->l.length+k<=20->A0q b p xs q ->
  Y E0 (.loop 129 0 0 4 [(2,.pa 0 0),(7,.i n1),(8,.i n2),(9,.i n3),(11,.pa 1 0),(12,.pa 2 0),(42,.i (m:Int)),(43,.i (j:Int))] [(0,some (.var [.i 0,.nil,.nil,.nil,.nil])),(1,some (.var [.sl .u8 b,.i (p:Int),.i 0])),(2,some (.var [.i c,.nm 3,.nil,.nil,.nil])),(3,some (.row 3 .i64 l))])
   = some (.fin (.exit 0) 4 [(2,.pa 0 0),(7,.i n1),(8,.i n2),(9,.i n3),(11,.pa 1 0),(12,.pa 2 0)] [(0,some (.var [.i 0,.nil,.nil,.nil,.nil])),(1,some (.var [.sl .u8 b,.i (q:Int),.i 0])),(2,some (.var [.i c,.nm 3,.nil,.nil,.nil])),(3,some (.row 3 .i64 (l++xs)))])
 | 0,j,l,[],p,q,hj,hx,hp,hl,h=>by
  obtain rfl:j=m:=zaa
  obtain rfl:q=p:=h
  rw[List.append_nil]
  rw[AU];conv=>lhs;whnf
  refine tq ?_
  with_reducible rfl
 | k+1,j,l,x::xs,p,q,hj,hx,hp,hl,h=>by
  obtain⟨q1,h1,h2⟩:=h
  have g:=Fa b p 0 2 zaa hp
  rw[h1] at g
  have ih:=gY c b m hb hm n1 n2 n3 k (j+1) (l++[x]) xs q1 q zaa zaS (JQ hp h1) zar h2
  rw[show((j+1:Nat):Int)=(j:Int)+1 from by omega,List.append_assoc,List.singleton_append] at ih
  rw[<-Ap l [x]] at ih
  rw[AU];conv=>lhs;whnf
  refine tq ?_
  rw[g]
  refine tq ?_
  exact ih
theorem gm(c:Int)(hs:List Int)(b:List UInt8)(m:Nat)(hb:b.length<=1000000)(hm:m<=10)(n2 n3:Int):∀(k j:Nat) (l xs:List (El AL)) (p q:Nat),j+k=m->xs.length=k->p<=b.length->l.length+k<=20->A0s b p xs q ->
  Y E0 (.loop 129 1 0 5 [(2,.pa 0 0),(8,.i n2),(9,.i n3),(11,.pa 1 0),(12,.pa 2 0),(53,.i (m:Int)),(54,.i (j:Int))] [(0,some (.var [.i 0,.nil,.nil,.nil,.nil])),(1,some (.var [.sl .u8 b,.i (p:Int),.i 0])),(2,some (.var [.i c,.nm 3,.nm 4,.nil,.nil])),(3,some (.row 3 .i64 hs)),(4,some (.row 68 AL l))])
   = some (.fin (.exit 2) 5 [(2,.pa 0 0),(8,.i n2),(9,.i n3),(11,.pa 1 0),(12,.pa 2 0)] [(0,some (.var [.i 0,.nil,.nil,.nil,.nil])),(1,some (.var [.sl .u8 b,.i (q:Int),.i 0])),(2,some (.var [.i c,.nm 3,.nm 4,.nil,.nil])),(3,some (.row 3 .i64 hs)),(4,some (.row 68 AL (l++xs)))])
 | 0,j,l,[],p,q,hj,hx,hp,hl,h=>by
  obtain rfl:j=m:=zaa
  obtain rfl:q=p:=h
  rw[List.append_nil]
  rw[AU];conv=>lhs;whnf
  refine tq ?_
  with_reducible rfl
 | k+1,j,l,(x1,x2,x3)::xs,p,q,hj,hx,hp,hl,h=>by
  obtain⟨q1,h1,q2,h2,q3,h3,h4⟩:=h
  have k1:=JQ hp h1
  have k2:=OI k1 h2
  have k3:=OI k2 h3
  have g1:=Fa b p 0 2 zaa hp
  have g2:=SE b q1 0 128 zaa k1
  have g3:=SE b q2 0 128 zaa k2
  rw[h1] at g1;rw[h2] at g2;rw[h3] at g3
  have ih:=gm c hs b m hb hm n2 n3 k (j+1) (l++[(x1,x2,x3)]) xs q3 q zaa zaS k3 zar h4
  rw[show((j+1:Nat):Int)=(j:Int)+1 from by omega,List.append_assoc,List.singleton_append] at ih
  rw[<-Ap l [(x1,x2,x3)]] at ih
  rw[AU];conv=>lhs;whnf
  refine tq ?_
  rw[g1]
  refine tq ?_
  rw[g2]
  refine tq ?_
  rw[g3]
  refine tq ?_
  exact ih
theorem gq(c:Int)(hs:List Int)(az:List (El AL))(b:List UInt8)(m:Nat)(hb:b.length<=1000000)(hm:m<=10)(n3:Int):∀(k j:Nat) (l xs:List Int) (p q:Nat),j+k=m->xs.length=k->p<=b.length->l.length+k<=20->A0u b p xs q ->
  Y E0 (.loop 129 2 0 6 [(2,.pa 0 0),(9,.i n3),(11,.pa 1 0),(12,.pa 2 0),(72,.i (m:Int)),(73,.i (j:Int))] [(0,some (.var [.i 0,.nil,.nil,.nil,.nil])),(1,some (.var [.sl .u8 b,.i (p:Int),.i 0])),(2,some (.var [.i c,.nm 3,.nm 4,.nm 5,.nil])),(3,some (.row 3 .i64 hs)),(4,some (.row 68 AL az)),(5,some (.row 3 .i64 l))])
   = some (.fin (.exit 4) 6 [(2,.pa 0 0),(9,.i n3),(11,.pa 1 0),(12,.pa 2 0)] [(0,some (.var [.i 0,.nil,.nil,.nil,.nil])),(1,some (.var [.sl .u8 b,.i (q:Int),.i 0])),(2,some (.var [.i c,.nm 3,.nm 4,.nm 5,.nil])),(3,some (.row 3 .i64 hs)),(4,some (.row 68 AL az)),(5,some (.row 3 .i64 (l++xs)))])
 | 0,j,l,[],p,q,hj,hx,hp,hl,h=>by
  obtain rfl:j=m:=zaa
  obtain rfl:q=p:=h
  rw[List.append_nil]
  rw[AU];conv=>lhs;whnf
  refine tq ?_
  with_reducible rfl
 | k+1,j,l,x::xs,p,q,hj,hx,hp,hl,h=>by
  obtain⟨hx1,q1,h1,h2⟩:=h
  have g:=Fa b p 0 8 zaa hp
  rw[h1] at g
  have ge:=ML b q1 0
  have ih:=gq c hs az b m hb hm n3 k (j+1) (l++[x]) xs q1 q zaa zaS (JQ hp h1) zar h2
  rw[show((j+1:Nat):Int)=(j:Int)+1 from by omega,List.append_assoc,List.singleton_append] at ih
  rw[<-Ap l [x]] at ih
  rw[AU];conv=>lhs;whnf
  refine tq ?_
  rw[g]
  refine tq ?_
  rw[ge]
  refine tq ?_
  exact ih
theorem gy(c:Int)(hs:List Int)(az:List (El AL))(is:List Int)(b:List UInt8)(m:Nat)(hb:b.length<=1000000)(hm:m<=10):∀(k j:Nat) (l xs:List (List UInt8)) (p q:Nat),j+k=m->xs.length=k->p<=b.length->l.length+k<=20->lq b 1024 p xs q ->
  Y E0 (.loop 129 3 0 7 [(2,.pa 0 0),(11,.pa 1 0),(12,.pa 2 0),(104,.i (m:Int)),(105,.i (j:Int))] [(0,some (.var [.i 0,.nil,.nil,.nil,.nil])),(1,some (.var [.sl .u8 b,.i (p:Int),.i 0])),(2,some (.var [.i c,.nm 3,.nm 4,.nm 5,.nm 6])),(3,some (.row 3 .i64 hs)),(4,some (.row 68 AL az)),(5,some (.row 3 .i64 is)),(6,some (.row 22 (.sl .u8) l))])
   = some (.fin (.exit 6) 7 [(2,.pa 0 0),(11,.pa 1 0),(12,.pa 2 0)] [(0,some (.var [.i 0,.nil,.nil,.nil,.nil])),(1,some (.var [.sl .u8 b,.i (q:Int),.i 0])),(2,some (.var [.i c,.nm 3,.nm 4,.nm 5,.nm 6])),(3,some (.row 3 .i64 hs)),(4,some (.row 68 AL az)),(5,some (.row 3 .i64 is)),(6,some (.row 22 (.sl .u8) (l++xs)))])
 | 0,j,l,[],p,q,hj,hx,hp,hl,h=>by
  obtain rfl:j=m:=zaa
  obtain rfl:q=p:=h
  rw[List.append_nil]
  rw[AU];conv=>lhs;whnf
  refine tq ?_
  with_reducible rfl
 | k+1,j,l,x::xs,p,q,hj,hx,hp,hl,h=>by
  obtain⟨q1,h1,h2⟩:=h
  have g:=SE b p 0 1024 zaa hp
  rw[h1] at g
  have ih:=gy c hs az is b m hb hm k (j+1) (l++[x]) xs q1 q zaa zaS (OI hp h1) zar h2
  rw[show((j+1:Nat):Int)=(j:Int)+1 from by omega,List.append_assoc,List.singleton_append] at ih
  rw[<-Ap l [x]] at ih
  rw[AU];conv=>lhs;whnf
  refine tq ?_
  rw[g]
  refine tq ?_
  exact ih
theorem A3C(b x:List UInt8)(c nb:Int)(hs:List Int)(az:List (El AL))(is:List Int)(bs:List (List UInt8))(p1 p2 p3 p4 p5:Nat)(hst:Y E0 (.call 157 [.sl .u8 b] [])=some (.ret (.tup [.i c,.i 0]) []))(hx:List.take (Aw b-5).toNat (List.drop (Int.toNat 5) b)=x)(hb:5<=b.length/\b.length<=2048)(hsh:Y E0 (.call 158 [.i c] [])=some (.ret (.tup [.i (hs.length:Int),.i (az.length:Int),.i (is.length:Int),.i nb,.b true]) []))(hct:Y E0 (.call 159 [.i (bs.length:Int),.i nb] [])=some (.ret (.b true) []))
  (hl:hs.length<=10) (hal:az.length<=10) (hil:is.length<=10) (hbl:bs.length<=10) (g1:A0q x 0 hs p1) (g2:A0s x p1 az p2) (g3:A0u x p2 is p3) (g4:IZ x p3 0 1=((bs.length:Int),p4,0)) (g5:lq x 1024 p4 bs p5) (g6:aG x p5 0=0):Y E0 (.call 129 [.sl .u8 b] [])=some (.ret (.tup [rq c hs az is bs,.i 0]) []):=by
 have hxl:x.length<=2048:=by rw[<-hx,List.length_take,List.length_drop];omega
 have k1:=A0r (Nat.zero_le _) g1
 have k2:=A0t k1 g2
 have k3:=A0v k2 g3
 have k4:=JQ k3 g4
 have k5:=A0w k4 g5
 have l0:=fun n1 n2 n3=>gY c x hs.length zaa hl n1 n2 n3 hs.length 0 [] hs 0 p1 zaa rfl zaa zar g1
 have l1:=fun n2 n3=>gm c hs x az.length zaa hal n2 n3 az.length 0 [] az p1 p2 zaa rfl k1 zar g2
 have l2:=fun n3=>gq c hs az x is.length zaa hil n3 is.length 0 [] is p2 p3 zaa rfl k2 zar g3
 have l3:=gy c hs az is x bs.length zaa hbl bs.length 0 [] bs p4 p5 zaa rfl k4 zar g5
 simp only[List.nil_append,show((0:Nat):Int)=0 from rfl] at l0 l1 l2 l3
 have gu:=Fa x p3 0 1 zaa k3
 rw[g4] at gu
 have ge:=ML x p4 0
 have gz:=Zd x p5 0 zaa k5
 rw[g6] at gz
 refine tq ?_
 rw[hst]
 refine tq ?_
 rw[hsh]
 refine tq ?_
 rw[U6 _ Am]
 refine tq ?_
 (simp only[hx,Nat.reduceAdd]);rw[l0]
 refine tq ?_
 (simp only[Nat.reduceAdd]);rw[l1]
 refine tq ?_
 (simp only[Nat.reduceAdd]);rw[l2]
 refine tq ?_
 rw[gu]
 refine tq ?_
 rw[ge]
 refine tq ?_
 rw[hct]
 conv=>lhs;whnf
 rw[DJ];conv=>lhs;whnf
 rw[AU]
 conv=>lhs;whnf
 try dsimp -iota -beta -eta -zeta only
 rw[Eo]
 (simp only[Nat.reduceAdd]);rw[l3]
 refine tq ?_
 rw[gz]
 exact tq rfl
end
section
attribute [local irreducible] Bl CS CU CJ Bh Ak CV Du EN E5 EH Be BN CE Bz and' CG CO BC Ag Ar BF BG AY Aa AP AX CW Dv CX DT C9 BJ BD BA BB Au AQ Az Ac Aw Ah CY BL Bi BR BI CB CZ CP fits Cb CQ A8 AA AZ
theorem A6X{b r:List UInt8}{p:Nat}{x:Int}(hp:p<=b.length)(h:b.drop p=n2 x++r)(h0:0<=x/\x<65536):∃ q,IZ b p 0 2=(x,q,0)/\q<=b.length/\b.drop q=r:=by
 obtain⟨h1,h2,h3⟩:=Kr (n:=2) (x:=x) hp zaa h zaa zaa zaa
 exact⟨_,h1,h2,h3⟩
theorem A5J{b x r:List UInt8}{p:Nat}{m:Int}(hp:p<=b.length)(h:b.drop p=bl x++r)(hx:(x.length:Int)<=m)(hm:m<=65535):∃ q,MH b p 0 m=(x,q,0)/\q<=b.length/\b.drop q=r:=by
 obtain⟨h1,h2,h3⟩:=oJ (most:=m) hp h zaa hx
 exact⟨_,h1,h2,h3⟩
theorem iC{b r:List UInt8}:∀ {hs:List Int} {p:Nat},p<=b.length->b.drop p=hs.flatMap n2++r->(∀ x∈hs,0<=x/\x<=65535)->∃ q,A0q b p hs q/\q<=b.length/\b.drop q=r
 | [],p,hp,h,hm=>⟨p,rfl,hp,by simpa using h⟩
 | x::hs,p,hp,h,hm=>by
  rw[List.flatMap_cons,List.append_assoc] at h
  have hx:=hm x zan
  obtain⟨q,g1,g2,g3⟩:=A6X hp h zaa
  obtain⟨q',k1,k2,k3⟩:=iC g2 g3 fun y hy=>hm y (by simp[hy])
  exact⟨q',⟨q,g1,k1⟩,k2,k3⟩
theorem iD{b r:List UInt8}:∀ {az:List (El AL)} {p:Nat},p<=b.length->b.drop p=az.flatMap Ll++r->(∀ x∈az,(0<=x.1/\x.1<=65535)/\x.2.1.length<=128/\x.2.2.length<=128)->∃ q,A0s b p az q/\q<=b.length/\b.drop q=r
 | [],p,hp,h,hm=>⟨p,rfl,hp,by simpa using h⟩
 | x::az,p,hp,h,hm=>by
  rw[List.flatMap_cons,Ll] at h
  simp only[List.append_assoc] at h
  have hx:=hm x zan
  obtain⟨q1,g1,g2,g3⟩:=A6X hp h ⟨hx.1.1,Int.lt_of_le_of_lt (show(x.1:Int)<=65535 from hx.1.2) zac⟩
  obtain⟨q2,g4,g5,g6⟩:=A5J g2 g3 (show(x.2.1.length:Int)<=128 by omega) zaa
  obtain⟨q3,g7,g8,g9⟩:=A5J g5 g6 (show(x.2.2.length:Int)<=128 by omega) zaa
  obtain⟨q',k1,k2,k3⟩:=iD g8 g9 fun y hy=>hm y (by simp[hy])
  exact⟨q',⟨q1,g1,q2,g4,q3,g7,k1⟩,k2,k3⟩
theorem iE{b r:List UInt8}:∀ {is:List Int} {p:Nat},p<=b.length->b.drop p=is.flatMap n8++r->(∀ x∈is,0<=x/\x<=1099511627776)->∃ q,A0u b p is q/\q<=b.length/\b.drop q=r
 | [],p,hp,h,hm=>⟨p,rfl,hp,by simpa using h⟩
 | x::is,p,hp,h,hm=>by
  rw[List.flatMap_cons,List.append_assoc] at h
  have hx:=hm x zan
  obtain⟨q,g1,g2,g3⟩:=V3 hp h zaa
  obtain⟨q',k1,k2,k3⟩:=iE g2 g3 fun y hy=>hm y (by simp[hy])
  exact⟨q',⟨by omega,q,g1,k1⟩,k2,k3⟩
theorem Si{b r:List UInt8}{m:Int}(hm0:m<=65535):∀ {bs:List (List UInt8)} {p:Nat},p<=b.length->b.drop p=bs.flatMap bl++r->(∀ x∈bs,(x.length:Int)<=m)->∃ q,lq b m p bs q/\q<=b.length/\b.drop q=r
 | [],p,hp,h,hm=>⟨p,rfl,hp,by simpa using h⟩
 | x::bs,p,hp,h,hm=>by
  rw[List.flatMap_cons,List.append_assoc] at h
  obtain⟨q,g1,g2,g3⟩:=A5J hp h (hm x zan) hm0
  obtain⟨q',k1,k2,k3⟩:=Si hm0 g2 g3 fun y hy=>hm y (by simp[hy])
  exact⟨q',⟨q,g1,k1⟩,k2,k3⟩
theorem iF(c nb:Int)(hs:List Int)(az:List (El AL))(is:List Int)(bs:List (List UInt8))(hc:0<=c/\c<=255)(hsh:Y E0 (.call 158 [.i c] [])=some (.ret (.tup [.i (hs.length:Int),.i (az.length:Int),.i (is.length:Int),.i nb,.b true]) []))(hct:Y E0 (.call 159 [.i (bs.length:Int),.i nb] [])=some (.ret (.b true) []))
  (hl:hs.length<=10) (hal:az.length<=10) (hil:is.length<=10) (hbl:bs.length<=10) (hhm:∀ x∈hs,0<=x/\x<=65535) (ham:∀ x∈az,(0<=x.1/\x.1<=65535)/\x.2.1.length<=128/\x.2.2.length<=128) (him:∀ x∈is,0<=x/\x<=1099511627776) (hbm:∀ x∈bs,x.length<=1024) (hlen:(Gn c hs az is bs).length<=2048):Y E0 (.call 129 [.sl .u8 (Gn c hs az is bs)] [])=some (.ret (.tup [rq c hs az is bs,.i 0]) []):=by
 obtain⟨u,v,huv⟩:=WJ (5+(IY c hs az is bs).length)
 have e:Gn c hs az is bs=83::87::u::v::UInt8.ofInt c::IY c hs az is bs:=by
  rw[Gn,show n2 (5+(IY c hs az is bs).length:Int)=XF (5+(IY c hs az is bs).length) from rfl,huv];rfl
 have hL:(Gn c hs az is bs).length=5+(IY c hs az is bs).length:=by rw[e];simp only[List.length_cons];omega
 have hv:=WL zaa huv
 have hib:Ak .or (Be (Dv u) (UInt64.ofNat 8).toNat) (Dv v)=((Gn c hs az is bs).length:Int):=by
  have:=u.toNat_lt
  have:=v.toNat_lt
  rw[show(UInt64.ofNat 8).toNat=8 from rfl,Oj,Oj,yj,kU,WH];omega
 have g:∀ i:Nat,i<5->Ah (Gn c hs az is bs) (i:Int)=some ([83,87,u,v,UInt8.ofInt c].getD i 0):=by
  intro i hi
  rw[D5,e]
  rcases i with _|_|_|_|_|i
  all_goals first|rfl|omega
 have hst:=uw (Gn c hs az is bs) u v (UInt8.ofInt c) zaa (g 0 zaa) (g 1 zaa) (g 2 zaa) (g 3 zaa) (g 4 zaa) hib
 have hcc:Dv (UInt8.ofInt c)=c:=by
  rw[Oj]
  rw[dX zaa]
  omega
 rw[hcc] at hst
 have hx:List.take (Aw (Gn c hs az is bs)-5).toNat (List.drop (Int.toNat 5) (Gn c hs az is bs))=IY c hs az is bs:=by
  rw[AC,hL,e]
  show List.take _ (IY c hs az is bs)=_
  exact List.take_of_length_le zaa
 generalize hB:IY c hs az is bs=x at hx hL
 have e0:x.drop 0=hs.flatMap n2++(az.flatMap Ll++(is.flatMap n8++(UInt8.ofInt (bs.length:Int)::(bs.flatMap bl++[])))):=by
  rw[List.drop_zero,<-hB,IY];simp only[List.append_assoc,List.cons_append,List.nil_append,List.append_nil]
 obtain⟨p1,g1,q1,d1⟩:=iC (Nat.zero_le _) e0 hhm
 obtain⟨p2,g2,q2,d2⟩:=iD q1 d1 ham
 obtain⟨p3,g3,q3,d3⟩:=iE q2 d2 him
 obtain⟨g4,q4,d4⟩:=Wu q3 d3 zaa
 obtain⟨p5,g5,q5,d5⟩:=Si (m:=1024) zaa q4 d4 (fun x hx=>by have:=hbm x hx;omega)
 exact A3C (Gn c hs az is bs) x c nb hs az is bs p1 p2 p3 (p3+1) p5 hst hx zaa hsh hct hl hal hil hbl g1 g2 g3 g4 g5 (WM q5 d5)
end
end Go.Proofs.YtanagnimhaemgaaGreatDoor
