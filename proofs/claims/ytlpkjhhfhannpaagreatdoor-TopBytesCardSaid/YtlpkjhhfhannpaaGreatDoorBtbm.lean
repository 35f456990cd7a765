/- Own texts of this claim: contracts of functions. -/
import Derived.Test.YtlpkjhhfhannpaaGreatDoorBtaq
import Derived.Test.YtlpkjhhfhannpaaGreatDoorBtbe
import Derived.Test.YtlpkjhhfhannpaaGreatDoorBtbg
import Derived.Test.YtlpkjhhfhannpaaGreatDoorBtbk
import Derived.Test.YtlpkjhhfhannpaaGreatDoorBtbl
set_option linter.all false
set_option maxHeartbeats 40000000
set_option maxRecDepth 100000
namespace Go.Ax
open Go Go.Eng Go.RowKit
section
variable {b:List UInt8}{h p a i:Nat}{nb:Int}{pH pA pI pN pB:Nat}{e0 eH eA eI eN eM eB n:Int}
def gRs(b:List UInt8):Nat->Nat->Int->Nat×Int
 | 0,p,e=>(p,e)
 | k+1,p,e=>gRs b k (Dt b p e 8).2.1 (if(Dt b p e 8).2.2=0/\1099511627776<(Dt b p e 8).1 then 1 else(Dt b p e 8).2.2)
def gTs(b:List UInt8):Nat->Nat->Int->Nat×Int
 | 0,p,e=>(p,e)
 | k+1,p,e=>if e≠0 then(p,e) else gTs b k (Fg b p e 1024).2.1 (Fg b p e 1024).2.2
theorem A5s{b:List UInt8}{e:Int}(h:e≠0):∀(k p:Nat),gRs b k p e=(p,e)
 | 0,p=>rfl
 | k+1,p=>by rw[gRs,P9 h,if_neg (fun q=>h q.1)];exact A5s h k p
theorem A5t{b:List UInt8}:∀(k:Nat) {p:Nat} {e:Int},p<=b.length->(gRs b k p e).1<=b.length
 | 0,p,e,h=>h
 | k+1,p,e,h=>A5t k (FQ h)
theorem A9F{b:List UInt8}:∀(k:Nat) {p:Nat} {e:Int},(OA b k p e).2.2.2=false->gRs b k p e=((OA b k p e).2.1,(OA b k p e).2.2.1)
 | 0,p,e,h=>rfl
 | k+1,p,e,h=>by
  rw[OA] at h ⊢
  rw[gRs]
  split at h
  ·cases h
  ·rename_i hc;rw[if_neg hc,if_neg hc];exact A9F k h
theorem A9G{b:List UInt8}:∀(k:Nat) {p:Nat} {e:Int},(OA b k p e).2.2.2=true->(gRs b k p e).2=1
 | 0,p,e,h=>za0
 | k+1,p,e,h=>by
  rw[OA] at h
  rw[gRs]
  split at h
  ·rename_i hc;rw[if_pos hc,A5s zaj]
  ·rename_i hc;rw[if_neg hc];exact A9G k h
theorem jV{b:List UInt8}:∀(k:Nat) {p:Nat} {e:Int},gTs b k p e=(Qm b 1024 k p e).2
 | 0,p,e=>rfl
 | k+1,p,e=>by
  rw[gTs]
  split
  ·rename_i h;rw[A4w h]
  ·exact jV k
theorem A5u{b:List UInt8}{d:Nat}(hd:d<=b.length):∀(k:Nat) {p:Nat} {e:Int},p<=(b.drop d).length->P8 b k (p+d) e=((P8 (b.drop d) k p e).1,(P8 (b.drop d) k p e).2.1+d,(P8 (b.drop d) k p e).2.2)
 | 0,p,e,h=>rfl
 | k+1,p,e,h=>by rw[P8,P8,ik hd h];dsimp only;rw[A5u hd k (FQ h)]
theorem ACv{d:Nat}(hd:d<=b.length){e:Int}(h:p<=(b.drop d).length):gA b (p+d) e=((gA (b.drop d) p e).1,(gA (b.drop d) p e).2.1+d,(gA (b.drop d) p e).2.2):=by
 unfold gA
 rw[ik hd h];dsimp only
 rw[vN hd (FQ h)];dsimp only
 rw[vN hd (JB (FQ h))]
theorem A5v{b:List UInt8}{d:Nat}(hd:d<=b.length):∀(k:Nat) {p:Nat} {e:Int},p<=(b.drop d).length->OI b k (p+d) e=((OI (b.drop d) k p e).1,(OI (b.drop d) k p e).2.1+d,(OI (b.drop d) k p e).2.2)
 | 0,p,e,h=>rfl
 | k+1,p,e,h=>by rw[OI,OI,ACv hd h];dsimp only;rw[A5v hd k (A4x h)]
theorem A5w{b:List UInt8}{d:Nat}(hd:d<=b.length):∀(k:Nat) {p:Nat} {e:Int},p<=(b.drop d).length->OA b k (p+d) e=((OA (b.drop d) k p e).1,(OA (b.drop d) k p e).2.1+d,(OA (b.drop d) k p e).2.2)
 | 0,p,e,h=>rfl
 | k+1,p,e,h=>by
  rw[OA,OA,ik hd h];dsimp only
  split
  ·rfl
  ·rw[A5w hd k (FQ h)]
theorem A5x{b:List UInt8}{d:Nat}{m:Int}(hd:d<=b.length):∀(k:Nat) {p:Nat} {e:Int},p<=(b.drop d).length->Qm b m k (p+d) e=((Qm (b.drop d) m k p e).1,(Qm (b.drop d) m k p e).2.1+d,(Qm (b.drop d) m k p e).2.2)
 | 0,p,e,h=>rfl
 | k+1,p,e,h=>by rw[Qm,Qm,vN hd h];dsimp only;rw[A5x hd k (JB h)]
structure rPt (b:List UInt8) (h a i:Nat) (nb:Int) (p0:Nat) (e0:Int) (pH pA pI pN pB:Nat) (eH eA eI eN eM eB n:Int):Prop where
 H:(P8 b h p0 e0).2=(pH,eH)
 A:(OI b a pH eH).2=(pA,eA)
 I:gRs b i pA eA=(pI,eI)
 N:Dt b pI eI 1=(n,pN,eN)
 M:eM=if eN=0/\JZ nb n=false then 1 else eN
 B:gTs b n.toNat pN eM=(pB,eB)
theorem ACw(hd:5<=b.length)(r:rPt b h a i nb 5 0 pH pA pI pN pB eH eA eI eN eM eB n):PI b pB eB=dE (b.drop 5) h a i nb:=by
 obtain⟨h1,h2,h3,h4,h5,h6⟩:=r
 have a1:=A5u (b:=b) (d:=5) hd h (p:=0) (e:=0) (Nat.zero_le _)
 rw[show P8 (b.drop 5) h 0 0=dH (b.drop 5) h from rfl] at a1
 rw[show(5:Nat)=0+5 from rfl,a1] at h1
 obtain⟨rfl,rfl⟩:=Prod.mk.inj h1
 have a2:=A5v (b:=b) (d:=5) hd a (p:=(dH (b.drop 5) h).2.1) (e:=(dH (b.drop 5) h).2.2) (bZ _ _)
 rw[show OI (b.drop 5) a (dH (b.drop 5) h).2.1 (dH (b.drop 5) h).2.2=dA (b.drop 5) h a from rfl] at a2
 rw[a2] at h2
 obtain⟨rfl,rfl⟩:=Prod.mk.inj h2
 have a3:=A5w (b:=b) (d:=5) hd i (p:=(dA (b.drop 5) h a).2.1) (e:=(dA (b.drop 5) h a).2.2) (bf _ _ _)
 rw[show OA (b.drop 5) i (dA (b.drop 5) h a).2.1 (dA (b.drop 5) h a).2.2=dI (b.drop 5) h a i from rfl] at a3
 unfold dE
 by_cases hf:(dI (b.drop 5) h a i).2.2.2=true
 ·rw[if_pos hf]
  have:=A9G (b:=b) i (p:=(dA (b.drop 5) h a).2.1+5) (e:=(dA (b.drop 5) h a).2.2) (by rw[a3];exact hf)
  rw[h3] at this
  obtain rfl:eI=1:=this
  rw[P9 zaj] at h4
  obtain⟨rfl,h7⟩:=Prod.mk.inj h4
  obtain⟨rfl,rfl⟩:=Prod.mk.inj h7
  rw[if_neg zat] at h5
  subst h5
  have:gTs b (0:Int).toNat pI 1=(pI,1):=rfl
  rw[this] at h6
  obtain⟨rfl,rfl⟩:=Prod.mk.inj h6
  rfl
 rw[if_neg hf]
 have hf2:(dI (b.drop 5) h a i).2.2.2=false:=by cases hh:(dI (b.drop 5) h a i).2.2.2;rfl;exact absurd hh hf
 rw[A9F i (by rw[a3];exact hf2),a3] at h3
 obtain⟨rfl,rfl⟩:=Prod.mk.inj h3
 have a4:=ik (b:=b) (d:=5) (p:=(dI (b.drop 5) h a i).2.1) (e:=(dI (b.drop 5) h a i).2.2.1) (n:=1) hd (ZB _ _ _ _)
 rw[show Dt (b.drop 5) (dI (b.drop 5) h a i).2.1 (dI (b.drop 5) h a i).2.2.1 1=dN (b.drop 5) h a i from rfl] at a4
 dsimp only at h4
 rw[a4] at h4
 obtain⟨rfl,h7⟩:=Prod.mk.inj h4
 obtain⟨rfl,rfl⟩:=Prod.mk.inj h7
 by_cases hc:(dN (b.drop 5) h a i).2.2=0/\JZ nb (dN (b.drop 5) h a i).1=false
 ·rw[if_pos hc]
  rw[if_pos hc] at h5
  subst h5
  rw[jV,A4w zaj] at h6
  obtain⟨rfl,rfl⟩:=Prod.mk.inj h6
  rfl
 ·rw[if_neg hc]
  rw[if_neg hc] at h5
  subst h5
  rw[jV,A5x hd _ (bg _ _ _ _)] at h6
  rw[show Qm (b.drop 5) 1024 (dN (b.drop 5) h a i).1.toNat (dN (b.drop 5) h a i).2.1 (dN (b.drop 5) h a i).2.2=dB (b.drop 5) h a i from rfl] at h6
  obtain⟨rfl,rfl⟩:=Prod.mk.inj h6
  exact AAN hd
theorem A5y(b:List UInt8)(h a i:Nat)(nb:Int)(p0:Nat)(e0:Int):∃ pH pA pI pN pB eH eA eI eN eM eB n,rPt b h a i nb p0 e0 pH pA pI pN pB eH eA eI eN eM eB n:=⟨_,_,_,_,_,_,_,_,_,_,_,_,rfl,rfl,rfl,rfl,rfl,rfl⟩
theorem A8P{p0:Nat}(he:e0≠0)(r:rPt b h a i nb p0 e0 pH pA pI pN pB eH eA eI eN eM eB n):PI b pB eB=e0:=by
 obtain⟨h1,h2,h3,h4,h5,h6⟩:=r
 rw[A8z he] at h1
 obtain⟨rfl,rfl⟩:=Prod.mk.inj h1
 rw[A90 he] at h2
 obtain⟨rfl,rfl⟩:=Prod.mk.inj h2
 rw[A5s he] at h3
 obtain⟨rfl,rfl⟩:=Prod.mk.inj h3
 rw[P9 he] at h4
 obtain⟨rfl,h7⟩:=Prod.mk.inj h4
 obtain⟨rfl,rfl⟩:=Prod.mk.inj h7
 rw[if_neg (fun q=>he q.1)] at h5
 subst h5
 have h8:∀ q w,gTs b (0:Int).toNat q w=(q,w):=fun _ _=>rfl
 rw[h8] at h6
 obtain⟨rfl,rfl⟩:=Prod.mk.inj h6
 unfold PI
 rw[if_neg (fun q=>he q.1)]
theorem AB2{p0:Nat}(hp:p0<=b.length)(r:rPt b h a i nb p0 e0 pH pA pI pN pB eH eA eI eN eM eB n):pH<=b.length/\pA<=b.length/\pI<=b.length/\pN<=b.length/\pB<=b.length/\0<=n/\n<=255:=by
 obtain⟨h1,h2,h3,h4,h5,h6⟩:=r
 have a1:=vJ h hp (e:=e0)
 rw[h1] at a1
 have a2:=vK a a1 (e:=eH)
 rw[h2] at a2
 have a3:=A5t i a2 (e:=eA)
 rw[h3] at a3
 have a4:=FQ a3 (e:=eI) (size:=1)
 rw[h4] at a4
 have a5:(gTs b n.toNat pN eM).1<=b.length:=by rw[jV];exact vM _ a4
 rw[h6] at a5
 have hn:0<=n/\n<=255:=by
  by_cases he:eN=0
  ·obtain⟨-,-,k1,k2⟩:=bY (n:=1) a3 zaj (show(Dt b pI eI 1).2.2=0 by rw[h4];exact he)
   rw[show Dt b pI eI ((1:Nat):Int)=(n,pN,eN) from h4] at k1 k2
   dsimp only at k1 k2
   omega
  ·have:=A51 (b:=b) (p:=pI) (e:=eI) (n:=1) (by rw[h4];exact he)
   rw[h4] at this
   dsimp only at this
   omega
 exact⟨a1,a2,a3,a4,a5,hn⟩
theorem A5z(h:p+2<=b.length):(b.drop p).take 2=[b.getD p 0,b.getD (p+1) 0]:=by
 rw[List.drop_eq_getElem_cons zaa,List.drop_eq_getElem_cons zaa]
 simp only[List.take_succ_cons,List.take_zero,List.getD_eq_getElem?_getD]
 rw[List.getElem?_eq_getElem zaa,List.getElem?_eq_getElem zaa]
 rfl
theorem rd2(h:p+2<=b.length):Dt b p 0 2=((EH b p:Int),p+2,0):=by
 have hv:(beN [b.getD p 0,b.getD (p+1) 0]).toNat=(b.getD p 0).toNat*256+(b.getD (p+1) 0).toNat:=by rw[XA _ zat];simp[L8]
 have h1:=(b.getD p 0).toNat_lt
 have h2:=(b.getD (p+1) 0).toNat_lt
 unfold Dt EH
 rw[if_neg zaj,if_neg zaj,show Int.toNat 2=2 from rfl,if_neg zaa,A5z h,hv,if_neg zaa]
theorem rd1(h:p+1<=b.length):Dt b p 0 1=(((b.getD p 0).toNat:Int),p+1,0):=by
 have hv:(beN [b.getD p 0]).toNat=(b.getD p 0).toNat:=by rw[XA _ zat];simp[L8]
 have h1:=(b.getD p 0).toNat_lt
 have h2:(b.drop p).take 1=[b.getD p 0]:=by
  rw[List.drop_eq_getElem_cons zaa]
  simp only[List.take_succ_cons,List.take_zero,List.getD_eq_getElem?_getD]
  rw[List.getElem?_eq_getElem zaa]
  rfl
 unfold Dt
 rw[if_neg zaj,if_neg zaj,show Int.toNat 1=1 from rfl,if_neg zaa,h2,hv,if_neg zaa]
structure rHd (y:List UInt8) (e0 t:Int) (p1:Nat) (f1 e1 n:Int) (p2:Nat) (f2 e2 e3 c:Int) (p3:Nat) (f3:Int):Prop where
 d0:e0=if y.length<5 then 2 else 0
 u1:Dt y 0 e0 2=(t,p1,f1)
 d1:e1=if f1=0/\t≠21335 then 5 else f1
 u2:Dt y p1 e1 2=(n,p2,f2)
 d2:e2=if f2=0/\(y.length:Int)<n then 2 else f2
 d3:e3=if e2=0/\n<(y.length:Int) then 3 else e2
 u3:Dt y p2 e3 1=(c,p3,f3)
theorem AB3(y:List UInt8):∃ e0 t p1 f1 e1 n p2 f2 e2 e3 c p3 f3,rHd y e0 t p1 f1 e1 n p2 f2 e2 e3 c p3 f3:=⟨_,_,_,_,_,_,_,_,_,_,_,_,_,rfl,rfl,rfl,rfl,rfl,rfl,rfl⟩
theorem A9H{y:List UInt8}{t f1 e1 f2 e2 e3 c f3:Int}{p1 p2 p3:Nat}(hl:y.length<=2048)(r:rHd y e0 t p1 f1 e1 n p2 f2 e2 e3 c p3 f3):p1<=y.length/\p2<=y.length/\p3<=y.length/\f3=iq y/\(f3=0->p3=5/\c=((y.getD 4 0).toNat:Int)/\5<=y.length)/\(f3≠0->c=0)/\0<=c/\c<=255:=by
 obtain⟨d0,u1,d1,u2,d2,d3,u3⟩:=r
 unfold iq
 rw[if_neg zaa]
 by_cases h5:y.length<5
 ·rw[if_pos h5] at d0 ⊢
  subst d0
  rw[P9 zaj] at u1
  obtain⟨rfl,u⟩:=Prod.mk.inj u1
  obtain⟨rfl,rfl⟩:=Prod.mk.inj u
  rw[if_neg zat] at d1
  subst d1
  rw[P9 zaj] at u2
  obtain⟨rfl,u⟩:=Prod.mk.inj u2
  obtain⟨rfl,rfl⟩:=Prod.mk.inj u
  rw[if_neg zat] at d2
  subst d2
  rw[if_neg zat] at d3
  subst d3
  rw[P9 zaj] at u3
  obtain⟨rfl,u⟩:=Prod.mk.inj u3
  obtain⟨rfl,rfl⟩:=Prod.mk.inj u
  simp
 rw[if_neg h5] at d0 ⊢
 subst d0
 rw[rd2 zaa] at u1
 simp only[Nat.zero_add,Nat.reduceAdd] at u1
 obtain⟨rfl,u⟩:=Prod.mk.inj u1
 obtain⟨rfl,rfl⟩:=Prod.mk.inj u
 have b0:=(y.getD 0 0).toNat_lt
 have b1:=(y.getD 1 0).toNat_lt
 have ht:(EH y 0:Int)≠21335↔(y.getD 0 0≠83\/y.getD 1 0≠87):=by
  have z0:y.getD 0 0=83↔(y.getD 0 0).toNat=83:=by rw[<-UInt8.toNat_inj];rfl
  have z1:y.getD 1 0=87↔(y.getD 1 0).toNat=87:=by rw[<-UInt8.toNat_inj];rfl
  simp only[Ne,z0,z1]
  unfold EH
  simp only[Nat.zero_add]
  omega
 by_cases hb:y.getD 0 0≠83\/y.getD 1 0≠87
 ·rw[if_pos hb]
  rw[if_pos ⟨rfl,ht.2 hb⟩] at d1
  subst d1
  rw[P9 zaj] at u2
  obtain⟨rfl,u⟩:=Prod.mk.inj u2
  obtain⟨rfl,rfl⟩:=Prod.mk.inj u
  rw[if_neg zat] at d2
  subst d2
  rw[if_neg zat] at d3
  subst d3
  rw[P9 zaj] at u3
  obtain⟨rfl,u⟩:=Prod.mk.inj u3
  obtain⟨rfl,rfl⟩:=Prod.mk.inj u
  simp
  omega
 rw[if_neg hb]
 rw[if_neg (fun q=>hb (ht.1 q.2))] at d1
 subst d1
 rw[rd2 zaa] at u2
 simp only[Nat.zero_add,Nat.reduceAdd] at u2
 obtain⟨rfl,u⟩:=Prod.mk.inj u2
 obtain⟨rfl,rfl⟩:=Prod.mk.inj u
 by_cases h1:y.length<EH y 2
 ·rw[if_pos ⟨rfl,by omega⟩] at d2
  subst d2
  rw[if_neg zat] at d3
  subst d3
  rw[P9 zaj] at u3
  obtain⟨rfl,u⟩:=Prod.mk.inj u3
  obtain⟨rfl,rfl⟩:=Prod.mk.inj u
  rw[if_pos h1]
  simp
  omega
 rw[if_neg (fun q=>by have:=q.2;omega)] at d2
 subst d2
 rw[if_neg h1]
 by_cases h2:EH y 2<y.length
 ·rw[if_pos ⟨rfl,by omega⟩] at d3
  subst d3
  rw[P9 zaj] at u3
  obtain⟨rfl,u⟩:=Prod.mk.inj u3
  obtain⟨rfl,rfl⟩:=Prod.mk.inj u
  rw[if_pos h2]
  simp
  omega
 rw[if_neg (fun q=>by have:=q.2;omega)] at d3
 subst d3
 rw[rd1 zaa] at u3
 simp only[Nat.zero_add,Nat.reduceAdd] at u3
 obtain⟨rfl,u⟩:=Prod.mk.inj u3
 obtain⟨rfl,rfl⟩:=Prod.mk.inj u
 rw[if_neg h2]
 have:=(y.getD 4 0).toNat_lt
 refine⟨by omega,by omega,by omega,rfl,fun _=>⟨rfl,rfl,by omega⟩,fun h=>absurd rfl h,by omega,by omega⟩
end
end Go.Ax
namespace Go.Proofs.YtlpkjhhfhannpaaGreatDoor
open Go Go.Ax Go.Eng
variable {α:Type}{l:List α}(b:List (List UInt8))(u c:Int)
theorem nl0(h:l.length=0):l=[]:=List.length_eq_zero_iff.1 h
theorem nl1(h:l.length=1):∃ a,l=[a]:=List.length_eq_one_iff.1 h
theorem nlc{n:Nat}(h:l.length=n+1):∃ a r,l=a::r/\r.length=n:=by
 cases l with
 | nil=>cases h
 | cons a r=>exact⟨a,r,rfl,Nat.succ.inj h⟩
theorem nl2(h:l.length=2):∃ a b,l=[a,b]:=by
 obtain⟨a,r,rfl,h2⟩:=nlc h;obtain⟨b,rfl⟩:=nl1 h2;exact⟨a,b,rfl⟩
theorem nl3(h:l.length=3):∃ a b c,l=[a,b,c]:=by
 obtain⟨a,r,rfl,h2⟩:=nlc h;obtain⟨b,c,rfl⟩:=nl2 h2;exact⟨a,b,c,rfl⟩
theorem nl4(h:l.length=4):∃ a b c d,l=[a,b,c,d]:=by
 obtain⟨a,r,rfl,h2⟩:=nlc h;obtain⟨b,c,d,rfl⟩:=nl3 h2;exact⟨a,b,c,d,rfl⟩
theorem nl6(h:l.length=6):∃ a b c d e f,l=[a,b,c,d,e,f]:=by
 obtain⟨a,r,rfl,h2⟩:=nlc h;obtain⟨b,r,rfl,h3⟩:=nlc h2;obtain⟨c,d,e,f,rfl⟩:=nl4 h3;exact⟨a,b,c,d,e,f,rfl⟩
theorem nbl{n:Int}(h:(l.length:Int)=n\/n<0/\l.length<=8)(hn:0<=n):l.length=n.toNat:=zaa
theorem al9{h:Int}(ha:alB 9 h=true):h≠3:=by simpa [alB] using ha
theorem ACt:wu {Wx b u with l5:=1000}:=by
 have h:=JF 1 zaj
 exact Um _ rfl ⟨h.sl,h.al,h.sm,h.am,h.en,h.ac,h.re,h.rs,h.ck,h.su,h.mc,h.il,h.im,by show VV 0 5 100 0 1000 1000;unfold VV;omega,h.kl,h.km⟩
theorem AEh(nb h s:Int)(nn v:List UInt8)(is:List Int)(bs:List (List UInt8))(hq:rqG c nb [h] [(s,nn,v)] is bs)(hc:c=9\/c=10\/c=11\/c=13\/c=14\/c=15\/c=18\/c=21\/c=22\/c=30\/c=31\/c=32\/c=33)(hp:0<=h/\h<=3->alB c h=true->Vk (.call 140 [tb b u,rq c [h] [(0,nn,[])] is bs] [])):Lr (.call 87 [tb b u,.i 0,rq c [h] [(s,nn,v)] is bs] []):=by
 have hh:=hq.hm h (List.mem_cons_self ..)
 have hz:=hq.am (s,nn,v) (List.mem_cons_self ..)
 obtain⟨hs,_,hv⟩:=hz
 have hc1:c≠1:=zaa
 have hc2:c<23\/29<c:=zaa
 by_cases h4:4<=h
 ·exact A5e b u c nb [h] [(s,nn,v)] is bs hq hc1 (wo b u c [(s,nn,v)] is bs [h] zat (fun x hx=>by simp at hx;omega) ⟨h,List.mem_cons_self ..,h4⟩)
 have h3:0<=h/\h<=3:=zaa
 have ha:=AAX b u c h [(s,nn,v)] is bs hc h3
 by_cases hal:alB c h=true
 ·rw[hal] at ha
  by_cases h0:s=0
  ·subst h0
   by_cases hv0:v=[]
   ·subst hv0
    exact ACM b u c nb [h] is nn [] bs hq hc1 ha (ACJ b u c h nn [] is bs h3 hc2 rfl) (hp h3 hal)
   ·by_cases h33:h=3
    ·exact A5f b u c nb [h] is (0,nn,v) bs hq hc1 ha {Wx b u with l5:=1000} 9 zaj rfl (ACt b u) (AAb b u c h nn v is bs h33 hc2 (Nat.le_trans hv zaj) hv0)
    ·exact A5f b u c nb [h] is (0,nn,v) bs hq hc1 ha (Wx b u) 9 zaj rfl (Rz b u) (AAa b u c h nn v is bs zaa hc2 (Nat.le_trans hv zaj) hv0)
  ·exact A5f b u c nb [h] is (s,nn,v) bs hq hc1 ha (Wx b u) 8 zaj rfl (Rz b u) (ACK b u c h nn v is bs s ⟨by have h1:(0:Int)<=s:=hs.1;omega,hs.2⟩)
 ·rw[Bool.not_eq_true] at hal
  rw[hal] at ha
  exact A5e b u c nb [h] [(s,nn,v)] is bs hq hc1 ha
theorem AEi(nb h g:Int)(az:List (El AB))(is:List Int)(bs:List (List UInt8))(hq:rqG c nb [h,g] az is bs)(hc:c=23\/c=24\/c=25\/c=26\/c=27\/c=28\/c=29):Lr (.call 87 [tb b u,.i 0,rq c [h,g] az is bs] []):=by
 have hh:=hq.hm h zat
 have hg:=hq.hm g zat
 refine A5e b u c nb [h,g] az is bs hq zaa ?_
 by_cases h4:4<=h
 ·exact wo b u c az is bs [h,g] zat hq.hm ⟨h,by simp,h4⟩
 by_cases g4:4<=g
 ·exact wo b u c az is bs [h,g] zat hq.hm ⟨g,by simp,g4⟩
 exact AAY b u c h g az is bs hc zaa zaa
theorem ACu{c h:Int}{p:Prop}(hc:c=10\/c=11\/c=13\/c=14\/c=15)(h:alB c h=true):p:=by
 exfalso;revert h;rcases hc with rfl|rfl|rfl|rfl|rfl<;>simp[alB]
theorem AB1(hb:Eg 32 b)(hu:0<=u/\u<=1000000)(c:Int)(hs:List Int)(az:List (El AB))(is:List Int)(bs:List (List UInt8))(hq:qOK c hs az is bs):Lr (.call 87 [tb b u,.i 0,rq c hs az is bs] []):=by
 obtain⟨nb,hsh,hg,hbl⟩:=hq.ex
 have him:=hg.im
 have hbm:=hg.bm
 have hn:∀ {h2 a2 i2:Nat} {n2:Int},Yl c=some (h2,a2,i2,n2)->hs.length=h2/\az.length=a2/\is.length=i2/\nb=n2:=fun h=>Fj hsh h
 rcases zC hsh with rfl|rfl|rfl|rfl|rfl|rfl|rfl|rfl|rfl|rfl|rfl|rfl|rfl|rfl|rfl|rfl|rfl|rfl|rfl|rfl|rfl|rfl|rfl|rfl|rfl|rfl|rfl|rfl|rfl|rfl|rfl|rfl<;>obtain⟨e1,e2,e3,rfl⟩:=hn rfl
 all_goals first|obtain rfl:=nl0 e1|obtain⟨h,rfl⟩:=nl1 e1|obtain⟨h,g,rfl⟩:=nl2 e1
 all_goals first|obtain rfl:=nl0 e2|obtain⟨⟨s,nn,v⟩,rfl⟩:=nl1 e2
 all_goals first|obtain rfl:=nl0 e3|obtain⟨i1,rfl⟩:=nl1 e3|obtain⟨i1,i2,rfl⟩:=nl2 e3|obtain⟨i1,i2,i3,rfl⟩:=nl3 e3|obtain⟨i1,i2,i3,i4,rfl⟩:=nl4 e3|obtain⟨i1,i2,i3,i4,i5,i6,rfl⟩:=nl6 e3
 all_goals try exact PE b u _ _ _ _ hg (ACW b u i1 i2 i3 i4 i5 i6 bs (him i1 zat) zaa)
 all_goals first|obtain rfl:=nl0 (nbl hbl zaj)|obtain⟨x1,rfl⟩:=nl1 (nbl hbl zaj)|obtain⟨x1,x2,rfl⟩:=nl2 (nbl hbl zaj)|obtain⟨x1,x2,x3,rfl⟩:=nl3 (nbl hbl zaj)
 all_goals first
  | exact PE b u _ _ _ _ hg (AEW b u i1)
  | exact PE b u _ _ _ _ hg (AEf b u hb hu i1)
  | exact PE b u _ _ _ _ hg (AEX b u)
  | exact PE b u _ _ _ _ hg (zT b u _ zaj _ _ (AEZ b u hb hu i1 i2))
  | exact PE b u _ _ _ _ hg (zT b u _ zaj _ _ (AEb b u hb hu i1 x1 x2 ⟨(hbm x1 zat),(hbm x2 zat)⟩))
  | exact PE b u _ _ _ _ hg (zT b u _ zaj _ _ (AEc b u hb hu i1 x1 (hbm x1 zat)))
  | exact PE b u _ _ _ _ hg (zT b u _ zaj _ _ (AEd b u hb hu i1))
  | exact PE b u _ _ _ _ hg (ACO b u i1 (him i1 zat))
  | exact PE b u _ _ _ _ hg (if hn:1<=i1/\i1<=3 then AAc b u i1 hn else ACP b u i1 zaa)
  | exact PE b u _ _ _ _ hg (ACX b u i1 x1 x2 x3 (him i1 zat) (hbm x1 zat))
  | exact PE b u _ _ _ _ hg (ACQ b u i1 (him i1 zat))
  | exact AEi b u _ _ h g _ _ _ hg zaj
  | refine AEh b u _ _ h s nn v _ _ hg zaj (fun h3 hal=>?_)
 all_goals first
  | exact ACu zaj hal
  | exact AEY b u nn h i1 i2 i3 x1 x2 x3 (by have:=al9 hal;omega) (hbm x1 zat) (hbm x3 zat)
  | exact ACS b u nn h i1 i2 x1 h3 (him i1 zat)
  | exact ACp b u nn h i1 i2 i3 i4 x1 x2 (hbm x1 zat) (hbm x2 zat)
  | exact ACq b u nn h i1
  | exact ACU b u nn h x1 h3 (hbm x1 zat)
  | exact ACo b u nn h
  | obtain rfl:h=3:=by simpa [alB] using hal
 ·exact ACT b u nn
 by_cases hl:1<=i1/\i1<=100/\0<=i2/\i2<=1048576/\0<=i3/\i3<=1048576
 ·exact AAj b u nn i1 i2 i3 hl
 ·exact AAi b u nn i1 i2 i3 zaa
end Go.Proofs.YtlpkjhhfhannpaaGreatDoor
namespace Go.Proofs.YtlpkjhhfhannpaaGreatDoor
open Go Go.Ax Go.Eng
attribute [local irreducible] CS Cj CP CW CQ BC Cm ED ES Dx EG CJ Bi Ce CX and' Cf CU BL Au BI BP BR Ag Ai AY Ae D5 EJ D6 DX Cb BZ BQ BM BO BJ AZ BK Aj Ak Ap D7 BB CV BU BF CO D8 Cc fits D9 Ci AC AQ Ah
variable (b:List UInt8)(c h a i nb:Int)
theorem Ji(p e k:Int)(is:Bool):Y E0 (.call 48 [.pa 0 0,.b is,.i k] [.var [.sl .u8 b,.i p,.i e]])=some (.ret (.tup []) [some (.var [.sl .u8 b,.i p,.i (if e=0/\is=true then k else e)])]):=by
 by_cases he:e=0
 ·cases is
  ·rw[if_neg zat]
   refine tq ?_
   with_reducible rfl
  ·rw[if_pos ⟨he,rfl⟩]
   refine tq ?_
   with_reducible rfl
 ·rw[if_neg (by simp[he])]
  refine tq ?_
  with_reducible rfl
theorem rX(m:Nat)(hm:m<=10):∀(k j:Nat) (l:List Int) (p:Nat) (e:Int),b.length<=100000->h=(m:Int)->j+k=m->p<=b.length->l.length+k<=20->∃ l':List Int,
  Y E0 (.loop 11 0 0 5 [(2,.pa 0 0),(4,.pa 1 0),(7,.pa 2 0),(8,.pa 3 0),(10,.i (j:Int))] [(0,some (.var [.i 0,.nil,.nil,.nil,.nil])),(1,some (.var [.sl .u8 b,.i (p:Int),.i e])),(2,some (.var [.i c,.nm 4,.nil,.nil,.nil])),(3,some (.var [.i h,.i a,.i i,.i nb])),(4,some (.row 3 .i64 l))])
   = some (.fin (.exit 0) 5 [(2,.pa 0 0),(4,.pa 1 0),(7,.pa 2 0),(8,.pa 3 0)] [(0,some (.var [.i 0,.nil,.nil,.nil,.nil])),(1,some (.var [.sl .u8 b,.i ((P8 b k p e).2.1:Int),.i (P8 b k p e).2.2])),(2,some (.var [.i c,.nm 4,.nil,.nil,.nil])),(3,some (.var [.i h,.i a,.i i,.i nb])),(4,some (.row 3 .i64 l'))])
 | 0,j,l,p,e,hb,hh,hj,hp,hl=>by
  refine⟨l,?_⟩
  rw[P8]
  subst hh
  obtain rfl:j=m:=zaa
  rw[AL];conv=>lhs;whnf
  refine tq ?_
  with_reducible rfl
 | k+1,j,l,p,e,hb,hh,hj,hp,hl=>by
  have g:=FV b p e 2 zaa hp
  have hq:=FQ (e:=e) (size:=2) hp
  rw[P8]
  generalize Dt b p e 2=u at *
  obtain⟨x,q,f⟩:=u
  dsimp only at *
  obtain⟨l',ih⟩:=rX m hm k (j+1) (BF l [x]) q f hb hh zaa hq (by rw[Ac];simp;omega)
  refine⟨l',?_⟩
  rw[show((j+1:Nat):Int)=(j:Int)+1 from by omega] at ih
  rw[AL];conv=>lhs;whnf
  refine tq ?_
  rw[g]
  refine tq ?_
  exact ih
theorem rY(hs:List Int)(m:Nat)(hm:m<=10):∀(k j:Nat) (l:List (El AB)) (p:Nat) (e:Int),b.length<=100000->a=(m:Int)->j+k=m->p<=b.length->l.length+k<=20->∃ l':List (El AB),
  Y E0 (.loop 11 1 0 6 [(2,.pa 0 0),(4,.pa 1 0),(7,.pa 2 0),(8,.pa 3 0),(11,.i (j:Int))] [(0,some (.var [.i 0,.nil,.nil,.nil,.nil])),(1,some (.var [.sl .u8 b,.i (p:Int),.i e])),(2,some (.var [.i c,.nm 4,.nm 5,.nil,.nil])),(3,some (.var [.i h,.i a,.i i,.i nb])),(4,some (.row 3 .i64 hs)),(5,some (.row 113 AB l))])
   = some (.fin (.exit 2) 6 [(2,.pa 0 0),(4,.pa 1 0),(7,.pa 2 0),(8,.pa 3 0)] [(0,some (.var [.i 0,.nil,.nil,.nil,.nil])),(1,some (.var [.sl .u8 b,.i ((OI b k p e).2.1:Int),.i (OI b k p e).2.2])),(2,some (.var [.i c,.nm 4,.nm 5,.nil,.nil])),(3,some (.var [.i h,.i a,.i i,.i nb])),(4,some (.row 3 .i64 hs)),(5,some (.row 113 AB l'))])
 | 0,j,l,p,e,hb,hh,hj,hp,hl=>by
  refine⟨l,?_⟩
  rw[OI]
  subst hh
  obtain rfl:j=m:=zaa
  rw[AL];conv=>lhs;whnf
  refine tq ?_
  with_reducible rfl
 | k+1,j,l,p,e,hb,hh,hj,hp,hl=>by
  have g1:=FV b p e 2 zaa hp
  have k1:=FQ (e:=e) (size:=2) hp
  have g2:=MX b (Dt b p e 2).2.1 (Dt b p e 2).2.2 128 zaa k1
  have k2:=JB (e:=(Dt b p e 2).2.2) (most:=128) k1
  have g3:=MX b (Fg b (Dt b p e 2).2.1 (Dt b p e 2).2.2 128).2.1 (Fg b (Dt b p e 2).2.1 (Dt b p e 2).2.2 128).2.2 128 zaa k2
  have k3:=JB (e:=(Fg b (Dt b p e 2).2.1 (Dt b p e 2).2.2 128).2.2) (most:=128) k2
  rw[OI,gA]
  dsimp only
  generalize Dt b p e 2=u at *
  obtain⟨x1,q1,f1⟩:=u
  dsimp only at *
  generalize Fg b q1 f1 128=u at *
  obtain⟨x2,q2,f2⟩:=u
  dsimp only at *
  generalize Fg b q2 f2 128=u at *
  obtain⟨x3,q3,f3⟩:=u
  dsimp only at *
  obtain⟨l',ih⟩:=rY hs m hm k (j+1) (BF l [(x1,x2,x3)]) q3 f3 hb hh zaa k3 (by rw[Ac];simp;omega)
  refine⟨l',?_⟩
  rw[show((j+1:Nat):Int)=(j:Int)+1 from by omega] at ih
  rw[AL];conv=>lhs;whnf
  refine tq ?_
  rw[g1]
  refine tq ?_
  rw[g2]
  refine tq ?_
  rw[g3]
  refine tq ?_
  exact ih
theorem rZ(hs:List Int)(az:List (El AB))(m:Nat)(hm:m<=10):∀(k j:Nat) (l:List Int) (p:Nat) (e:Int),b.length<=100000->i=(m:Int)->j+k=m->p<=b.length->l.length+k<=20->∃ l':List Int,
  Y E0 (.loop 11 2 0 7 [(2,.pa 0 0),(4,.pa 1 0),(7,.pa 2 0),(8,.pa 3 0),(13,.i (j:Int))] [(0,some (.var [.i 0,.nil,.nil,.nil,.nil])),(1,some (.var [.sl .u8 b,.i (p:Int),.i e])),(2,some (.var [.i c,.nm 4,.nm 5,.nm 6,.nil])),(3,some (.var [.i h,.i a,.i i,.i nb])),(4,some (.row 3 .i64 hs)),(5,some (.row 113 AB az)),(6,some (.row 3 .i64 l))])
   = some (.fin (.exit 4) 7 [(2,.pa 0 0),(4,.pa 1 0),(7,.pa 2 0),(8,.pa 3 0)] [(0,some (.var [.i 0,.nil,.nil,.nil,.nil])),(1,some (.var [.sl .u8 b,.i ((gRs b k p e).1:Int),.i (gRs b k p e).2])),(2,some (.var [.i c,.nm 4,.nm 5,.nm 6,.nil])),(3,some (.var [.i h,.i a,.i i,.i nb])),(4,some (.row 3 .i64 hs)),(5,some (.row 113 AB az)),(6,some (.row 3 .i64 l'))])
 | 0,j,l,p,e,hb,hh,hj,hp,hl=>by
  refine⟨l,?_⟩
  rw[gRs]
  subst hh
  obtain rfl:j=m:=zaa
  rw[AL];conv=>lhs;whnf
  refine tq ?_
  with_reducible rfl
 | k+1,j,l,p,e,hb,hh,hj,hp,hl=>by
  have g:=FV b p e 8 zaa hp
  have hq:=FQ (e:=e) (size:=8) hp
  rw[gRs]
  generalize Dt b p e 8=u at *
  obtain⟨x,q,f⟩:=u
  dsimp only at *
  obtain⟨l',ih⟩:=rZ hs az m hm k (j+1) (BF l [x]) q (if f=0/\1099511627776<x then 1 else f) hb hh zaa hq (by rw[Ac];simp;omega)
  refine⟨l',?_⟩
  rw[show((j+1:Nat):Int)=(j:Int)+1 from by omega] at ih
  by_cases hx:1099511627776<x
  ·have gr:=Ji b q f 1 true
   rw[show(if f=0/\true=true then(1:Int) else f)=(if f=0/\1099511627776<x then 1 else f) from by simp[hx]] at gr
   generalize (if f=0/\1099511627776<x then(1:Int) else f)=f2 at *
   rw[AL];conv=>lhs;whnf
   refine tq ?_
   rw[g]
   conv=>lhs;whnf
   try dsimp -iota -beta -eta -zeta only
   rw[AX]
   rw[Dl hx,gr]
   refine tq ?_
   exact ih
  ·have gr:=Ji b q f 1 false
   rw[show(if f=0/\false=true then(1:Int) else f)=(if f=0/\1099511627776<x then 1 else f) from by simp[hx]] at gr
   generalize (if f=0/\1099511627776<x then(1:Int) else f)=f2 at *
   rw[AL];conv=>lhs;whnf
   refine tq ?_
   rw[g]
   conv=>lhs;whnf
   try dsimp -iota -beta -eta -zeta only
   rw[AX]
   rw[Fv zaa,gr]
   refine tq ?_
   exact ih
theorem ry(hs:List Int)(az:List (El AB))(is:List Int)(n:Int)(m:Nat)(hm:m<=300):∀(k j:Nat) (l:List (List UInt8)) (p:Nat) (e:Int),b.length<=100000->n=(m:Int)->j+k=m->p<=b.length->l.length+k<=600->∃ l':List (List UInt8),
  Y E0 (.loop 11 3 0 7 [(2,.pa 0 0),(4,.pa 1 0),(6,.i n),(7,.pa 2 0),(15,.i (j:Int))] [(0,some (.var [.i 0,.nil,.nil,.nil,.nil])),(1,some (.var [.sl .u8 b,.i (p:Int),.i e])),(2,some (.var [.i c,.nm 3,.nm 4,.nm 5,.nm 6])),(3,some (.row 3 .i64 hs)),(4,some (.row 113 AB az)),(5,some (.row 3 .i64 is)),(6,some (.row 22 (.sl .u8) l))])
   = some (.fin (.exit 6) 7 [(2,.pa 0 0),(4,.pa 1 0),(7,.pa 2 0)] [(0,some (.var [.i 0,.nil,.nil,.nil,.nil])),(1,some (.var [.sl .u8 b,.i ((gTs b k p e).1:Int),.i (gTs b k p e).2])),(2,some (.var [.i c,.nm 3,.nm 4,.nm 5,.nm 6])),(3,some (.row 3 .i64 hs)),(4,some (.row 113 AB az)),(5,some (.row 3 .i64 is)),(6,some (.row 22 (.sl .u8) l'))])
 | 0,j,l,p,e,hb,hh,hj,hp,hl=>by
  refine⟨l,?_⟩
  rw[gTs]
  subst hh
  obtain rfl:j=m:=zaa
  rw[AL];conv=>lhs;whnf
  refine tq ?_
  with_reducible rfl
 | k+1,j,l,p,e,hb,hh,hj,hp,hl=>by
  rw[gTs]
  by_cases he:e=0
  ·rw[if_neg (by simp[he])]
   have g:=MX b p e 1024 zaa hp
   have hq:=JB (e:=e) (most:=1024) hp
   generalize Fg b p e 1024=u at *
   obtain⟨x,q,f⟩:=u
   dsimp only at *
   obtain⟨l',ih⟩:=ry hs az is n m hm k (j+1) (BF l [x]) q f hb hh zaa hq (by rw[Ac];simp;omega)
   refine⟨l',?_⟩
   rw[show((j+1:Nat):Int)=(j:Int)+1 from by omega] at ih
   subst he
   rw[AL];conv=>lhs;whnf
   refine tq ?_
   rw[g]
   refine tq ?_
   exact ih
  ·rw[if_pos he]
   refine⟨l,?_⟩
   rw[AL];conv=>lhs;whnf
   refine tq ?_
   with_reducible rfl
theorem A8Q(n:Int)(hn:0<=n)(hb : -1<=nb):Y E0 (.call 50 [.i nb,.i n] [])=some (.ret (.b (JZ nb n)) []):=by
 by_cases h1:n=nb
 ·have e:JZ nb n=true:=by unfold JZ;exact decide_eq_true (.inl h1)
  rw[e]
  refine tq ?_
  with_reducible rfl
 ·by_cases h2:nb = -1
  ·by_cases h3:n<=8
   ·have e:JZ nb n=true:=by unfold JZ;exact decide_eq_true (.inr ⟨by omega,h3⟩)
    rw[e]
    refine tq ?_
    with_reducible rfl
   ·have e:JZ nb n=false:=zbf
    rw[e]
    refine tq ?_
    with_reducible rfl
  ·have e:JZ nb n=false:=zbf
   rw[e]
   refine tq ?_
   with_reducible rfl
def ACx(A:AV):Prop:=∃(c:Int) (hs:List Int) (az:List (El AB)) (is:List Int) (bs:List (List UInt8)),A=rq c hs az is bs
theorem zV(y:List UInt8)(hl:y.length<=2048){e0 t f1 e1 n f2 e2 e3 f3 e4:Int}{p1 p2 p3:Nat}(r:rHd y e0 t p1 f1 e1 n p2 f2 e2 e3 c p3 f3){h a i:Nat}(ok:Bool)(hz:h<=10/\a<=10/\i<=10 /\ -1<=nb)(hs:Y E0 (.call 49 [.i c] [])=some (.ret (.tup [.agg [.i (h:Int),.i (a:Int),.i (i:Int),.i nb],.b ok]) []))(d4:e4=if f3=0/\ok=false then 6 else f3){pH pA pI pN pB:Nat}{eH eA eI eN eM eB m:Int}(q:rPt y h a i nb p3 e4 pH pA pI pN pB eH eA eI eN eM eB m):∃ A:AV,ACx A/\Y E0 (.call 11 [.sl .u8 y] [])=some (.ret (.tup [A,.i (PI y pB eB)]) []):=by
 obtain⟨l1,l2,l3,-,-,-,hc⟩:=A9H hl r
 obtain⟨q1,q2,q3,q4,q5,hm⟩:=AB2 l3 q
 obtain⟨d0,u1,d1,u2,d2,d3,u3⟩:=r
 obtain⟨h1,h2,h3,h4,h5,h6⟩:=q
 have r0:=Ji y 0 0 2 (Dx (Ak y) 5)
 rw[show(if(0:Int)=0/\Dx (Ak y) 5=true then(2:Int) else 0)=e0 from by rw[d0,AP,II];simp;congr 1;simp;omega] at r0
 have g1:=FV y 0 e0 2 zaa zaa
 rw[u1,show((0:Nat):Int)=0 from rfl] at g1
 have r1:=Ji y p1 f1 5 (ES t 21335)
 rw[show(if f1=0/\ES t 21335=true then(5:Int) else f1)=e1 from by rw[d1,JR];simp] at r1
 have g2:=FV y p1 e1 2 zaa l1
 rw[u2] at g2
 have r2:=Ji y p2 f2 2 (Dx (Ak y) n)
 rw[show(if f2=0/\Dx (Ak y) n=true then(2:Int) else f2)=e2 from by rw[d2,AP,II];simp] at r2
 have r3:=Ji y p2 e2 3 (Dx n (Ak y))
 rw[show(if e2=0/\Dx n (Ak y)=true then(3:Int) else e2)=e3 from by rw[d3,AP,II];simp] at r3
 have g3:=FV y p2 e3 1 zaa l2
 rw[u3] at g3
 have r4:=Ji y p3 f3 6 (CX ok)
 rw[show(if f3=0/\CX ok=true then(6:Int) else f3)=e4 from by rw[d4,DW];simp] at r4
 obtain⟨hs',k0⟩:=rX y c h a i nb h hz.1 h 0 [] p3 e4 zaa rfl zaa l3 zaD
 rw[h1,show((0:Nat):Int)=0 from rfl] at k0
 obtain⟨az',k1⟩:=rY y c h a i nb hs' a hz.2.1 a 0 [] pH eH zaa rfl zaa q1 zaD
 rw[h2,show((0:Nat):Int)=0 from rfl] at k1
 obtain⟨is',k2⟩:=rZ y c h a i nb hs' az' i hz.2.2.1 i 0 [] pA eA zaa rfl zaa q2 zaD
 rw[h3,show((0:Nat):Int)=0 from rfl] at k2
 have g4:=FV y pI eI 1 zaa q3
 rw[h4] at g4
 have gf:=A8Q nb m hm.1 hz.2.2.2
 have r5:=Ji y pN eN 1 (CX (JZ nb m))
 rw[show(if eN=0/\CX (JZ nb m)=true then(1:Int) else eN)=eM from by rw[h5,DW];simp] at r5
 obtain⟨bs',k3⟩:=ry y c hs' az' is' m m.toNat zaa m.toNat 0 [] pN eM zaa zaa zaa q4 zaD
 rw[h6,show((0:Nat):Int)=0 from rfl] at k3
 have gz:=Yz y pB eB zaa q5
 dsimp only at g1 g2 g3 g4 k0 k1 k2 k3
 generalize PI y pB eB=E at *
 refine⟨bif ED E 0 then rq c hs' az' is' bs' else rq 0 [] [] [] [],by cases ED E 0<;>exact⟨_,_,_,_,_,rfl⟩,?_⟩
 refine tq ?_
 rw[Yy _]
 refine tq ?_
 rw[r0]
 refine tq ?_
 rw[g1]
 refine tq ?_
 rw[r1]
 refine tq ?_
 rw[g2]
 refine tq ?_
 rw[r2]
 refine tq ?_
 rw[r3]
 refine tq ?_
 rw[g3]
 refine tq ?_
 rw[hs]
 conv=>lhs;whnf
 try dsimp -iota -beta -eta -zeta only
 rw[AX]
 rw[r4]
 refine tq ?_
 simp only[Nat.reduceAdd];rw[k0]
 refine tq ?_
 simp only[Nat.reduceAdd];rw[k1]
 refine tq ?_
 simp only[Nat.reduceAdd];rw[k2]
 refine tq ?_
 rw[g4]
 refine tq ?_
 rw[gf]
 conv=>lhs;whnf
 try dsimp -iota -beta -eta -zeta only
 rw[AX]
 rw[r5]
 conv=>lhs;whnf
 rw[AL]
 conv=>lhs;whnf
 try dsimp -iota -beta -eta -zeta only
 rw[Du]
 simp only[Nat.reduceAdd];rw[k3]
 refine tq ?_
 rw[gz]
 refine tq ?_
 rcases CE E 0 with hc0|hc0
 ·
  refine tq ?_
  (rw[Aa hc0,cond_false])
 subst hc0
 refine tq ?_
 exact zas
theorem wz(hs:Yl c=none):Y E0 (.call 49 [.i c] [])=some (.ret (.tup [.agg [.i 0,.i 0,.i 0,.i 0],.b false]) []):=by
 by_cases h0:c=0\/c=3
 ·rcases h0 with rfl|rfl<;>(refine tq ?_;rw[Eb];refine tq ?_;rfl)
 have h3:c<0\/34<=c:=by have:=A97 hs;omega
 clear hs h0
 rcases h3 with h1|h1
 ·refine tq ?_;rw[Eb];refine tq ?_;rfl
 ·refine tq ?_;rw[Eb];refine tq ?_;rfl
theorem sD(y:List UInt8)(hl:y.length<=100000):∃ A:AV,ACx A/\Y E0 (.call 11 [.sl .u8 y] [])=some (.ret (.tup [A,.i (VZ y)]) []):=by
 by_cases h:2048<y.length
 ·refine⟨rq 0 [] [] [] [],⟨_,_,_,_,_,rfl⟩,?_⟩
  have e:iq y=4:=by unfold iq;rw[if_pos h]
  rw[show VZ y=4 from by unfold VZ;rw[if_pos (by rw[e];decide),e]]
  refine tq ?_
  with_reducible rfl
 obtain⟨e0,t,p1,f1,e1,n,p2,f2,e2,e3,c,p3,f3,r⟩:=AB3 y
 obtain⟨-,-,-,hf,h0,h1,hc⟩:=A9H zaa r
 cases hs:Yl c with
 | none =>
  obtain⟨pH,pA,pI,pN,pB,eH,eA,eI,eN,eM,eB,m,q⟩:=A5y y 0 0 0 0 p3 (if f3=0/\false=false then 6 else f3)
  obtain⟨A,hA,k⟩:=zV c 0 y zaa r (h:=0) (a:=0) (i:=0) false zaj (wz c hs) rfl q
  rw[A8P (by split;decide;rename_i hx;exact fun e=>hx ⟨e,rfl⟩) q] at k
  refine⟨A,hA,?_⟩
  rw[k]
  by_cases hz:f3=0
  ·rw[if_pos ⟨hz,rfl⟩]
   unfold VZ
   rw[if_neg (by rw[<-hf];simp[hz]),<-(h0 hz).2.1,hs]
  ·rw[if_neg (fun q=>hz q.1)]
   unfold VZ
   rw[if_pos (by rw[<-hf];exact hz),<-hf]
 | some w =>
  obtain⟨h,a,i,nb⟩:=w
  have hb:=A5N hs
  dsimp only at hb
  have hz:f3=0:=by
   by_cases hz:f3=0
   ·exact hz
   ·have:=h1 hz;subst this;cases hs
  obtain⟨hp,hcc,h5⟩:=h0 hz
  subst hp
  obtain⟨pH,pA,pI,pN,pB,eH,eA,eI,eN,eM,eB,m,q⟩:=A5y y h a i nb 5 0
  obtain⟨A,hA,k⟩:=zV c nb y zaa r (h:=h) (a:=a) (i:=i) true ⟨hb.1,hb.2.1,hb.2.2.1,hb.2.2.2.1⟩ (dR hs) (by rw[hz];rfl) q
  rw[ACw h5 q] at k
  refine⟨A,hA,?_⟩
  rw[k]
  unfold VZ
  rw[if_neg (by rw[<-hf];simp[hz]),<-hcc,hs]
end Go.Proofs.YtlpkjhhfhannpaaGreatDoor
