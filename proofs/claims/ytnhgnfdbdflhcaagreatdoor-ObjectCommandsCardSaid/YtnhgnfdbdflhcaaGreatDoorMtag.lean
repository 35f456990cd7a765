/-
  Own texts, laid together for this claim: contracts of functions of the program and its references, used by the statements of this seat.
-/
import Derived.Test.YtnhgnfdbdflhcaaGreatDoorMtaf
set_option linter.all false
set_option maxHeartbeats 40000000
set_option maxRecDepth 100000
namespace Go.Ax
open Go.Eng
variable (b:UInt8)(leaf:Int)(m:List UInt8)
def hiN(b:UInt8):Int:=((b.toNat/16:Nat):Int)
def loN(b:UInt8):Int:=((b.toNat%16:Nat):Int)
def O6(l:List UInt8):List Int:=l.flatMap fun b=>[hiN b,loN b]
def KI:List UInt8->Int
 | []=>0
 | b::l=>30-hiN b-loN b+KI l
def A3E(h:List UInt8):List Int:=O6 h++[KI h/256,KI h/16%16,KI h%16]
def Wj(m:List UInt8):List UInt8:=(sha256 (Ar 4 [m])).take 16
def Hm(m:List UInt8):List Int:=A3E (Wj m)
def ZX(leaf c p:Int)(x:List UInt8):List UInt8:=(sha256 (Ar 1 [[UInt8.ofInt leaf,UInt8.ofInt c,UInt8.ofInt p],x])).take 16
def Gy:Nat->Int->Int->Int->List UInt8->List UInt8
 | 0,_,_,_,x=>x
 | n+1,leaf,c,p,x=>Gy n leaf c (p+1) (ZX leaf c p x)
def Fq(seed:List UInt8)(leaf c:Int):List UInt8:=Dw seed [99,104,97,105,110] [UInt8.ofInt leaf,UInt8.ofInt c] 16
def Wl(leaf:Int)(x:List UInt8):List UInt8:=(sha256 (Ar 2 [[UInt8.ofInt leaf],x])).take 16
theorem yT:0<=hiN b/\hiN b<=15:=by have:=b.toNat_lt;unfold hiN;omega
theorem yU:0<=loN b/\loN b<=15:=by unfold loN;omega
theorem A6I:Fh (CB b (UInt64.ofNat 4).toNat)=hiN b:=by
 rw[QI,xH];unfold u8shr0 hiN
 have:=b.toNat_lt
 rw[show min (UInt64.ofNat 4).toNat 8=4 from rfl,UInt8.toNat_ofNat']
 congr 1;omega
theorem A6J:Fh (DL .and b (UInt8.ofNat 15))=loN b:=by
 rw[QI,A2S];unfold loN
 rw[UInt8.toNat_and,show(UInt8.ofNat 15).toNat=2^4-1 from rfl,Nat.and_two_pow_sub_one_eq_mod]
theorem Rn:∀ l:List UInt8,0<=KI l/\KI l<=30*l.length
 | []=>by simp[KI]
 | b::l=>by
  have h1:=yT b
  have h2:=yU b
  have h3:=Rn l
  simp only[KI,List.length_cons];omega
theorem DN:∀ l:List UInt8,(O6 l).length=2*l.length
 | []=>rfl
 | b::l=>by have:=DN l;simp only[O6] at *;simp[this];omega
theorem A3F(l m:List UInt8):O6 (l++m)=O6 l++O6 m:=by simp[O6]
theorem mF:∀ l m:List UInt8,KI (l++m)=KI l+KI m
 | [],m=>by simp[KI]
 | b::l,m=>by simp only[List.cons_append,KI,mF l m];omega
theorem D9:(Wj m).length=16:=by simp[Wj,A8]
theorem Ce(c p:Int)(x:List UInt8):(ZX leaf c p x).length=16:=by simp[ZX,A8]
theorem Js:∀(n:Nat) (leaf c p:Int) (x:List UInt8),x.length=16->(Gy n leaf c p x).length=16
 | 0,_,_,_,x,h=>h
 | n+1,leaf,c,p,x,h=>Js n leaf c (p+1) _ (Ce _ _ _ _)
theorem Bo(seed:List UInt8)(leaf c:Int):(Fq seed leaf c).length=16:=Ff zaa
theorem ZY(x:List UInt8):(Wl leaf x).length=16:=by simp[Wl,A8]
def JE(leaf:Int)(st:Nat->List UInt8)(fr to:Nat->Int)(n:Nat):List UInt8:=(List.range n).flatMap fun(c:Nat)=>Gy (to c-fr c).toNat leaf c (fr c) (st c)
theorem IJ(st:Nat->List UInt8)(fr to:Nat->Int)(n:Nat):JE leaf st fr to (n+1)=JE leaf st fr to n++Gy (to n-fr n).toNat leaf n (fr n) (st n):=by
 unfold JE;rw[List.range_succ,List.flatMap_append];simp
theorem MP(leaf:Int)(st:Nat->List UInt8)(fr to:Nat->Int)(m:Nat)(hs:∀ c,c<m->(st c).length=16):∀ n,n<=m->(JE leaf st fr to n).length=16*n
 | 0,_=>rfl
 | n+1,h=>by rw[IJ,List.length_append,MP leaf st fr to m hs n zaa,Js _ _ _ _ _ (hs n zaa)];omega
def Ht(seed:List UInt8)(leaf:Int):List UInt8:=if 0<=leaf/\leaf<=255 then Wl leaf (JE leaf (fun c=>Fq seed leaf c) (fun c=>0) (fun c=>15) 35) else []
def LZ(seed:List UInt8)(leaf:Int)(m:List UInt8):List UInt8:=if 0<=leaf/\leaf<=255 then JE leaf (fun c=>Fq seed leaf c) (fun c=>0) (fun c=>(Hm m).getD c 0) 35 else []
def P8(leaf:Int)(m sig:List UInt8):List UInt8×Bool:=if(0<=leaf/\leaf<=255)/\sig.length=560 then(Wl leaf (JE leaf (fun c=>(sig.drop (16*c)).take 16) (fun c=>(Hm m).getD c 0) (fun c=>15) 35),true) else([],false)
theorem V8:(Hm m).length=35:=by simp[Hm,A3E,DN,D9]
theorem mG:∀(l:List UInt8),∀ x∈O6 l,0<=x/\x<=15
 | [],x,h=>za6
 | b::l,x,h=>by
  simp only[O6,List.flatMap_cons,List.mem_append,List.mem_cons,List.not_mem_nil,or_false] at h
  rcases h with(rfl|rfl)|h
  ·exact yT b
  ·exact yU b
  ·exact mG l x h
theorem V9:∀ x∈Hm m,0<=x/\x<=15:=by
 intro x hx
 have h1:=Rn (Wj m)
 rw[D9] at h1
 simp only[Hm,A3E,List.mem_append,List.mem_cons,List.not_mem_nil,or_false] at hx
 rcases hx with hx|rfl|rfl|rfl
 ·exact mG _ x hx
 ·omega
 ·omega
 ·omega
theorem ZZ:∀(m n:Nat) (leaf c p:Int) (x:List UInt8),Gy (m+n) leaf c p x=Gy n leaf c (p+m) (Gy m leaf c p x)
 | 0,n,leaf,c,p,x=>by simp[Gy]
 | m+1,n,leaf,c,p,x=>by
  rw[show m+1+n=(m+n)+1 from by omega,Gy,ZZ m n,Gy]
  congr 1;omega
theorem dJ(leaf:Int)(st:Nat->List UInt8)(fr to:Nat->Int)(m:Nat)(hs:∀ c,c<m->(st c).length=16):∀ n,n<=m->∀ c,c<n->((JE leaf st fr to n).drop (16*c)).take 16=Gy (to c-fr c).toNat leaf c (fr c) (st c)
 | 0,_,c,hc=>zaa
 | n+1,hn,c,hc=>by
  have hl:=MP leaf st fr to m hs n zaa
  rw[IJ]
  by_cases h:c=n
  ·subst h
   rw[List.drop_append,List.drop_eq_nil_of_le zaa,hl,Nat.sub_self,List.drop_zero,List.nil_append]
   exact List.take_of_length_le (by rw[Js _ _ _ _ _ (hs c zaa)];omega)
  ·rw[List.drop_append_of_le_length zaa,List.take_append_of_le_length zaU]
   exact dJ leaf st fr to m hs n zaa c zaa
theorem XY{leaf:Int}{st st':Nat->List UInt8}{fr fr' to to':Nat->Int}:∀ n,(∀ c,c<n->Gy (to c-fr c).toNat leaf c (fr c) (st c)=Gy (to' c-fr' c).toNat leaf c (fr' c) (st' c))->JE leaf st fr to n=JE leaf st' fr' to' n
 | 0,_=>rfl
 | n+1,h=>by rw[IJ,IJ,XY n (fun c hc=>h c zaa),h n zaa]
theorem A7C(c:Nat)(hc:c<35):0<=(Hm m).getD c 0/\(Hm m).getD c 0<=15:=by
 have hl:=V8 m
 have:=V9 m _ (List.getElem_mem (l:=Hm m) (n:=c) zaa)
 simp only[List.getD,List.getElem?_eq_getElem (show c<(Hm m).length by omega),Option.getD_some];exact this
theorem OQ{seed m:List UInt8}{leaf:Int}(h:0<=leaf/\leaf<=255):(LZ seed leaf m).length=560:=by
 unfold LZ
 rw[if_pos h,MP _ _ _ _ 35 (fun c _=>Bo _ _ _) 35 (Nat.le_refl _)]
theorem A5N{seed m:List UInt8}{leaf:Int}(h:0<=leaf/\leaf<=255):P8 leaf m (LZ seed leaf m)=(Ht seed leaf,true):=by
 have hl:=OQ (seed:=seed) (m:=m) h
 unfold P8 Ht
 rw[if_pos ⟨h,hl⟩,if_pos h]
 congr 2
 refine XY 35 fun c hc=>?_
 have hd:=A7C m c hc
 have hg:=dJ leaf (fun c=>Fq seed leaf c) (fun c=>(0:Int)) (fun c=>(Hm m).getD c 0) 35 (fun c _=>Bo _ _ _) 35 (Nat.le_refl _) c hc
 unfold LZ
 rw[if_pos h,hg]
 have:=ZZ ((Hm m).getD c 0-0).toNat (15-(Hm m).getD c 0).toNat leaf c 0 (Fq seed leaf c)
 rw[show((Hm m).getD c 0-0).toNat+(15-(Hm m).getD c 0).toNat=(15-(0:Int)).toNat from by omega,show(0:Int)+(((Hm m).getD c 0-0).toNat:Int)=(Hm m).getD c 0 from by omega] at this
 exact this.symm
theorem A7D(s:List UInt8):(P8 leaf m s).1.length<=16:=by
 unfold P8;split
 ·simp only[ZY];omega
 ·simp
theorem rec_2(s:List UInt8):(P8 leaf m s).2=decide ((0<=leaf/\leaf<=255)/\s.length=560):=by
 unfold P8;split
 ·rename_i h;simp only[decide_eq_true h]
 ·rename_i h;simp only[decide_eq_false h]
def iT:List Int->Int
 | []=>0
 | x::l=>15-x+iT l
theorem Wn:∀ l:List UInt8,iT (O6 l)=KI l
 | []=>rfl
 | b::l=>by
  have:=Wn l
  simp only[O6] at *
  simp only[List.flatMap_cons,List.cons_append,List.nil_append,iT,KI,this];omega
theorem P9:(O6 (Wj m)).length=32:=by rw[DN,D9]
def La:List Int->List Int->Bool
 | a::x,b::y=>decide (b<a)||La x y
 | _,_=>false
theorem Za:∀ x:List Int,La x x=false
 | []=>rfl
 | a::x=>by simp[La,Za x]
theorem dK:∀(x1 y1 x2 y2:List Int),x1.length=y1.length->La (x1++x2) (y1++y2)=(La x1 y1||La x2 y2)
 | [],[],x2,y2,_=>by simp[La]
 | a::x1,b::y1,x2,y2,h=>by simp only[List.cons_append,La,dK x1 y1 x2 y2 za0,Bool.or_assoc]
 | [],b::y1,x2,y2,h|a::x1,[],x2,y2,h=>zbC
theorem A3G:∀(x y:List Int),x.length=y.length->La x y=false->iT y<=iT x/\(iT x=iT y->x=y)
 | [],[],_,_=>by simp[iT]
 | a::x,b::y,h,hg=>by
  simp only[La,Bool.or_eq_false_iff,decide_eq_false_iff_not] at hg
  obtain⟨h1,h2⟩:=A3G x y za0 hg.2
  simp only[iT]
  refine⟨by omega,fun e=>?_⟩
  obtain rfl:a=b:=zaa
  rw[h2 zaa]
 | [],b::y,h,_|a::x,[],h,_=>zbC
theorem A3H(a b:List UInt8)(h:La (Hm a) (Hm b)=false):Hm a=Hm b:=by
 unfold Hm A3E at h
 rw[dK _ _ _ _ (by rw[P9,P9]),Bool.or_eq_false_iff] at h
 obtain⟨h1,h2⟩:=h
 obtain⟨h3,h4⟩:=A3G _ _ (by rw[P9,P9]) h1
 rw[Wn,Wn] at h3 h4
 simp only[La,Bool.or_eq_false_iff,decide_eq_false_iff_not] at h2
 have e:KI (Wj a)=KI (Wj b):=zaa
 unfold Hm A3E
 rw[h4 e,e]
theorem cross(a b:List UInt8):(La (Hm a) (Hm b)==La (Hm b) (Hm a))=true/\(La (Hm a) (Hm b) != decide (Hm a=Hm b))=true:=by
 by_cases h:Hm a=Hm b
 ·rw[h,Za];simp
 ·cases h1:La (Hm a) (Hm b)
  ·exact absurd (A3H a b h1) h
  ·cases h2:La (Hm b) (Hm a)
   ·exact absurd (A3H b a h2).symm h
   ·simp[h]
end Go.Ax
namespace Go.Ax
open Go Go.Eng Go.RowKit
variable {key nonce b ad:List UInt8}
def U5(a b:List UInt8):List UInt8:=List.zipWith (· ^^^ ·) a b
def QS:List UInt8:=[101,110,99,114,121,112,116]
def mO:List UInt8:=[97,117,116,104,101,110,116,105,99,97,116,101]
def iW(key nonce b:List UInt8):List UInt8:=U5 b (Dw key QS nonce (b.length:Int))
def mP(key nonce ad c:List UInt8):List UInt8:=ZW (Dw key mO nonce 32) (Ar 0 [ad,nonce,c])
def dQ(nonce c t:List UInt8):List UInt8:=KP (KP [] nonce) c++t
def NH(key nonce ad plain:List UInt8):List UInt8 :=
 if 64<nonce.length\/1024<plain.length then [] else dQ nonce (iW key nonce plain) (mP key nonce ad (iW key nonce plain))
def JF(key ad b:List UInt8):List UInt8×Int :=
 let n:=Ie b 0 0 64
 let c:=Ie b n.2.1 n.2.2 1024
 let t:=Pz b c.2.1 c.2.2 32
 let e:=U2 b t.2.1 t.2.2
 if e≠0 then([],e) else if t.1≠mP key n.1 ad c.1 then([],18) else(iW key n.1 c.1,0)
theorem Rx{label ctx:List UInt8}{n:Nat}(h:n<=1024):(Dw key label ctx (n:Int)).length=n:=by
 rcases Nat.eq_zero_or_pos n with rfl|hp
 ·rfl
 ·rw[Ff zaa];simp
theorem Zh(h:b.length<=1024):(iW key nonce b).length=b.length:=by
 rw[iW,U5,List.length_zipWith,Rx h,Nat.min_self]
theorem Iw(key nonce ad c:List UInt8):(mP key nonce ad c).length=32:=BU _ _
theorem A3N{c t:List UInt8}(hn:nonce.length<=65535)(hc:c.length<=65535):dQ nonce c t=WY nonce.length++nonce++(WY c.length++c++(t++[])):=by
 rw[dQ,OL hn,OL hc]
 simp only[List.append_assoc,List.append_nil,List.nil_append]
theorem A0L{c t:List UInt8}(hn:nonce.length<=65535)(hc:c.length<=65535):(dQ nonce c t).length=4+nonce.length+c.length+t.length:=by
 rw[A3N hn hc]
 simp only[List.length_append,Uu,List.length_nil];omega
theorem Ws{plain:List UInt8}(hn:nonce.length<=64)(hp:plain.length<=1024):(NH key nonce ad plain).length=36+nonce.length+plain.length:=by
 have hs:=Zh (key:=key) (nonce:=nonce) hp
 rw[NH,if_neg zaa,A0L zaa zaa,Iw,hs];omega
theorem OT{v0 v1 v2:List UInt8}{er0 er1 er2:Int}{p0 p1 p2:Nat}(g0:Ie b 0 0 64=(v0,p0,er0))(g1:Ie b p0 er0 1024=(v1,p1,er1))(g2:Pz b p1 er1 32=(v2,p2,er2)):
  JF key ad b=if U2 b p2 er2≠0 then([],U2 b p2 er2) else if v2≠mP key v0 ad v1 then([],18) else(iW key v0 v1,0):=by
 simp only[JF,g0,g1,g2]
theorem dR:(JF key ad b).1.length<=b.length:=by
 unfold JF;dsimp only
 split
 ·simp
 ·split
  ·simp
  ·simp only[iW,U5,List.length_zipWith]
   have:=Gg (b:=b) (at':=(Ie b 0 0 64).2.1) (e:=(Ie b 0 0 64).2.2) (most:=1024)
   omega
end Go.Ax
