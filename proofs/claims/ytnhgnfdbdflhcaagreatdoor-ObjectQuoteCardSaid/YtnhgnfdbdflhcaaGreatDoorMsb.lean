/-
  Own texts, laid together for this claim: contracts of functions of the program and its references, used by the statements of this seat.
-/
import Derived.Test.YtnhgnfdbdflhcaaGreatDoorMsa
set_option linter.all false
set_option maxHeartbeats 40000000
set_option maxRecDepth 100000
namespace Go.Ax
open Go Go.Eng
variable (a b c d e:UInt32)
theorem A3b:BZ [a,b,c,d,e] 0=some a:=JD zal rfl
theorem A3c:BZ [a,b,c,d,e] 1=some b:=JD zal rfl
theorem A3d:BZ [a,b,c,d,e] 2=some c:=JD zal rfl
theorem A3e:BZ [a,b,c,d,e] 3=some d:=JD zal rfl
theorem A3f:BZ [a,b,c,d,e] 4=some e:=JD zal rfl
end Go.Ax
namespace Go.Ax
open Go.Eng
variable {K:Nat}{α:Type}(a key:List UInt8)(leaf h:Int)(m b:List UInt8)(i:Int)(x s:List UInt8)
def Nj(key:List UInt8):List UInt8:=key.take 64++(List.replicate 64 0).drop key.length
def Ji(x:UInt8)(l:List UInt8):List UInt8:=l.map (· ^^^ x)
def wP(key:List UInt8):List UInt8:=if 64<key.length then sha256 key else key
def Xx(key b:List UInt8):List UInt8:=sha256 (Ji (UInt8.ofNat 92) (Nj (wP key))++sha256 (Ji (UInt8.ofNat 54) (Nj (wP key))++b))
def Qo(n:Int):List UInt8:=[UInt8.ofInt (n/2^24),UInt8.ofInt (n/2^16),UInt8.ofInt (n/2^8),UInt8.ofInt n]
def L6(key label ctx:List UInt8)(n:Int)(j:Nat):List UInt8:=(List.range j).flatMap fun(i:Nat)=>Xx key (Qo ((i:Int)+1)++(label++(0::(ctx++Qo (8*n)))))
def E5(key label ctx:List UInt8)(n:Int):List UInt8:=if n<1\/1024<n then [] else(L6 key label ctx n ((n+31)/32).toNat).take n.toNat
theorem BP:(Nj key).length=64:=by simp[Nj];omega
theorem BU(x:UInt8)(l:List UInt8):(Ji x l).length=l.length:=by simp[Ji]
theorem BV:(Xx key b).length=32:=A7 _
theorem BR(n:Int):(Qo n).length=4:=rfl
theorem BC(label ctx:List UInt8)(n:Int)(j:Nat):(L6 key label ctx n j).length=32*j:=by
 unfold L6
 induction j with
 | zero=>rfl
 | succ j ih=>rw[List.range_succ,List.flatMap_append,List.length_append,ih];simp[BV];omega
theorem Vq(label ctx:List UInt8)(n:Int)(j:Nat):L6 key label ctx n (j+1)=L6 key label ctx n j++Xx key (Qo ((j:Int)+1)++(label++(0::(ctx++Qo (8*n))))):=by
 unfold L6
 rw[List.range_succ,List.flatMap_append];simp
theorem Fq{key label ctx:List UInt8}{n:Int}(h:1<=n/\n<=1024):(E5 key label ctx n).length=n.toNat:=by
 unfold E5
 rw[if_neg zaa,List.length_take,BC];omega
theorem A2v(x:UInt8)(l:List UInt8)(i:Nat)(hi:i<l.length):(Ji x (l.take i)++l.drop i).set i (l[i]^^^x)=Ji x (l.take (i+1))++l.drop (i+1):=by
 have h1:(Ji x (l.take i)).length=i:=by rw[BU,List.length_take];omega
 rw[List.set_append,if_neg zaa,h1,Nat.sub_self,List.drop_eq_getElem_cons hi,List.set_cons_zero,List.take_succ_eq_append_getElem hi]
 simp only[Ji,List.map_append,List.map_cons,List.map_nil,List.append_assoc,List.cons_append,List.nil_append]
theorem A0s(i:Nat)(hi:i<64):(Nj key)[i]'(by rw[BP];exact hi)=if h:i<key.length then key[i] else 0:=by
 unfold Nj
 by_cases h:i<key.length
 ·rw[List.getElem_append_left zaC,dif_pos h];simp
 ·rw[List.getElem_append_right zaC,dif_neg h,List.getElem_drop,List.getElem_replicate]
theorem X0(x:UInt8)(l:List UInt8)(i:Nat)(hi:i<l.length)(hl:l.length=64):(Ji x (l.take i)++List.replicate (64-i) 0).set i (l[i]^^^x)=Ji x (l.take (i+1))++List.replicate (64-(i+1)) 0:=by
 have h1:(Ji x (l.take i)).length=i:=by rw[BU,List.length_take];omega
 rw[List.set_append,if_neg zaa,h1,Nat.sub_self,show 64-i=(64-(i+1))+1 from by omega,List.replicate_succ,List.set_cons_zero,List.take_succ_eq_append_getElem hi]
 simp only[Ji,List.map_append,List.map_cons,List.map_nil,List.append_assoc,List.cons_append,List.nil_append]
def hiN(b:UInt8):Int:=((b.toNat/16:Nat):Int)
def yC(b:UInt8):Int:=((b.toNat%16:Nat):Int)
def NP(l:List UInt8):List Int:=l.flatMap fun b=>[hiN b,yC b]
def Jf:List UInt8->Int
 | []=>0
 | b::l=>30-hiN b-yC b+Jf l
def A0t(h:List UInt8):List Int:=NP h++[Jf h/256,Jf h/16%16,Jf h%16]
def VA(m:List UInt8):List UInt8:=(sha256 (Ar 4 [m])).take 16
def Gt(m:List UInt8):List Int:=A0t (VA m)
def Xy(leaf c p:Int)(x:List UInt8):List UInt8:=(sha256 (Ar 1 [[UInt8.ofInt leaf,UInt8.ofInt c,UInt8.ofInt p],x])).take 16
def GZ:Nat->Int->Int->Int->List UInt8->List UInt8
 | 0,_,_,_,x=>x
 | n+1,leaf,c,p,x=>GZ n leaf c (p+1) (Xy leaf c p x)
def FN(seed:List UInt8)(leaf c:Int):List UInt8:=E5 seed [99,104,97,105,110] [UInt8.ofInt leaf,UInt8.ofInt c] 16
def VB(leaf:Int)(x:List UInt8):List UInt8:=(sha256 (Ar 2 [[UInt8.ofInt leaf],x])).take 16
theorem uA(b:UInt8):0<=hiN b/\hiN b<=15:=by have:=b.toNat_lt;unfold hiN;omega
theorem uB(b:UInt8):0<=yC b/\yC b<=15:=by unfold yC;omega
theorem A3j(b:UInt8):G7 (CJ b (UInt64.ofNat 4).toNat)=hiN b:=by
 rw[V4,qm];unfold u8shr0 hiN
 have:=b.toNat_lt
 rw[show min (UInt64.ofNat 4).toNat 8=4 from rfl,UInt8.toNat_ofNat']
 congr 1;omega
theorem A3k(b:UInt8):G7 (DU .and b (UInt8.ofNat 15))=yC b:=by
 rw[V4,A08];unfold yC
 rw[UInt8.toNat_and,show(UInt8.ofNat 15).toNat=2^4-1 from rfl,Nat.and_two_pow_sub_one_eq_mod]
theorem QR:∀ l:List UInt8,0<=Jf l/\Jf l<=30*l.length
 | []=>by simp[Jf]
 | b::l=>by
  have h1:=uA b
  have h2:=uB b
  have h3:=QR l
  simp only[Jf,List.length_cons];omega
theorem D5:∀ l:List UInt8,(NP l).length=2*l.length
 | []=>rfl
 | b::l=>by have:=D5 l;simp only[NP] at *;simp[this];omega
theorem A0u(l m:List UInt8):NP (l++m)=NP l++NP m:=by simp[NP]
theorem jA:∀ l m:List UInt8,Jf (l++m)=Jf l+Jf m
 | [],m=>by simp[Jf]
 | b::l,m=>by simp only[List.cons_append,Jf,jA l m];omega
theorem Ci:(VA m).length=16:=by simp[VA,A7]
theorem CZ(c p:Int)(x:List UInt8):(Xy leaf c p x).length=16:=by simp[Xy,A7]
theorem JW:∀(n:Nat) (leaf c p:Int) (x:List UInt8),x.length=16->(GZ n leaf c p x).length=16
 | 0,_,_,_,x,h=>h
 | n+1,leaf,c,p,x,h=>JW n leaf c (p+1) _ (CZ _ _ _ _)
theorem Bc(seed:List UInt8)(leaf c:Int):(FN seed leaf c).length=16:=Fq zaa
theorem Xz:(VB leaf x).length=16:=by simp[VB,A7]
def Ii(leaf:Int)(st:Nat->List UInt8)(fr to:Nat->Int)(n:Nat):List UInt8:=(List.range n).flatMap fun(c:Nat)=>GZ (to c-fr c).toNat leaf c (fr c) (st c)
theorem Hl(st:Nat->List UInt8)(fr to:Nat->Int)(n:Nat):Ii leaf st fr to (n+1)=Ii leaf st fr to n++GZ (to n-fr n).toNat leaf n (fr n) (st n):=by
 unfold Ii;rw[List.range_succ,List.flatMap_append];simp
theorem LZ(leaf:Int)(st:Nat->List UInt8)(fr to:Nat->Int)(m:Nat)(hs:∀ c,c<m->(st c).length=16):∀ n,n<=m->(Ii leaf st fr to n).length=16*n
 | 0,_=>rfl
 | n+1,h=>by rw[Hl,List.length_append,LZ leaf st fr to m hs n zaa,JW _ _ _ _ _ (hs n zaa)];omega
def Gv(seed:List UInt8)(leaf:Int):List UInt8:=if 0<=leaf/\leaf<=255 then VB leaf (Ii leaf (fun c=>FN seed leaf c) (fun c=>0) (fun c=>15) 35) else []
def Kt(seed:List UInt8)(leaf:Int)(m:List UInt8):List UInt8:=if 0<=leaf/\leaf<=255 then Ii leaf (fun c=>FN seed leaf c) (fun c=>0) (fun c=>(Gt m).getD c 0) 35 else []
def OI(leaf:Int)(m sig:List UInt8):List UInt8×Bool:=if(0<=leaf/\leaf<=255)/\sig.length=560 then(VB leaf (Ii leaf (fun c=>(sig.drop (16*c)).take 16) (fun c=>(Gt m).getD c 0) (fun c=>15) 35),true) else([],false)
theorem U2:(Gt m).length=35:=by simp[Gt,A0t,D5,Ci]
theorem jB:∀(l:List UInt8),∀ x∈NP l,0<=x/\x<=15
 | [],x,h=>zaU
 | b::l,x,h=>by
  simp only[NP,List.flatMap_cons,List.mem_append,List.mem_cons,List.not_mem_nil,or_false] at h
  rcases h with(rfl|rfl)|h
  ·exact uA b
  ·exact uB b
  ·exact jB l x h
theorem U3:∀ x∈Gt m,0<=x/\x<=15:=by
 intro x hx
 have h1:=QR (VA m)
 rw[Ci] at h1
 simp only[Gt,A0t,List.mem_append,List.mem_cons,List.not_mem_nil,or_false] at hx
 rcases hx with hx|rfl|rfl|rfl
 ·exact jB _ x hx
 ·omega
 ·omega
 ·omega
theorem Y0:∀(m n:Nat) (leaf c p:Int) (x:List UInt8),GZ (m+n) leaf c p x=GZ n leaf c (p+m) (GZ m leaf c p x)
 | 0,n,leaf,c,p,x=>by simp[GZ]
 | m+1,n,leaf,c,p,x=>by
  rw[show m+1+n=(m+n)+1 from by omega,GZ,Y0 m n,GZ]
  congr 1;omega
theorem Zf(leaf:Int)(st:Nat->List UInt8)(fr to:Nat->Int)(m:Nat)(hs:∀ c,c<m->(st c).length=16):∀ n,n<=m->∀ c,c<n->((Ii leaf st fr to n).drop (16*c)).take 16=GZ (to c-fr c).toNat leaf c (fr c) (st c)
 | 0,_,c,hc=>zaa
 | n+1,hn,c,hc=>by
  have hl:=LZ leaf st fr to m hs n zaa
  rw[Hl]
  by_cases h:c=n
  ·subst h
   rw[List.drop_append,List.drop_eq_nil_of_le zaa,hl,Nat.sub_self,List.drop_zero,List.nil_append]
   exact List.take_of_length_le (by rw[JW _ _ _ _ _ (hs c zaa)];omega)
  ·rw[List.drop_append_of_le_length zaa,List.take_append_of_le_length zaO]
   exact Zf leaf st fr to m hs n zaa c zaa
theorem Vr{leaf:Int}{st st':Nat->List UInt8}{fr fr' to to':Nat->Int}:∀ n,(∀ c,c<n->GZ (to c-fr c).toNat leaf c (fr c) (st c)=GZ (to' c-fr' c).toNat leaf c (fr' c) (st' c))->Ii leaf st fr to n=Ii leaf st' fr' to' n
 | 0,_=>rfl
 | n+1,h=>by rw[Hl,Hl,Vr n (fun c hc=>h c zaa),h n zaa]
theorem A4g(c:Nat)(hc:c<35):0<=(Gt m).getD c 0/\(Gt m).getD c 0<=15:=by
 have hl:=U2 m
 have:=U3 m _ (List.getElem_mem (l:=Gt m) (n:=c) zaa)
 simp only[List.getD,List.getElem?_eq_getElem (show c<(Gt m).length by omega),Option.getD_some];exact this
theorem Nk{seed m:List UInt8}{leaf:Int}(h:0<=leaf/\leaf<=255):(Kt seed leaf m).length=560:=by
 unfold Kt
 rw[if_pos h,LZ _ _ _ _ 35 (fun c _=>Bc _ _ _) 35 (Nat.le_refl _)]
theorem A2w{seed m:List UInt8}{leaf:Int}(h:0<=leaf/\leaf<=255):OI leaf m (Kt seed leaf m)=(Gv seed leaf,true):=by
 have hl:=Nk (seed:=seed) (m:=m) h
 unfold OI Gv
 rw[if_pos ⟨h,hl⟩,if_pos h]
 congr 2
 refine Vr 35 fun c hc=>?_
 have hd:=A4g m c hc
 have hg:=Zf leaf (fun c=>FN seed leaf c) (fun c=>(0:Int)) (fun c=>(Gt m).getD c 0) 35 (fun c _=>Bc _ _ _) 35 (Nat.le_refl _) c hc
 unfold Kt
 rw[if_pos h,hg]
 have:=Y0 ((Gt m).getD c 0-0).toNat (15-(Gt m).getD c 0).toNat leaf c 0 (FN seed leaf c)
 rw[show((Gt m).getD c 0-0).toNat+(15-(Gt m).getD c 0).toNat=(15-(0:Int)).toNat from by omega,show(0:Int)+(((Gt m).getD c 0-0).toNat:Int)=(Gt m).getD c 0 from by omega] at this
 exact this.symm
theorem A4h:(OI leaf m s).1.length<=16:=by
 unfold OI;split
 ·simp only[Xz];omega
 ·simp
theorem rec_2:(OI leaf m s).2=decide ((0<=leaf/\leaf<=255)/\s.length=560):=by
 unfold OI;split
 ·rename_i h;simp only[decide_eq_true h]
 ·rename_i h;simp only[decide_eq_false h]
def cu:List Int->Int
 | []=>0
 | x::l=>15-x+cu l
theorem VC:∀ l:List UInt8,cu (NP l)=Jf l
 | []=>rfl
 | b::l=>by
  have:=VC l
  simp only[NP] at *
  simp only[List.flatMap_cons,List.cons_append,List.nil_append,cu,Jf,this];omega
theorem OJ:(NP (VA m)).length=32:=by rw[D5,Ci]
def Ku:List Int->List Int->Bool
 | a::x,b::y=>decide (b<a)||Ku x y
 | _,_=>false
theorem YA:∀ x:List Int,Ku x x=false
 | []=>rfl
 | a::x=>by simp[Ku,YA x]
theorem Zg:∀(x1 y1 x2 y2:List Int),x1.length=y1.length->Ku (x1++x2) (y1++y2)=(Ku x1 y1||Ku x2 y2)
 | [],[],x2,y2,_=>by simp[Ku]
 | a::x1,b::y1,x2,y2,h=>by simp only[List.cons_append,Ku,Zg x1 y1 x2 y2 zaT,Bool.or_assoc]
 | [],b::y1,x2,y2,h|a::x1,[],x2,y2,h=>zbk
theorem A0v:∀(x y:List Int),x.length=y.length->Ku x y=false->cu y<=cu x/\(cu x=cu y->x=y)
 | [],[],_,_=>by simp[cu]
 | a::x,b::y,h,hg=>by
  simp only[Ku,Bool.or_eq_false_iff,decide_eq_false_iff_not] at hg
  obtain⟨h1,h2⟩:=A0v x y zaT hg.2
  simp only[cu]
  refine⟨by omega,fun e=>?_⟩
  obtain rfl:a=b:=zaa
  rw[h2 zaa]
 | [],b::y,h,_|a::x,[],h,_=>zbk
theorem A0w(h:Ku (Gt a) (Gt b)=false):Gt a=Gt b:=by
 unfold Gt A0t at h
 rw[Zg _ _ _ _ (by rw[OJ,OJ]),Bool.or_eq_false_iff] at h
 obtain⟨h1,h2⟩:=h
 obtain⟨h3,h4⟩:=A0v _ _ (by rw[OJ,OJ]) h1
 rw[VC,VC] at h3 h4
 simp only[Ku,Bool.or_eq_false_iff,decide_eq_false_iff_not] at h2
 have e:Jf (VA a)=Jf (VA b):=zaa
 unfold Gt A0t
 rw[h4 e,e]
theorem cross:(Ku (Gt a) (Gt b)==Ku (Gt b) (Gt a))=true/\(Ku (Gt a) (Gt b) != decide (Gt a=Gt b))=true:=by
 by_cases h:Gt a=Gt b
 ·rw[h,YA];simp
 ·cases h1:Ku (Gt a) (Gt b)
  ·exact absurd (A0w a b h1) h
  ·cases h2:Ku (Gt b) (Gt a)
   ·exact absurd (A0w b a h2).symm h
   ·simp[h]
def Kv(h i:Int)(l r:List UInt8):List UInt8:=(sha256 (Ar 3 [[UInt8.ofInt h,UInt8.ofInt i],l,r])).take 16
theorem YB(tag:Int)(a b c:List UInt8):(Ar tag [a,b,c]).length=13+a.length+b.length+c.length:=by
 simp[Ar,fieldsB,Ht];omega
def VD(h i:Int):List (List UInt8)->List (List UInt8)
 | l::r::t=>Kv h i l r::VD h (i+1) t
 | _=>[]
def Eo(n:Int):Int:=if n=1 then 0 else if n=2 then 1 else if n=4 then 2 else if n=8 then 3 else -1
def OL(h i:Int)(x:List UInt8):List (List UInt8)->List UInt8
 | []=>x
 | s::p=>OL (h+1) (i/2) (if i%2=1 then Kv h (i/2) s x else Kv h (i/2) x s) p
def JK(x:List UInt8)(i:Int)(p:List (List UInt8)):List UInt8:=if 3<p.length\/i<0\/(2:Int)^p.length<=i then [] else OL 0 i x p
theorem QS(l r:List UInt8):(Kv h i l r).length<=16:=by simp[Kv];omega
theorem drop2{ls:List α}{i:Nat}(h:2*i+1<ls.length):ls.drop (2*i)=ls[2*i]::ls[2*i+1]::ls.drop (2*(i+1)):=by
 rw[List.drop_eq_getElem_cons zaa,List.drop_eq_getElem_cons (i:=2*i+1) zaa];rfl
theorem U4(ls:List (List UInt8))(hl:ls.length<=1):VD h i ls=[]:=by
 match ls with
 | []|[_]=>rfl
 | _::_::_=>simp at hl
theorem N7(h:Int):∀(n:Nat) (i:Int) (ls:List (List UInt8)),ls.length<=n->(VD h i ls).length=ls.length/2
 | 0,i,ls,hl=>by rw[U4 _ _ _ zaa,List.length_nil];omega
 | n+1,i,[],_=>rfl
 | n+1,i,[_],_=>by simp[VD]
 | n+1,i,l::r::t,hl=>by
  simp only[VD,List.length_cons,N7 h n (i+1) t zbu]
  simp only[List.length_cons] at hl;omega
theorem U5(h:Int):∀(n:Nat) (i:Int) (ls:List (List UInt8)),ls.length<=n->∀ x∈VD h i ls,x.length<=1000000
 | 0,i,ls,hl=>by rw[U4 _ _ _ zaa];intro x hx;cases hx
 | n+1,i,[],_|n+1,i,[_],_=>by intro x hx;cases hx
 | n+1,i,l::r::t,hl=>by
  intro x hx
  simp only[VD,List.mem_cons] at hx
  rcases hx with rfl|hx
  ·have:=QS h i l r;omega
  ·exact U5 h n (i+1) t zbu x hx
def Qd:Nat->Int->List (List UInt8)->List (List (List UInt8))
 | 0,h,ls=>[ls]
 | k+1,h,ls=>ls::Qd k (h+1) (VD h 0 ls)
def VE:Nat->Int->List (List UInt8)->List (List UInt8)
 | 0,h,ls=>ls
 | j+1,h,ls=>VE j (h+1) (VD h 0 ls)
def Kw(ls:List (List UInt8)):List UInt8:=if Eo ls.length<0 then [] else(VE (Eo ls.length).toNat 0 ls).getD 0 []
def Yq(i:Int):Int:=if i%2=0 then i+1 else i-1
def LD:Nat->Int->Int->List (List UInt8)->List (List UInt8)
 | 0,h,i,ls=>[]
 | k+1,h,i,ls=>ls.getD (Yq i).toNat []::LD k (h+1) (i/2) (VD h 0 ls)
def IL(i:Int)(ls:List (List UInt8)):List (List UInt8):=if Eo ls.length<0\/i<0\/(ls.length:Int)<=i then [] else LD (Eo ls.length).toNat 0 i ls
theorem YC:∀(j:Nat) (h:Int) (ls:List (List UInt8)),VE (j+1) h ls=VD (h+j) 0 (VE j h ls)
 | 0,h,ls=>by simp[VE]
 | j+1,h,ls=>by
  rw[VE,YC j (h+1),VE]
  congr 1;omega
theorem YD : ∀ (k : Nat) (h : Int) (ls : List (List UInt8)) (j : Nat), j <= k -> (Qd k h ls)[j]? = some (VE j h ls)
  | 0, h, ls, j, hj => by obtain rfl : j = 0 := by omega
                          rfl
  | k + 1, h, ls, 0, _ => rfl
  | k + 1, h, ls, j + 1, hj => by rw [Qd, List.getElem?_cons_succ, YD k (h + 1) _ j zaa, VE]
theorem YE:∀(k:Nat) (h:Int) (ls:List (List UInt8)),(Qd k h ls).length=k+1
 | 0,h,ls=>rfl
 | k+1,h,ls=>by rw[Qd,List.length_cons,YE k]
theorem U6:∀(j:Nat) (h:Int) (ls:List (List UInt8)) (k:Nat),ls.length=2^(j+k)->(VE j h ls).length=2^k
 | 0,h,ls,k,hl=>by rw[VE,hl,Nat.zero_add]
 | j+1,h,ls,k,hl=>by
  rw[VE]
  refine U6 j (h+1) _ k ?_
  rw[N7 h _ _ _ (Nat.le_refl _),hl,show j+1+k=(j+k)+1 from by omega,Nat.pow_succ];omega
theorem We:∀(j:Nat) (h:Int) (ls:List (List UInt8)),(∀ x∈ls,x.length<=1000000)->∀ x∈VE j h ls,x.length<=1000000
 | 0,h,ls,hm=>hm
 | j+1,h,ls,hm=>We j (h+1) _ (U5 h _ 0 ls (Nat.le_refl _))
theorem OM(n:Nat)(h:¬Eo n<0):∃ k:Nat,k<=3/\Eo n=(k:Int)/\n=2^k:=by
 unfold Eo at h ⊢
 by_cases h1:(n:Int)=1
 ·exact⟨0,by omega,by rw[if_pos h1];rfl,by simp;omega⟩
 rw[if_neg h1] at h ⊢
 by_cases h2:(n:Int)=2
 ·exact⟨1,by omega,by rw[if_pos h2];rfl,by simp;omega⟩
 rw[if_neg h2] at h ⊢
 by_cases h4:(n:Int)=4
 ·exact⟨2,by omega,by rw[if_pos h4];rfl,by simp;omega⟩
 rw[if_neg h4] at h ⊢
 by_cases h8:(n:Int)=8
 ·exact⟨3,by omega,by rw[if_pos h8];rfl,by simp;omega⟩
 rw[if_neg h8] at h
 exact absurd h zal
theorem Zh(pre:List α)(x:α)(h:Int)(hh:(pre.length:Int)=h):BZ (pre++[x]) h=some x:=by
 subst hh;rw[Na];simp
theorem uC{i:Int}(h:0<=i/\i<1024):BH .xor i 1=Yq i:=by
 rw[P6]
 have:∀ j:Fin 1024,ibit0 .xor (j.val:Int) 1=Yq (j.val:Int):=zaI
 have h1:=this ⟨i.toNat,by omega⟩
 simp only[Int.toNat_of_nonneg h.1] at h1
 exact h1
def pnd(h i:Int)(s x:List UInt8):List UInt8:=if i%2=1 then Kv h (i/2) s x else Kv h (i/2) x s
def A5b(ls:List (List UInt8)):Prop:=(∀ l∈ls,l.length<=60)/\ls.length<20
instance (ls:List (List UInt8)):Decidable (A5b ls):=by unfold A5b;infer_instance
theorem A2x(l r:List UInt8):(pnd h i l r).length<=16:=by unfold pnd;split<;>exact QS _ _ _ _
theorem drop_one{l:List α}{j:Nat}(h:j<l.length):l.drop j=l[j]::l.drop (j+1):=List.drop_eq_getElem_cons h
theorem YF(h:Int):∀(j:Nat) (i:Int) (ls:List (List UInt8)),2*j+1<ls.length->(VD h i ls).getD j []=Kv h (i+j) (ls.getD (2*j) []) (ls.getD (2*j+1) [])
 | 0,i,l::r::t,_=>by simp[VD]
 | j+1,i,l::r::t,hl=>by
  simp only[VD,List.getD_cons_succ]
  rw[YF h j (i+1) t zbu]
  rw[show 2*(j+1)=2*j+1+1 from by omega]
  simp only[List.getD_cons_succ]
  congr 1;omega
 | 0,i,[_],hl|j+1,i,[_],hl|_,i,[],hl=>by simp at hl
theorem Vs(p:List (List UInt8)):OL h i x (s::p)=OL (h+1) (i/2) (pnd h i s x) p:=rfl
theorem trip:∀(k:Nat) (h i:Int) (ls:List (List UInt8)),ls.length=2^k->0<=i->i<ls.length->OL h i (ls.getD i.toNat []) (LD k h i ls)=(VE k h ls).getD 0 []
 | 0,h,i,ls,hl,h0,hi=>by
  obtain rfl:i=0:=zbu
  rfl
 | k+1,h,i,ls,hl,h0,hi=>by
  have hl2:ls.length=2*2^k:=by rw[hl,Nat.pow_succ];omega
  have hul:(VD h 0 ls).length=2^k:=zaW
  rw[LD,Vs,VE,<-trip k (h+1) (i/2) (VD h 0 ls) hul zaa zaa]
  congr 1
  rw[YF h (i/2).toNat 0 ls zaa]
  unfold pnd Yq
  by_cases hc:i%2=1
  ·rw[if_pos hc,if_neg zaa,show(0:Int)+((i/2).toNat:Int)=i/2 from by omega,show 2*(i/2).toNat=(i-1).toNat from by omega,show(i-1).toNat+1=i.toNat from by omega]
  ·rw[if_neg hc,if_pos zaa,show(0:Int)+((i/2).toNat:Int)=i/2 from by omega,show 2*(i/2).toNat=i.toNat from by omega,show(i+1).toNat=i.toNat+1 from by omega]
theorem QT:∀(k:Nat) (h i:Int) (ls:List (List UInt8)),(LD k h i ls).length=k
 | 0,h,i,ls=>rfl
 | k+1,h,i,ls=>by rw[LD,List.length_cons,QT k]
theorem Zi:∀(p:List (List UInt8)) (h i:Int) (x:List UInt8),x.length<=1000000->(OL h i x p).length<=1000000
 | [],h,i,x,hx=>hx
 | s::p,h,i,x,hx=>by
  rw[Vs];exact Zi p _ _ _ (by have:=A2x h i s x;omega)
theorem A0x{x:List UInt8}{i:Int}{p:List (List UInt8)}(hx:x.length<=1000000):(JK x i p).length<=4294967296:=by
 unfold JK
 split
 ·simp
 ·have:=Zi p 0 i x hx;omega
theorem QU{n:Nat}(hK:K<=3)(hn:n=2^K):Eo n=K:=by
 subst hn
 have:∀ K:Fin 4,Eo ((2^K.val:Nat):Int)=((K.val:Nat):Int):=zal
 exact this ⟨K,by omega⟩
theorem A5c{l:List (List UInt8)}(hK:K<=3)(hl:l.length=2^K){i:Int}(h0:0<=i)(hi:i<l.length):(IL i l).length=K/\JK (l.getD i.toNat []) i (IL i l)=Kw l:=by
 have hh:=QU hK hl
 have hp:IL i l=LD K 0 i l:=by unfold IL;rw[hh,if_neg zaa,Int.toNat_natCast]
 rw[hp]
 refine⟨QT _ _ _ _,?_⟩
 unfold JK Kw
 have hc:¬(3<K\/i<0\/(2:Int)^K<=i):=by
  intro h
  have:(l.length:Int)=(2:Int)^K:=by rw[hl];simp
  omega
 rw[QT,hh,if_neg hc,if_neg zaa,Int.toNat_natCast]
 exact trip K 0 i l hl h0 hi
theorem A4i{l:List (List UInt8)}(hK:K<=3)(hl:l.length=2^K)(h1:1<l.length):(Kw l).length=16:=by
 have hh:=QU hK hl
 unfold Kw
 rw[hh,if_neg zaa,Int.toNat_natCast]
 cases K with
 | zero=>simp at hl;omega
 | succ k =>
  have h2:=U6 k 0 l 1 hl
  rw[YC,YF _ 0 0 _ zaa]
  simp[Kv,A7]
end Go.Ax
namespace Go.Ax
open Go Go.Eng Go.RowKit
variable {seed key nonce m:List UInt8}{k:Nat}{b ad:List UInt8}{h leaf:Int}
def dA:List UInt8:=[115,105,103,110,101,114]
def lsB(seed:List UInt8)(h:Int):List UInt8:=E5 seed dA [UInt8.ofInt h] 32
def Qe(seed:List UInt8)(k:Nat):List (List UInt8):=(List.range (2^k)).map fun(i:Nat)=>Gv (lsB seed k) i
def Ed(seed:List UInt8)(h:Int):List UInt8:=if 0<=h/\h<=3 then UInt8.ofInt h::Kw (Qe seed h.toNat) else []
def Ej(seed:List UInt8)(h leaf:Int)(m:List UInt8):List UInt8 :=
 if(0<=h/\h<=3)/\0<=leaf/\leaf<(2:Int)^h.toNat then UInt8.ofInt leaf::(Kt (lsB seed h) leaf m++(IL leaf (Qe seed h.toNat)).flatten) else []
def Il:Nat->List UInt8->List (List UInt8)
 | 0,_=>[]
 | k+1,s=>s.take 16::Il k (s.drop 16)
def Zj(p s:List UInt8):Prop:=p.length=17/\(p.getD 0 0).toNat<=3/\s.length=561+16*(p.getD 0 0).toNat/\(s.getD 0 0).toNat<2^(p.getD 0 0).toNat
instance (p s:List UInt8):Decidable (Zj p s):=by unfold Zj;exact inferInstance
def uD(p m s:List UInt8):List UInt8:=JK (OI (s.getD 0 0).toNat m ((s.drop 1).take 560)).1 (s.getD 0 0).toNat (Il (p.getD 0 0).toNat (s.drop 561))
def Gf(p m s:List UInt8):Int×Bool:=if Zj p s/\uD p m s=p.drop 1 then(((s.getD 0 0).toNat:Int),true) else(0,false)
theorem J9(seed:List UInt8)(h:Int):(lsB seed h).length=32:=Fq zaa
theorem GU(seed:List UInt8)(k:Nat):(Qe seed k).length=2^k:=by simp[Qe]
theorem LM(h:k<=3):1<=2^k/\2^k<=8:=⟨Nat.one_le_two_pow,Nat.le_trans (Nat.pow_le_pow_right zaa h) zal⟩
theorem Gm(k:Nat):(2:Int)^k=((2^k:Nat):Int):=zao
theorem jC{i:Int}(h:0<=i/\i<=255):(Gv seed i).length=16:=by rw[Gv,if_pos h,Xz]
theorem A0y(hk:k<=3):∀ x∈Qe seed k,x.length=16:=by
 intro x hx
 have:=LM hk
 simp only[Qe,List.mem_map,List.mem_range] at hx
 obtain⟨i,hi,rfl⟩:=hx
 exact jC zaa
theorem Wh(hk:k<=3):∀ x∈Qe seed k,x.length<=1000000:=fun x hx=>by rw[A0y hk x hx];decide
theorem uF(hk:k<=3):(Qe seed k).length<=1000:=by rw[GU];have:=LM hk;omega
theorem Wi{i:Nat}(hi:i<2^k):(Qe seed k).getD i []=Gv (lsB seed k) i:=by
 rw[List.getD,List.getElem?_eq_getElem (by rw[GU];exact hi)];simp[Qe]
theorem A4j(h i:Int)(l r:List UInt8):(Kv h i l r).length=16:=by simp[Kv,A7]
theorem A0z(h:Int):∀(n:Nat) (i:Int) (ls:List (List UInt8)),ls.length<=n->∀ x∈VD h i ls,x.length=16
 | 0,i,ls,hl=>by rw[U4 _ _ _ zaa];intro x hx;cases hx
 | n+1,i,[],_|n+1,i,[_],_=>by intro x hx;cases hx
 | n+1,i,l::r::t,hl=>by
  intro x hx
  simp only[VD,List.mem_cons] at hx
  rcases hx with rfl|hx
  ·exact A4j _ _ _ _
  ·exact A0z h n (i+1) t zbu x hx
theorem jD:∀(k:Nat) (h i:Int) (ls:List (List UInt8)),ls.length=2^k->0<=i->i<ls.length->(∀ l∈ls,l.length=16)->∀ l∈LD k h i ls,l.length=16
 | 0,h,i,ls,_,_,_,hm,l,hl=>by cases hl
 | k+1,h,i,ls,hn,h0,hi,hm,l,hl=>by
  rw[LD] at hl
  have hu:(VD h 0 ls).length=2^k:=by rw[N7 h _ 0 ls (Nat.le_refl _),hn,Nat.pow_succ];omega
  have h2:(ls.length:Int)=2*(2^k:Nat):=by rw[hn,Nat.pow_succ];omega
  rcases List.mem_cons.1 hl with rfl|hl
  ·have hs:(Yq i).toNat<ls.length:=by unfold Yq;split<;>omega
   simp only[List.getD,List.getElem?_eq_getElem hs,Option.getD_some];exact hm _ (List.getElem_mem hs)
  ·exact jD k (h+1) (i/2) _ hu zaa (by rw[hu];omega) (A0z h _ 0 ls (Nat.le_refl _)) l hl
theorem Wj{i:Int}(hk:k<=3)(h0:0<=i)(hi:i<(2:Int)^k):(IL i (Qe seed k)).length=k/\∀ l∈IL i (Qe seed k),l.length=16:=by
 have hl:=GU seed k
 have hh:=QU hk hl
 rw[Gm] at hi
 have hp:IL i (Qe seed k)=LD k 0 i (Qe seed k):=by unfold IL;rw[hh,if_neg (by rw[hl];omega),Int.toNat_natCast]
 rw[hp]
 exact⟨QT _ _ _ _,jD k 0 i _ hl h0 (by rw[hl];exact hi) (A0y hk)⟩
theorem dB(hk:k<=3):(Kw (Qe seed k)).length=16:=by
 have hl:=GU seed k
 rcases Nat.eq_zero_or_pos k with rfl|hp
 ·have hh:=QU hk hl
  unfold Kw
  rw[hh,if_neg zaa,show((0:Nat):Int).toNat=0 from rfl,VE,Wi zao]
  exact jC zaa
 ·exact A4i hk hl (by rw[hl];exact Nat.one_lt_two_pow zaa)
theorem U7(hh:0<=h/\h<=3):(Ed seed h).length=17:=by
 rw[Ed,if_pos hh,List.length_cons,dB zaa]
theorem uG(seed:List UInt8)(h:Int):(Ed seed h).length<=17:=by
 by_cases hh:0<=h/\h<=3
 ·rw[U7 hh];exact Nat.le_refl _
 ·rw[Ed,if_neg hh];simp
theorem Zk{n:Nat}:∀ {l:List (List UInt8)},(∀ x∈l,x.length=n)->l.flatten.length=n*l.length
 | [],_=>zao
 | x::l,h=>by rw[List.flatten_cons,List.length_append,h x zao,Zk (fun y hy=>h y (by simp[hy])),List.length_cons,Nat.mul_succ];omega
theorem YG(hh:0<=h/\h<=3)(hl:0<=leaf/\leaf<(2:Int)^h.toNat):(Ej seed h leaf m).length=561+16*h.toNat:=by
 have h8:=LM (k:=h.toNat) zaa
 have hi:=hl
 rw[Gm] at hi
 obtain⟨p1,p2⟩:=Wj (seed:=seed) (k:=h.toNat) (i:=leaf) zaa hl.1 hl.2
 rw[Ej,if_pos ⟨hh,hl⟩,List.length_cons,List.length_append,Nk zaa,Zk p2,p1];omega
theorem YH:∀(l:List (List UInt8)),(∀ x∈l,x.length=16)->Il l.length l.flatten=l
 | [],_=>rfl
 | x::l,h=>by
  have hx:=h x zao
  rw[List.length_cons,List.flatten_cons,Il,List.take_left' hx,List.drop_left' hx,YH l (fun y hy=>h y (by simp[hy]))]
theorem Ie:∀(k:Nat) (s:List UInt8),(Il k s).length=k
 | 0,_=>rfl
 | k+1,s=>by rw[Il,List.length_cons,Ie k]
theorem Zl:∀(k:Nat) (s:List UInt8),∀ x∈Il k s,x.length<=1000000
 | 0,_,x,hx=>by cases hx
 | k+1,s,x,hx=>by
  rw[Il] at hx
  rcases List.mem_cons.1 hx with rfl|hx
  ·rw[List.length_take];omega
  ·exact Zl k _ x hx
theorem A10(hh:0<=h/\h<=3)(hl:0<=leaf/\leaf<(2:Int)^h.toNat):
  Zj (Ed seed h) (Ej seed h leaf m)/\(Ed seed h).drop 1=Kw (Qe seed h.toNat)/\uD (Ed seed h) m (Ej seed h leaf m)=Kw (Qe seed h.toNat)/\((Ej seed h leaf m).getD 0 0).toNat=leaf.toNat:=by
 obtain⟨k,rfl⟩:∃ k:Nat,h=k:=⟨h.toNat,by omega⟩
 have hk:k<=3:=zaa
 rw[Int.toNat_natCast] at *
 have h8:=LM hk
 have hp:=Gm k
 obtain⟨i,rfl⟩:∃ i:Nat,leaf=i:=⟨leaf.toNat,by omega⟩
 obtain⟨p1,p2⟩:=Wj (seed:=seed) (k:=k) (i:=(i:Int)) hk zaa zaa
 have e1:Ed seed (k:Int)=UInt8.ofInt (k:Int)::Kw (Qe seed k):=by rw[Ed,if_pos hh,Int.toNat_natCast]
 have hs:=Nk (seed:=lsB seed k) (m:=m) (leaf:=(i:Int)) zaa
 have e2:Ej seed (k:Int) (i:Int) m=UInt8.ofInt (i:Int)::(Kt (lsB seed k) i m++(IL (i:Int) (Qe seed k)).flatten):=by rw[Ej,if_pos ⟨hh,by rw[Int.toNat_natCast];exact hl⟩,Int.toNat_natCast]
 have n1:(UInt8.ofInt (k:Int)).toNat=k:=by rw[UInt8.ofInt,UInt8.toNat_ofNat'];omega
 have n2:(UInt8.ofInt (i:Int)).toNat=i:=by rw[UInt8.ofInt,UInt8.toNat_ofNat'];omega
 have g1:(Ed seed (k:Int)).getD 0 0=UInt8.ofInt (k:Int):=by rw[e1];rfl
 have g2:(Ej seed (k:Int) (i:Int) m).getD 0 0=UInt8.ofInt (i:Int):=by rw[e2];rfl
 have d1:((Ej seed (k:Int) (i:Int) m).drop 1).take 560=Kt (lsB seed k) i m:=by rw[e2,List.drop_one,List.tail_cons,List.take_left' hs]
 have d2:(Ej seed (k:Int) (i:Int) m).drop 561=(IL (i:Int) (Qe seed k)).flatten:=by rw[e2,List.drop_succ_cons,List.drop_left' hs]
 refine⟨⟨U7 hh,?_,?_,?_⟩,by rw[e1];rfl,?_,by rw[g2,n2];omega⟩
 ·rw[g1,n1];exact hk
 ·rw[g1,n1,YG hh (by rw[Int.toNat_natCast];exact hl),Int.toNat_natCast]
 ·rw[g1,g2,n1,n2];omega
 ·rw[uD,g1,g2,n1,n2,d1,d2,A2w zaa]
  have hc:=YH _ p2
  rw[p1] at hc
  rw[hc]
  have ht:=(A5c hk (GU seed k) (i:=(i:Int)) zaa (by rw[GU];omega)).2
  rw[Int.toNat_natCast,Wi zaa] at ht
  exact ht
theorem wQ{a b:UInt8}{p' s':List UInt8}{i:Nat}(hk:a.toNat=k)(hi:b.toNat=i)(hp:(a::p').length=17)(hk3:k<=3)(hs:(b::s').length=561+16*k)(hi2:i<2^k):
  Gf (a::p') m (b::s')=if JK (OI (i:Int) m (((b::s').drop 1).take 560)).1 (i:Int) (Il k ((b::s').drop 561))=p' then((i:Int),true) else(0,false):=by
 subst hk;subst hi
 have hf:Zj (a::p') (b::s'):=⟨hp,hk3,hs,hi2⟩
 have hr:uD (a::p') m (b::s')=JK (OI (b.toNat:Int) m (((b::s').drop 1).take 560)).1 (b.toNat:Int) (Il a.toNat ((b::s').drop 561)):=rfl
 have hd:(a::p').drop 1=p':=rfl
 unfold Gf
 rw[hr,hd]
 by_cases hq:JK (OI (b.toNat:Int) m (((b::s').drop 1).take 560)).1 (b.toNat:Int) (Il a.toNat ((b::s').drop 561))=p'
 ·rw[if_pos ⟨hf,hq⟩,if_pos hq];rfl
 ·rw[if_neg (fun h=>hq h.2),if_neg hq]
theorem Wl{p s:List UInt8}(h:¬Zj p s):Gf p m s=(0,false):=by rw[Gf,if_neg (fun e=>h e.1)]
theorem A11(hh:0<=h/\h<=3)(hl:0<=leaf/\leaf<(2:Int)^h.toNat):Gf (Ed seed h) m (Ej seed h leaf m)=(leaf,true):=by
 obtain⟨q1,q2,q3,q4⟩:=A10 (seed:=seed) (m:=m) hh hl
 rw[Gf,if_pos ⟨q1,by rw[q3,q2]⟩,q4]
 congr 1;omega
def VF(a b:List UInt8):List UInt8:=List.zipWith (· ^^^ ·) a b
def YI:List UInt8:=[101,110,99,114,121,112,116]
def A12:List UInt8:=[97,117,116,104,101,110,116,105,99,97,116,101]
def jE(key nonce b:List UInt8):List UInt8:=VF b (E5 key YI nonce (b.length:Int))
def wR(key nonce ad c:List UInt8):List UInt8:=Xx (E5 key A12 nonce 32) (Ar 0 [ad,nonce,c])
def jF(nonce c t:List UInt8):List UInt8:=Jk (Jk [] nonce) c++t
def PT(key nonce ad plain:List UInt8):List UInt8 :=
 if 64<nonce.length\/1024<plain.length then [] else jF nonce (jE key nonce plain) (wR key nonce ad (jE key nonce plain))
def Jg(key ad b:List UInt8):List UInt8×Int :=
 let n:=Js b 0 0 64
 let c:=Js b n.2.1 n.2.2 1024
 let t:=V5 b c.2.1 c.2.2 32
 let e:=WT b t.2.1 t.2.2
 if e≠0 then([],e) else if t.1≠wR key n.1 ad c.1 then([],18) else(jE key n.1 c.1,0)
theorem VG{label ctx:List UInt8}{n:Nat}(h:n<=1024):(E5 key label ctx (n:Int)).length=n:=by
 rcases Nat.eq_zero_or_pos n with rfl|hp
 ·rfl
 ·rw[Fq zaa];simp
theorem jG(h:b.length<=1024):(jE key nonce b).length=b.length:=by
 rw[jE,VF,List.length_zipWith,VG h,Nat.min_self]
theorem MI(key nonce ad c:List UInt8):(wR key nonce ad c).length=32:=BV _ _
theorem A13{c t:List UInt8}(hn:nonce.length<=65535)(hc:c.length<=65535):jF nonce c t=V6 nonce.length++nonce++(V6 c.length++c++(t++[])):=by
 rw[jF,Nh hn,Nh hc]
 simp only[List.append_assoc,List.append_nil,List.nil_append]
theorem wS{c t:List UInt8}(hn:nonce.length<=65535)(hc:c.length<=65535):(jF nonce c t).length=4+nonce.length+c.length+t.length:=by
 rw[A13 hn hc]
 simp only[List.length_append,Tm,List.length_nil];omega
theorem Zm{plain:List UInt8}(hn:nonce.length<=64)(hp:plain.length<=1024):(PT key nonce ad plain).length=36+nonce.length+plain.length:=by
 have hs:=jG (key:=key) (nonce:=nonce) hp
 rw[PT,if_neg zaa,wS zaa zaa,MI,hs];omega
theorem YJ{v0 v1 v2:List UInt8}{er0 er1 er2:Int}{p0 p1 p2:Nat}(g0:Js b 0 0 64=(v0,p0,er0))(g1:Js b p0 er0 1024=(v1,p1,er1))(g2:V5 b p1 er1 32=(v2,p2,er2)):
  Jg key ad b=if WT b p2 er2≠0 then([],WT b p2 er2) else if v2≠wR key v0 ad v1 then([],18) else(jE key v0 v1,0):=by
 simp only[Jg,g0,g1,g2]
theorem wU:(Jg key ad b).1.length<=b.length:=by
 unfold Jg;dsimp only
 split
 ·simp
 ·split
  ·simp
  ·simp only[jE,VF,List.length_zipWith]
   have:=J8 (b:=b) (at':=(Js b 0 0 64).2.1) (e:=(Js b 0 0 64).2.2) (most:=1024)
   omega
end Go.Ax
namespace Go.Ax
def CP(b:List UInt8):List UInt8:=b.take 32++(List.replicate 32 0).drop b.length
theorem AQ(b:List UInt8):(CP b).length=32:=by simp[CP];omega
end Go.Ax
namespace Go.Ax
open Go Go.Eng Go.RowKit
variable {auth:List UInt8}{m:Int}{α:Type}{l:List α}(n:Nat)(tag:Int)(j:Nat)(a b:List UInt8)
theorem Af(op:BinOp)(a b:Int):BH op a b=bits op .i64 a b:=by rw[P6];rfl
theorem Ak:(Ar tag [a]).length=5+a.length:=by
 simp[Ar,fieldsB,Ht];omega
theorem Ai:(Ar tag [a,b]).length=9+a.length+b.length:=by
 simp[Ar,fieldsB,Ht];omega
theorem Ag(c:List UInt8):(Ar tag [a,b,c]).length=13+a.length+b.length+c.length:=by
 simp[Ar,fieldsB,Ht];omega
theorem Wn(n:Int)(h:1<=m): -m<DK n m/\DK n m<m:=by
 rw[aV]
 exact⟨Int.lt_tmod_of_pos n zaa,Int.tmod_lt_of_pos n zaa⟩
theorem jH(n:Int)(h:1<=m):n%m=DK n m%m:=by
 rw[aV]
 show n%m=n.tmod m%m
 rw[Int.tmod_def,Int.sub_mul_emod_self_left]
theorem jI{n:Int}(h:1<=m)(h0:0<=DK n m):DK n m=n%m:=by
 rw[jH n h,Int.emod_eq_of_lt h0 (Wn n h).2]
theorem jJ{n:Int}(h:1<=m)(h0:DK n m<0):DK n m+m=n%m:=by
 have hb:=Wn n h
 rw[jH n h,<-Int.add_emod_right,Int.emod_eq_of_lt zaa zaa]
theorem dC(x:Int):QM 1 (UInt64.ofInt x)=[UInt8.ofInt x]:=by
 have h:(UInt64.ofInt x).toUInt8=UInt8.ofInt x:=by
  apply UInt8.toNat_inj.1
  rw[UInt64.toNat_toUInt8,UInt64.ofInt,UInt8.ofInt,UInt64.toNat_ofNat',UInt8.toNat_ofNat']
  omega
 have h2:(UInt64.ofInt x)>>>UInt64.ofNat (8*0)=UInt64.ofInt x:=by
  apply UInt64.toNat_inj.1
  rw[UInt64.toNat_shiftRight];simp
 rw[QM,h2,h];rfl
structure Pub where
 kind:Int
 attr:Int
 height:Int
 policy:List UInt8
 unique:List UInt8
deriving DecidableEq
def VH:Pub:=⟨0,0,0,[],[]⟩
def uniq(k:Int):Int:=if k=2 then 17 else 32
theorem dD(k:Int):17<=uniq k/\uniq k<=32:=by unfold uniq;split<;>omega
def Bv(p:Pub):Int :=
 if p.kind<1\/3<p.kind then 19
 else if p.attr<0\/7<p.attr\/(bits .and .i64 p.attr 4≠0/\p.kind≠2)\/(bits .and .i64 p.attr 1=0/\p.policy.length=0) then 20
 else if p.height<0\/3<p.height\/(p.height≠0/\p.kind≠2)\/(p.policy.length≠0/\p.policy.length≠32)\/(p.unique.length:Int)≠uniq p.kind then 1 else 0
def ES(p:Pub):List UInt8:=Jk (Jk [UInt8.ofInt p.kind,UInt8.ofInt p.attr,UInt8.ofInt p.height] p.policy) p.unique
def Fe(b:List UInt8):Pub×Int :=
 let k:=J7 b 0 0 1
 let a:=J7 b k.2.1 k.2.2 1
 let h:=J7 b a.2.1 a.2.2 1
 let o:=Js b h.2.1 h.2.2 32
 let u:=Js b o.2.1 o.2.2 32
 let e:=WT b u.2.1 u.2.2
 if e≠0 then(VH,e) else if Bv ⟨k.1,a.1,h.1,o.1,u.1⟩≠0 then(VH,Bv ⟨k.1,a.1,h.1,o.1,u.1⟩) else(⟨k.1,a.1,h.1,o.1,u.1⟩,0)
structure OkP (p:Pub):Prop where
 kind:1<=p.kind/\p.kind<=3
 attr:0<=p.attr/\p.attr<=7
 height:0<=p.height/\p.height<=3
 policy:p.policy.length<=32
 unique:p.unique.length<=32
theorem dE{p:Pub}(h:Bv p=0):OkP p:=by
 unfold Bv at h
 split at h
 ·simp at h
 rename_i h1
 split at h
 ·simp at h
 rename_i h2
 split at h
 ·simp at h
 rename_i h3
 have hu:uniq p.kind=17\/uniq p.kind=32:=by unfold uniq;split;exact .inl rfl;exact .inr rfl
 refine⟨by omega,by omega,by omega,by omega,by omega⟩
def jK(p:Pub):List UInt8 :=
 QM 1 (UInt64.ofInt p.kind)++(QM 1 (UInt64.ofInt p.attr)++(QM 1 (UInt64.ofInt p.height)++(V6 p.policy.length++p.policy++(V6 p.unique.length++p.unique++[]))))
theorem VI{p:Pub}(hp:p.policy.length<=65535)(hu:p.unique.length<=65535):ES p=jK p:=by
 unfold ES jK
 rw[Nh hp,Nh hu,dC,dC,dC]
 simp only[List.append_assoc,List.append_nil,List.cons_append,List.nil_append]
theorem Jh{p:Pub}(hp:p.policy.length<=65535)(hu:p.unique.length<=65535):(ES p).length=7+p.policy.length+p.unique.length:=by
 rw[VI hp hu]
 simp only[jK,List.length_append,KN,Tm,List.length_nil];omega
theorem A14{p:Pub}(h:Bv p=0):Fe (ES p)=(p,0):=by
 have hok:=dE h
 obtain⟨hk,ha,hh,hp,hu⟩:=hok
 rw[VI zaa zaa]
 generalize hb:jK p=b
 have e1:(256:Nat)^1=256:=zal
 obtain⟨q0,l0,d0⟩:=KO (b:=b) (p:=0) (n:=1) (x:=p.kind) (Nat.zero_le _) zaa (by rw[<-hb];exact rfl) zaa zaa zaa
 obtain⟨q1,l1,d1⟩:=KO l0 zaa d0 ha.1 zaa zaa
 obtain⟨q2,l2,d2⟩:=KO l1 zaa d1 hh.1 zaa zaa
 obtain⟨q3,l3,d3⟩:=WV (most:=32) l2 d2 zaa zaa
 obtain⟨q4,l4,d4⟩:=WV (most:=32) l3 d3 zaa zaa
 have qe:=A0D l4 d4
 replace q0:J7 b 0 0 1=_:=q0
 replace q1:J7 b _ 0 1=_:=q1
 replace q2:J7 b _ 0 1=_:=q2
 unfold Fe
 simp only[q0,q1,q2,q3,q4,qe,ne_eq,not_true_eq_false,if_false]
 cases p
 rw[if_neg zaT]
theorem A15{b:List UInt8}{p:Pub}(h:Fe b=(p,0)):ES p=b/\Bv p=0:=by
 unfold Fe at h
 dsimp only at h
 split at h
 ·rename_i he;simp only[Prod.mk.injEq] at h;exact absurd h.2 he
 rename_i heE
 split at h
 ·rename_i he;simp only[Prod.mk.injEq] at h;exact absurd h.2 he
 rename_i hc
 simp only[Prod.mk.injEq,and_true] at h
 have heE:=Classical.not_not.1 heE
 have hc:=Classical.not_not.1 hc
 generalize g0:J7 b 0 0 1=x0 at *
 generalize g1:J7 b x0.2.1 x0.2.2 1=x1 at *
 generalize g2:J7 b x1.2.1 x1.2.2 1=x2 at *
 generalize g3:Js b x2.2.1 x2.2.2 32=x3 at *
 generalize g4:Js b x3.2.1 x3.2.2 32=x4 at *
 obtain⟨k,p0,e0⟩:=x0;obtain⟨a,p1,e1⟩:=x1;obtain⟨t,p2,e2⟩:=x2;obtain⟨o,p3,e3⟩:=x3;obtain⟨u,p4,e4⟩:=x4
 simp only at *
 have k0:=(Jt (b:=b) (at':=0) (e:=0) (size:=1) (Nat.zero_le _));rw[g0] at k0
 have k1:=(Jt (b:=b) (at':=p0) (e:=e0) (size:=1) k0);rw[g1] at k1
 have k2:=(Jt (b:=b) (at':=p1) (e:=e1) (size:=1) k1);rw[g2] at k2
 have k3:=(MF (b:=b) (at':=p2) (e:=e2) (most:=32) k2);rw[g3] at k3
 have k4:=(MF (b:=b) (at':=p3) (e:=e3) (most:=32) k3);rw[g4] at k4
 obtain⟨rfl,z5⟩:=A2Y k4 heE
 obtain⟨rfl,_,_,i4,_,j4⟩:=sQ k3 g4
 obtain⟨rfl,_,_,i3,_,j3⟩:=sQ k2 g3
 obtain⟨rfl,_,_,i2,_⟩:=bn (n:=1) k1 zaa g2
 obtain⟨rfl,_,_,i1,_⟩:=bn (n:=1) k0 zaa g1
 obtain⟨_,_,_,i0,_⟩:=bn (n:=1) (Nat.zero_le _) zaa g0
 subst h
 refine⟨?_,hc⟩
 rw[VI (by simpa using j3) (by simpa using j4)]
 simp only[jK]
 rw[z5] at i4
 rw[<-i4,<-i3,<-i2,<-i1,<-i0]
 rfl
theorem dF{b v3 v4:List UInt8}{v0 v1 v2 er0 er1 er2 er3 er4:Int}{p0 p1 p2 p3 p4:Nat}
  (g0:J7 b 0 0 1=(v0,p0,er0)) (g1:J7 b p0 er0 1=(v1,p1,er1)) (g2:J7 b p1 er1 1=(v2,p2,er2)) (g3:Js b p2 er2 32=(v3,p3,er3)) (g4:Js b p3 er3 32=(v4,p4,er4)) :
  Fe b=if WT b p4 er4≠0 then(VH,WT b p4 er4) else if Bv ⟨v0,v1,v2,v3,v4⟩≠0 then(VH,Bv ⟨v0,v1,v2,v3,v4⟩) else(⟨v0,v1,v2,v3,v4⟩,0):=by
 simp only[Fe,g0,g1,g2,g3,g4]
structure Evi where
 machine:Int
 attest:List UInt8
 sig:List UInt8
 log:List UInt8
deriving DecidableEq
def A5d(x:Evi):Prop:=1<=x.machine/\x.machine<=4/\x.attest.length<=1024/\x.sig.length<=1024/\x.log.length<=8192
instance (x:Evi):Decidable (A5d x):=by unfold A5d;infer_instance
def A16(n:Nat)(b:List UInt8):List UInt8:=b.take n++(List.replicate n 0).drop b.length
theorem Di:(A16 n b).length=n:=by simp[A16];omega
def A5e(k a:Int)(pol:Bool):Int :=
 let x:=if k=2 then a else bits .andNot .i64 a 4
 if pol then x else bits .or .i64 x 1
def A17(p:Pub):Pub :=
  ⟨1+p.kind%3,A5e (1+p.kind%3) (p.attr%8) (decide (0<p.policy.length)),if 1+p.kind%3=2 then p.height%2 else 0,
   if 0<p.policy.length then CP p.policy else [],A16 (uniq (1+p.kind%3)).toNat p.unique⟩
def A18(p:Pub):Bool:=decide ((p.policy.length:Int)<=60)&&decide ((p.unique.length:Int)<=60)
def A3l(p q:Pub):Bool:=decide (p.kind=q.kind)&&(decide (p.attr=q.attr)&&(decide (p.height=q.height)&&(decide (p.policy=q.policy)&&decide (p.unique=q.unique))))
structure Idx where
 n:Int
 kind:Int
 attr:Int
 size:Int
 policy:List UInt8
 auth:List UInt8
 written:Bool
 data:List UInt8
def A2y(x:Idx):List UInt8:=CE [UInt8.ofInt x.n,UInt8.ofInt x.kind,UInt8.ofInt x.attr] 2 x.size++[if x.written then 1 else 0]
def nameB(p:Pub):List UInt8:=sha256 (Ar 6 [ES p])
def U8(x:Idx):List UInt8:=sha256 (Ar 7 [A2y x,x.policy])
def YK(h:Int):List UInt8:=if h<0\/3<h then [] else sha256 (Ar 11 [[UInt8.ofInt h]])
theorem EJ(x:Idx):(A2y x).length=6:=by rw[A2y,List.length_append,AB];rfl
structure Sen where
 auth:List UInt8
 seed:List UInt8
 data:List UInt8
abbrev dG(s:Sen):List AV:=[.sl .u8 s.auth,.sl .u8 s.seed,.sl .u8 s.data]
def SB:Sen:=⟨[],[],[]⟩
def H9:List UInt8:=[115,101,101,100]
def A3m:List UInt8:=[112,114,105,118,97,116,101]
def Em(kind h:Int)(s:Sen):List UInt8:=if kind=2 then Ed s.seed h else sha256 (Ar 13 [s.seed,s.data])
def Bq(secret:List UInt8)(p:Pub)(auth data:List UInt8):Pub×Sen×Int :=
 if Bv ⟨p.kind,p.attr,p.height,p.policy,List.replicate (uniq p.kind).toNat 0⟩≠0 then(VH,SB,Bv ⟨p.kind,p.attr,p.height,p.policy,List.replicate (uniq p.kind).toNat 0⟩)
 else if 32<auth.length\/128<data.length then(VH,SB,4)
 else if 0<data.length/\p.kind≠3 then(VH,SB,1)
 else(⟨p.kind,p.attr,p.height,p.policy,Em p.kind p.height ⟨auth,E5 secret H9 [] 32,data⟩⟩,⟨auth,E5 secret H9 [] 32,data⟩,0)
def wkey(par:Sen)(nm:List UInt8):List UInt8:=E5 par.seed A3m nm 32
def YL(s:Sen):List UInt8:=Jk (Jk (Jk [] s.auth) s.seed) s.data
def FH(par:Sen)(p:Pub)(s:Sen):List UInt8:=PT (wkey par (nameB p)) ((nameB p).take 16) (ES p) (YL s)
def uH(p:Pub)(b:List UInt8):Sen×Int :=
 let a:=Js b 0 0 32
 let d:=Js b a.2.1 a.2.2 32
 let t:=Js b d.2.1 d.2.2 128
 let e:=WT b t.2.1 t.2.2
 if e≠0 then(SB,e) else if p.unique≠Em p.kind p.height ⟨a.1,d.1,t.1⟩ then(SB,18) else(⟨a.1,d.1,t.1⟩,0)
def Eu(par:Sen)(p:Pub)(b:List UInt8):Sen×Int :=
 if(Jg (wkey par (nameB p)) (ES p) b).2≠0 then(SB,(Jg (wkey par (nameB p)) (ES p) b).2) else uH p (Jg (wkey par (nameB p)) (ES p) b).1
def A3n(a b:Sen):Bool:=decide (a.auth=b.auth)&&(decide (a.seed=b.seed)&&decide (a.data=b.data))
structure OkS (s:Sen):Prop where
 auth:s.auth.length<=32
 seed:s.seed.length=32
 data:s.data.length<=128
theorem uI(k h:Int)(s:Sen):(Em k h s).length<=32:=by
 unfold Em;split
 ·have:=uG s.seed h;omega
 ·rw[A7];exact Nat.le_refl _
theorem Ac(p:Pub):(nameB p).length=32:=A7 _
theorem BN(par:Sen)(nm:List UInt8):(wkey par nm).length=32:=Fq zaa
theorem A19{secret data:List UInt8}{p:Pub}(hc:Bv p=0)(ha:auth.length<=32)(hd:data.length<=128)(hk:0<data.length->p.kind=3):
  Bq secret p auth data=(⟨p.kind,p.attr,p.height,p.policy,Em p.kind p.height ⟨auth,E5 secret H9 [] 32,data⟩⟩,⟨auth,E5 secret H9 [] 32,data⟩,0):=by
 have h0:Bv ⟨p.kind,p.attr,p.height,p.policy,List.replicate (uniq p.kind).toNat 0⟩=0:=by
  have hu:=dD p.kind
  unfold Bv at hc ⊢
  split at hc
  ·simp at hc
  rename_i g1
  split at hc
  ·simp at hc
  rename_i g2
  split at hc
  ·simp at hc
  rename_i g3
  rw[if_neg g1,if_neg g2,if_neg]
  rintro(q|q|q|q|q)
  ·exact g3 (.inl q)
  ·exact g3 (.inr (.inl q))
  ·exact g3 (.inr (.inr (.inl q)))
  ·exact g3 (.inr (.inr (.inr (.inl q))))
  ·simp only[List.length_replicate] at q;omega
 rw[Bq,if_neg (by rw[h0];simp),if_neg zaa,if_neg (by intro q;exact q.2 (hk q.1))]
theorem PU{secret data:List UInt8}{p:Pub}:(Bq secret p auth data).1.unique.length<=32/\(Bq secret p auth data).1.policy.length<=p.policy.length/\(Bq secret p auth data).2.1.auth.length<=32/\(Bq secret p auth data).2.1.seed.length<=32/\(Bq secret p auth data).2.1.data.length<=128:=by
 unfold Bq
 split
 ·simp[VH,SB]
 ·split
  ·simp[VH,SB]
  ·split
   ·simp[VH,SB]
   ·have h1:=uI p.kind p.height ⟨auth,E5 secret H9 [] 32,data⟩
    have h2:=Fq (key:=secret) (label:=H9) (ctx:=[]) (n:=32) zaa
    refine⟨h1,Nat.le_refl _,?_,?_,?_⟩<;>simp only<;>omega
theorem YM{b v0 v1 v2:List UInt8}{er0 er1 er2:Int}{p0 p1 p2:Nat}{p:Pub}
  (g0:Js b 0 0 32=(v0,p0,er0)) (g1:Js b p0 er0 32=(v1,p1,er1)) (g2:Js b p1 er1 128=(v2,p2,er2)) :
  uH p b=if WT b p2 er2≠0 then(SB,WT b p2 er2) else if p.unique≠Em p.kind p.height ⟨v0,v1,v2⟩ then(SB,18) else(⟨v0,v1,v2⟩,0):=by
 simp only[uH,g0,g1,g2]
theorem lg0(x:α)(l:List α):BZ (x::l) 0=some x:=by rw[NG];simp[lget0]
theorem lg1(x y:α)(l:List α):BZ (x::y::l) 1=some y:=by rw[NG];simp[lget0]
theorem lg2(x y z:α)(l:List α):BZ (x::y::z::l) 2=some z:=by rw[NG];simp[lget0]
abbrev A4k(p:Pub)(s:Sen)(h:Int):El objT:=((p.kind,p.attr,p.height,p.policy,p.unique),(s.auth,s.seed,s.data),h)
def obj0:El objT:=((0,0,0,[],[]),([],[],[]),0)
def ses0:El sesT:=(0,[],[],0,0,0,0,false)
def EK:List (El objT)->Nat
 | []=>0
 | x::l=>if x.1.1=0 then 0 else EK l+1
theorem VJ:∀ l:List (El objT),EK l<=l.length
 | []=>Nat.le_refl _
 | x::l=>by have:=VJ l;unfold EK;split<;>simp<;>omega
def GK(ob:List (El objT))(h:Int):Option (El objT):=if 512<=h then(match ob[(h-512).toNat]? with|some x=>if x.1.1=0 then none else some x|none=>none) else none
def MJ:List UInt8:=[112,114,105,109,97,114,121]
def uJ:List UInt8:=[114,97,110,100,111,109]
def jL:List UInt8:=[101,110,116,114,111,112,121]
noncomputable def FK(seed:List UInt8)(k a h:Int)(o data:List UInt8):List UInt8:=E5 seed MJ (Ar 0 [[EM k,EM a,EM h],o,data]) 32
structure Ans where
 err:Int
 ints:List Int
 blobs:List (List UInt8)
def IU(ob:List (El objT))(p:Pub)(s:Sen)(h:Int)(blobs:List (List UInt8)):List (El objT)×Ans :=
 if EK ob<ob.length then(ob.set (EK ob) (A4k p s h),⟨0,[512+(EK ob:Int)],blobs⟩) else(ob,⟨25,[],[]⟩)
noncomputable def En(sd:List (List UInt8))(ob:List (El objT))(h k a t:Int)(o auth data:List UInt8):List (El objT)×Ans :=
  if 0<=h/\h<sd.length then
    (let m:=Bq (FK (sd.getD h.toNat []) k a t o data) ⟨k,a,t,o,[]⟩ auth data
     if m.2.2≠0 then(ob,⟨m.2.2,[],[]⟩) else IU ob m.1 m.2.1 h [ES m.1,nameB m.1])
  else(ob,⟨7,[],[]⟩)
def Nl(n:Nat)(j:Nat):List (List UInt8):=(List.range j).map fun i=>List.replicate n (if 12<=i then 255 else 0)
theorem nP:Nl n (j+1)=Nl n j++[List.replicate n (if 12<=j then 255 else 0)]:=by simp[Nl,List.range_succ]
theorem Aj:(Nl n j).length=j:=by simp[Nl]
def U9(n:Nat):List (List UInt8):=Nl n 16
def Ov(b:Int):Int:=if b=0 then 20 else if b=1 then 32 else 0
theorem jM(b:Int)(n j:Nat)(hn:(Ov b).toNat=n):BI (Nl n j) [List.replicate (Ov b).toNat (if(12:Int)<=(j:Int) then(255:UInt8) else 0)]=Nl n (j+1):=by
 rw[Aa,nP,hn]
 by_cases h:12<=j
 ·rw[if_pos zaa,if_pos h]
 ·rw[if_neg zaa,if_neg h]
theorem A2z(k:Nat)(x:UInt8):(List.replicate j x++List.replicate (k+1) 0).set j x=List.replicate (j+1) x++List.replicate k 0:=by
 rw[List.set_append_right _ _ zao]
 simp only[List.length_replicate,Nat.sub_self,List.replicate_succ,List.set_cons_zero]
 rw[<-List.replicate_succ,List.replicate_succ',List.append_assoc];rfl
def N8(ac:Int):List (List (List UInt8)):=if ac%4=0 then [] else [if ac%2=1 then U9 20 else [],if ac/2%2=1 then U9 32 else []]
def A4l:List UInt8:=CP [UInt8.ofNat 7]
def OO(en:List UInt8):List (List UInt8):=[E5 en H9 [0] 32,E5 en H9 [1] 32,E5 en H9 [2] 32]
def Vt(en:List UInt8)(re rs dr n:Int):List UInt8:=E5 en uJ (CE (CE (CE [] 8 re) 8 rs) 8 dr) n
def JL(par:Sen)(en:List UInt8)(re rs dr k a t:Int)(o auth data:List UInt8):Int×Ans :=
 let m:=Bq (Vt en re rs dr 32) ⟨k,a,t,o,[]⟩ auth data
 if m.2.2≠0 then(dr,⟨m.2.2,[],[]⟩) else(dr+1,⟨0,[],[ES m.1,FH par m.1 m.2.1]⟩)
def JZ(ob:List (El objT))(par:Sen)(hier:Int)(pub priv:List UInt8):List (El objT)×Ans :=
 if(Fe pub).2≠0 then(ob,⟨(Fe pub).2,[],[]⟩)
 else if(Eu par (Fe pub).1 priv).2≠0 then(ob,⟨(Eu par (Fe pub).1 priv).2,[],[]⟩)
 else IU ob (Fe pub).1 (Eu par (Fe pub).1 priv).1 hier [nameB (Fe pub).1]
def keyAt(u:List UInt8):List (El Ja)->Nat
 | []=>0
 | x::l=>if x.1=u then 0 else keyAt u l+1
def Ee(ks:List (El Ja))(u:List UInt8)(h:Int):List (El Ja)×Int×Int :=
 if keyAt u ks<ks.length then
  (if(2:Int)^h.toNat<=(ks.getD (keyAt u ks) ([],0)).2 then(ks,0,26) else(ks.set (keyAt u ks) ((ks.getD (keyAt u ks) ([],0)).1,(ks.getD (keyAt u ks) ([],0)).2+1),(ks.getD (keyAt u ks) ([],0)).2,0))
 else if 8<=ks.length then(ks,0,25) else(ks++[(u,1)],0,0)
theorem uK{sd:List (List UInt8)}{ob:List (El objT)}{h k a t:Int}{o d:List UInt8}(hh:0<=h/\h<sd.length)(hf:EK ob<ob.length)(hc:Bv ⟨k,a,t,o,List.replicate (uniq k).toNat 0⟩=0)(ha:auth.length<=32)(hd:d.length<=128)(hk:0<d.length->k=3):
  ∃ S,S=E5 (FK (sd.getD h.toNat []) k a t o d) H9 [] 32/\S.length=32/\En sd ob h k a t o auth d=(ob.set (EK ob) ((k,a,t,o,Em k t ⟨auth,S,d⟩),(auth,S,d),h),⟨0,[512+(EK ob:Int)],[ES ⟨k,a,t,o,Em k t ⟨auth,S,d⟩⟩,nameB ⟨k,a,t,o,Em k t ⟨auth,S,d⟩⟩]⟩):=by
 refine⟨_,rfl,Fq (n:=32) zaa,?_⟩
 have hm:=A19 (secret:=FK (sd.getD h.toNat []) k a t o d) hc ha hd hk
 unfold En
 rw[if_pos hh,show Bq (FK (sd.getD h.toNat []) k a t o d) ⟨k,a,t,o,[]⟩ auth d=Bq (FK (sd.getD h.toNat []) k a t o d) ⟨k,a,t,o,List.replicate (uniq k).toNat 0⟩ auth d from rfl,hm]
 simp only[ne_eq,not_true_eq_false,if_false]
 unfold IU
 rw[if_pos hf]
theorem wV(en:List UInt8):∀ l∈OO en,l.length<=1000:=by
 intro l hl
 simp only[OO,List.mem_cons,List.not_mem_nil,or_false] at hl
 rcases hl with rfl|rfl|rfl<;>(rw[Fq zaa];decide)
abbrev wW(a:Ans):List AV:=[.i a.err,.sl .i64 a.ints,.sl (.sl .u8) a.blobs,.sl (.sl .u8) []]
@[reducible] def sC (sd au:List (List UInt8)) (en:List UInt8) (ac re rs ck:Int) (od:Bool) (sb:List (List (List UInt8))) (su mc:Int) (ix:List (El H5)) (l1 l2 l3 l4 l5 l6:Int) (ks:List (El Ja)) (st sp:Bool) (rb:List (List (List UInt8))) (ru vc:Int) (sf:Bool) (dr:Int) (ss:List (El sesT)) (ob:List (El objT)) (rl wl:List Int):List AV:=[.sl (.sl .u8) sd,.sl (.sl .u8) au,.sl .u8 en,.i ac,.i re,.i rs,.i ck,.b od,.sl (.sl (.sl .u8)) sb,.i su,.i mc,.sl H5 ix,.i l1,.i l2,.i l3,.i l4,.i l5,.i l6,.sl Ja ks,.b st,.b sp,.sl (.sl (.sl .u8)) rb,.i ru,.i vc,.b sf,.i dr,.sl sesT ss,.sl objT ob,.sl .i64 rl,.sl .i64 wl]
@[reducible] def sX (sd au:List (List UInt8)) (en:List UInt8) (ac re rs ck:Int) (od:Bool) (sb:List (List (List UInt8))) (su mc:Int) (ix:List (El H5)) (l1 l2 l3 l4 l5 l6:Int) (ks:List (El Ja)) (st sp:Bool) (rb:List (List (List UInt8))) (ru vc:Int) (sf:Bool) (dr:Int) (ss:List (El sesT)) (ob:List (El objT)) (rl wl:List Int):AV:=.agg (sC sd au en ac re rs ck od sb su mc ix l1 l2 l3 l4 l5 l6 ks st sp rb ru vc sf dr ss ob rl wl)
theorem uM:(Fe b).1.policy.length<=32/\(Fe b).1.unique.length<=32:=by
 unfold Fe
 dsimp only
 split
 ·simp[VH]
 ·split
  ·simp[VH]
  ·rename_i h1 h2
   have:=dE (Classical.not_not.1 h2)
   exact⟨this.policy,this.unique⟩
abbrev Ah(E:Env)(q:Rq)(R:Option Rsp->Prop):Prop:=R (Y E q)
theorem CU{E:Env}{q:Rq}{R:Option Rsp->Prop}(h:∀ P:Option Rsp->Prop,(∀ r,R r->P r)->P (Y E q)):Ah E q R:=h R fun _ h=>h
structure MS where
 sd:List (List UInt8)
 au:List (List UInt8)
 en:List UInt8
 ac:Int
 re:Int
 rs:Int
 ck:Int
 od:Bool
 sb:List (List (List UInt8))
 su:Int
 mc:Int
 ix:List (El H5)
 l1:Int
 l2:Int
 l3:Int
 l4:Int
 l5:Int
 l6:Int
 ks:List (El Ja)
 st:Bool
 sp:Bool
 rb:List (List (List UInt8))
 ru:Int
 vc:Int
 sf:Bool
 dr:Int
 ss:List (El sesT)
 ob:List (El objT)
 rl:List Int
 wl:List Int
@[reducible] def cv (s:MS):List AV:=[.sl (.sl .u8) s.sd,.sl (.sl .u8) s.au,.sl .u8 s.en,.i s.ac,.i s.re,.i s.rs,.i s.ck,.b s.od,.sl (.sl (.sl .u8)) s.sb,.i s.su,.i s.mc,.sl H5 s.ix,.i s.l1,.i s.l2,.i s.l3,.i s.l4,.i s.l5,.i s.l6,.sl Ja s.ks,.b s.st,.b s.sp,.sl (.sl (.sl .u8)) s.rb,.i s.ru,.i s.vc,.b s.sf,.i s.dr,.sl sesT s.ss,.sl objT s.ob,.sl .i64 s.rl,.sl .i64 s.wl]
@[reducible] def av (s:MS):AV:=.agg (cv s)
@[reducible] def rq (c:Int) (hs:List Int) (az:List (El Aq)) (is:List Int) (bs:List (List UInt8)):AV:=.agg [.i c,.sl .i64 hs,.sl Aq az,.sl .i64 is,.sl (.sl .u8) bs]
@[reducible] def rp (e:Int) (is:List Int) (bs ns:List (List UInt8)):AV:=.agg [.i e,.sl .i64 is,.sl (.sl .u8) bs,.sl (.sl .u8) ns]
@[reducible] def lU (n k a z:Int) (p u:List UInt8) (w:Bool) (d:List UInt8):AV:=.agg [.i n,.i k,.i a,.i z,.sl .u8 p,.sl .u8 u,.b w,.sl .u8 d]
@[reducible] def seA (k:Int) (n d:List UInt8) (u l c e:Int) (b:Bool):AV:=.agg [.i k,.sl .u8 n,.sl .u8 d,.i u,.i l,.i c,.i e,.b b]
@[reducible] def obA (k a h:Int) (p u x y z:List UInt8) (r:Int):AV:=.agg [.i k,.i a,.i h,.sl .u8 p,.sl .u8 u,.sl .u8 x,.sl .u8 y,.sl .u8 z,.i r]
def NQ(l1 l2 l3 l4 l5 l6:Int):Prop:=0<=l1/\l1<=1000/\0<=l2/\l2<=1000/\0<=l3/\l3<=2000000/\0<=l4/\l4<=1125899906842624/\0<=l5/\l5<=4503599627370496/\0<=l6/\l6<=2000000
def CX(n k:Int)(p u d:List UInt8):Prop:=0<=n/\n<=255/\p.length<=32/\u.length<=32/\d.length<=128/\(k≠3\/d.length=8)
def GL(x:El H5):Prop:=CX x.1 x.2.1 x.2.2.2.2.1 x.2.2.2.2.2.1 x.2.2.2.2.2.2.2
def DI(u:List UInt8)(n:Int):Prop:=u.length<=32/\0<=n/\n<=1000
def G6(x:El Ja):Prop:=DI x.1 x.2
def DJ(n d:List UInt8)(l:Int):Prop:=n.length<=32/\d.length<=32
def Gn(x:El sesT):Prop:=DJ x.2.1 x.2.2.1 x.2.2.2.2.1
def D8(p u e s d:List UInt8)(t:Int):Prop:=p.length<=32/\u.length<=32/\e.length<=32/\s.length<=32/\d.length<=128/\0<=t/\t<=3
def FZ(x:El objT):Prop:=D8 x.1.2.2.2.1 x.1.2.2.2.2 x.2.1.1 x.2.1.2.1 x.2.1.2.2 x.1.2.2.1
def FY(n:Nat)(b:List (List UInt8)):Prop:=b.length=16/\∀ x∈b,x.length=n
def Ox(a:Int)(rb:List (List (List UInt8))):Prop:=rb=[]\/∃ b0 b1,rb=[b0,b1]/\(b0=[]\/FY 20 b0)/\(b1=[]\/FY 32 b1)/\(a/2%2=1->FY 32 b1)
structure Kp (a k:Int) (s:MS):Prop where
 sdl:s.sd.length=3
 sdm:∀ x∈s.sd,x.length=32
 aul:s.au.length=4
 aum:∀ x∈s.au,x.length<=32
 en:s.en.length=32
 ac:s.ac=a/\0<=a/\a<=3
 kk:0<=k/\k<=1000
 re:0<=s.re/\s.re<=k
 rs:0<=s.rs/\s.rs<=k
 ck:0<=s.ck/\s.ck<=1099511627776
 sb:Ox a s.sb
 su:0<=s.su/\s.su<=k
 ixl:s.ix.length<=6
 ixm:∀ x∈s.ix,GL x
 lk:NQ s.l1 s.l2 s.l3 s.l4 s.l5 s.l6
 ksl:s.ks.length<=8
 ksm:∀ x∈s.ks,G6 x
 rb:Ox a s.rb
 st:s.st=true->a/2%2=1->s.rb≠[]
 ru:0<=s.ru/\s.ru<=k
 vc:0<=s.vc/\s.vc<=1099511627776
 dr:0<=s.dr/\s.dr<=k
 ssl:s.ss.length=3
 ssm:∀ x∈s.ss,Gn x
 obl:s.ob.length=3
 obm:∀ x∈s.ob,FZ x
 rl:(s.rl.length:Int)<=k
 wl:(s.wl.length:Int)<=k
theorem Kp.up{a k k':Int}{s:MS}(h:Kp a k s)(hk:k<=k'/\k'<=1000):Kp a k' s:=by
 obtain⟨h1,h2,h3,h4,h5,h6,h7,h8,h9,h10,h11,h12,h13,h14,h15,h16,h17,h18,h19,h20,h21,h22,h23,h24,h25,h26,h27,h28⟩:=h
 exact⟨h1,h2,h3,h4,h5,h6,by omega,by omega,by omega,h10,h11,by omega,h13,h14,h15,h16,h17,h18,h19,by omega,h21,by omega,h23,h24,h25,h26,by omega,by omega⟩
theorem EL{i:Int}(h:0<=i/\i<l.length):∃ x,x∈l/\BZ l i=some x:=⟨l[i.toNat]'zaa,List.getElem_mem _,E8 h⟩
theorem jO{i:Int}{x:α}{p:α->Prop}(h:∀ y∈l,p y)(hx:p x):(Bf l i x).length=l.length/\∀ y∈Bf l i x,p y:=by
 rw[G5]
 refine⟨by simp,fun y hy=>?_⟩
 rcases List.mem_or_eq_of_mem_set hy with hy|rfl
 ·exact h y hy
 ·exact hx
theorem A1B{n:Int}{x:α}{p:α->Prop}(hn:0<=n)(hx:p x):((Bd n x).length:Int)=n/\∀ y∈Bd n x,p y:=by
 rw[Fz]
 refine⟨by simp;omega,fun y hy=>?_⟩
 rw[List.eq_of_mem_replicate hy];exact hx
theorem A5f{m:List α}{p:α->Prop}(h:∀ y∈l,p y)(hm:∀ y∈m,p y):(BI l m).length=l.length+m.length/\∀ y∈BI l m,p y:=by
 rw[Aa]
 refine⟨by simp,fun y hy=>?_⟩
 rcases List.mem_append.1 hy with hy|hy
 ·exact h y hy
 ·exact hm y hy
def shp(c:Int):Option (Nat×Nat×Nat×Int) :=
 if c=1 then some (0,0,1,0) else if c=2 then some (0,0,1,0) else if c=4 then some (0,0,0,0) else if c=5 then some (0,0,2,0) else if c=6 then some (0,0,1,2) else if c=7 then some (0,0,1,1)
 else if c=8 then some (0,0,1,0) else if c=9 then some (1,1,3,3) else if c=10 then some (1,1,3,3) else if c=11 then some (1,1,0,2) else if c=12 then some (0,0,1,0) else if c=13 then some (1,1,0,0)
 else if c=14 then some (1,1,0,1) else if c=15 then some (1,1,2,1) else if c=16 then some (0,0,1,0) else if c=17 then some (0,0,6,-1) else if c=18 then some (1,1,2,1) else if c=19 then some (0,0,1,3)
 else if c=20 then some (0,0,1,0) else if c=21 then some (1,1,4,2) else if c=22 then some (1,1,1,0) else if c=23 then some (2,1,1,1) else if c=24 then some (2,1,2,0) else if c=25 then some (2,1,0,0)
 else if c=26 then some (2,1,0,1) else if c=27 then some (2,1,0,1) else if c=28 then some (2,1,0,0) else if c=29 then some (2,1,0,0) else if c=30 then some (1,1,0,1) else if c=31 then some (1,1,0,0)
 else if c=32 then some (1,1,0,0) else if c=33 then some (1,1,3,0) else none
structure Few (hs:List Int) (az:List (El Aq)) (is:List Int) (bs:List (List UInt8)):Prop where
 hl:hs.length<=10
 al:az.length<=10
 am:∀ x∈az,x.2.1.length<=1000/\x.2.2.length<=1000
 il:is.length<=10
 bl:bs.length<=10
 bm:∀ x∈bs,x.length<=2000
structure Rok (c:Int) (hs:List Int) (az:List (El Aq)) (is:List Int) (bs:List (List UInt8)):Prop where
 few:Few hs az is bs
 sh:∃ n,shp c=some (hs.length,az.length,is.length,n)/\((bs.length:Int)=n\/n = -1/\bs.length<=8)
 hm:∀ x∈hs,0<=x/\x<=65535
 am:∀ x∈az,0<=x.1/\x.1<=65535
 im:∀ x∈is,0<=x/\x<=1099511627776
 bm:∀ x∈bs,x.length<=1024
theorem A8{p:Prop}(h:p:=by first|omega|decide|assumption|(simp only[AQ,A7,EE,Ak,Ai,Ag,Ac,BN,AP,Cc,Cb,AB,AC,AO,Aj,BP,BU,BV,BR,BC,Ci,D5,CZ,Bc,Di,EJ,MI,J9,GU,Ie,LL] at *<;>omega)|(simp;omega)):p:=h
theorem clo{p:Prop}(h:p:=by(repeat' apply And.intro)<;>first|assumption|omega|(intros;first|assumption|omega)|(intros;(repeat' apply And.intro)<;>first|assumption|omega)|(intros;simp only[AQ,A7,EE,Ak,Ai,Ag,Ac,BN,AP,Cc,Cb,AB,AC,AO,Aj,BP,BU,BV,BR,BC,Ci,D5,CZ,Bc,Di,EJ,MI,J9,GU,Ie,LL] at *<;>omega)|exact Kp.up zat zaa|decide|(intros;simp;done)):p:=h
theorem twe{a b:α}(e:MV a b:=by(try rewrite[Xn]);(try rewrite[Xo]);(conv=>arg 1;whnf);(repeat first|(dsimp -iota -beta -eta -zeta only)|((first|rewrite[DY A8]|rewrite[MC A8]|rewrite[Gy A8]|rewrite[EN]|rewrite[OB]|rewrite[S9 Tv]|rewrite[SA Tv]|rewrite[Xp]|rewrite[Xq]|rewrite[Xr]|rewrite[Y_go2]|rewrite[Y_go3]|rewrite[Y_go4]|rewrite[decide_eq_true A8]|rewrite[decide_eq_false A8]|rewrite[ET A8]|rewrite[G8 A8]|rewrite[Gj A8]|rewrite[Ql A8]|rewrite[ER A8]|rewrite[AA A8]|rewrite[Fa A8]|rewrite[EC A8]|rewrite[Xh A8]|rewrite[Xi A8]|rewrite[Ry rfl]|rewrite[drw zas]|rewrite[Jd rfl]|rewrite[MB]|rewrite[MG A8]|rewrite[Jq A8]|rewrite[lg0]|rewrite[lg1]|rewrite[lg2]);(conv=>arg 1;whnf))|rewrite[JQ]|rewrite[Ia]|rewrite[Ju]|rewrite[Jv]|rewrite[Jw]|rewrite[Jy]|rewrite[JE]|rewrite[JF]|rewrite[JG]|rewrite[JH]|rewrite[JI]|rewrite[Hf]|((first|rewrite[Aw A8]|rewrite[Ce A8]|rewrite[GR A8]);try dsimp -iota -beta -eta -zeta only[Int.reduceAdd,Int.reduceSub,Int.reduceMul])|rewrite[Ei A8]|rewrite[Ez A8]|rewrite[Td A8]|rewrite[Tf A8]|rewrite[QK A8]|rewrite[AU]|rewrite[EY]);exact MV.rf _):MV a b:=e
theorem tw{P:α->Prop}{a b:α}(h:P b)(e:MV a b:=by exact twe):P a:=by rw[MV.eq e];exact h
theorem Am{β:Type}{P:α->Prop}{a b:α}{x y:β}(z:x=y)(h:P b)(e:x=y->MV a b:=by intro z;rewrite[z];clear z;exact twe):P a:=by rw[MV.eq (e z)];exact h
theorem tve{a b:α}(e:MV a b:=by(try rewrite[Xn]);(try rewrite[Xo]);(conv=>arg 1;whnf);(repeat first|(dsimp -iota -beta -eta -zeta only)|((first|rewrite[DY A8]|rewrite[MC A8]|rewrite[Gy A8]|rewrite[EN]|rewrite[OB]|rewrite[S9 Tv]|rewrite[SA Tv]|rewrite[Xp]|rewrite[Xq]|rewrite[Xr]|rewrite[Y_go2]|rewrite[Y_go3]|rewrite[Y_go4]|rewrite[decide_eq_true A8]|rewrite[decide_eq_false A8]|rewrite[ET A8]|rewrite[G8 A8]|rewrite[Gj A8]|rewrite[Ql A8]|rewrite[ER A8]|rewrite[AA A8]|rewrite[Fa A8]|rewrite[EC A8]|rewrite[Xh A8]|rewrite[Xi A8]|rewrite[Ry rfl]|rewrite[drw zas]|rewrite[Jd rfl]|rewrite[MB]|rewrite[MG A8]|rewrite[Jq A8]|rewrite[lg0]|rewrite[lg1]|rewrite[lg2]);(conv=>arg 1;whnf))|rewrite[JQ]|rewrite[Ia]|rewrite[Ju]|rewrite[Jv]|rewrite[Jw]|rewrite[Jy]|rewrite[JE]|rewrite[JF]|rewrite[JG]|rewrite[JH]|rewrite[JI]|rewrite[Hf]|rewrite[AU]|rewrite[EY]);exact MV.rf _):MV a b:=e
theorem tv{P:α->Prop}{a b:α}(h:P b)(e:MV a b:=by exact tve):P a:=by rw[MV.eq e];exact h
theorem tvn{β:Type}{P:α->Prop}{a b:α}{x y:β}(z:x=y)(h:P b)(e:x=y->MV a b:=by intro z;rewrite[z];clear z;exact tve):P a:=by rw[MV.eq (e z)];exact h
theorem tqe{a b:α}(e:MV a b:=by(try rewrite[Xn]);(try rewrite[Xo]);(conv=>arg 1;whnf);(repeat first|(dsimp -iota -beta -eta -zeta only)|((first|rewrite[DY A8]|rewrite[MC A8]|rewrite[Gy A8]|rewrite[EN]|rewrite[OB]|rewrite[S9 Tv]|rewrite[SA Tv]|rewrite[Xp]|rewrite[Xq]|rewrite[Xr]|rewrite[Y_go2]|rewrite[Y_go3]|rewrite[Y_go4]|rewrite[decide_eq_true A8]|rewrite[decide_eq_false A8]|rewrite[ET A8]|rewrite[G8 A8]|rewrite[Gj A8]|rewrite[Ql A8]|rewrite[ER A8]|rewrite[AA A8]|rewrite[Fa A8]|rewrite[EC A8]|rewrite[Xh A8]|rewrite[Xi A8]|rewrite[Ry rfl]|rewrite[drw zas]|rewrite[Jd rfl]|rewrite[MB]|rewrite[MG A8]|rewrite[Jq A8]|rewrite[lg0]|rewrite[lg1]|rewrite[lg2]|rewrite[GY A8]);(conv=>arg 1;whnf))|rewrite[JQ]|rewrite[Ia]|rewrite[Ju]|rewrite[Jv]|rewrite[Jw]|rewrite[Jy]|rewrite[JE]|rewrite[JF]|rewrite[JG]|rewrite[JH]|rewrite[JI]|rewrite[Hf]|rewrite[Aw A8]|rewrite[Ce A8]|rewrite[GR A8]|rewrite[Ei A8]|rewrite[Ez A8]|rewrite[Td A8]|rewrite[Tf A8]|rewrite[QK A8]|rewrite[AU]|rewrite[EY]);exact MV.rf _):MV a b:=e
theorem tq{a b c:α}(h:b=c)(e:MV a b:=by exact tqe):a=c:=(MV.eq e).trans h
theorem toe{a b:α}(e:MV a b:=by(try rewrite[Xn]);(try rewrite[Xo]);(conv=>arg 1;whnf);(repeat first|(dsimp -iota -beta -eta -zeta only)|((first|rewrite[DY A8]|rewrite[MC A8]|rewrite[Gy A8]|rewrite[EN]|rewrite[OB]|rewrite[S9 Tv]|rewrite[SA Tv]|rewrite[Xp]|rewrite[Xq]|rewrite[Xr]|rewrite[Y_go2]|rewrite[Y_go3]|rewrite[Y_go4]|rewrite[decide_eq_true A8]|rewrite[decide_eq_false A8]|rewrite[ET A8]|rewrite[G8 A8]|rewrite[Gj A8]|rewrite[Ql A8]|rewrite[ER A8]|rewrite[AA A8]|rewrite[Fa A8]|rewrite[EC A8]|rewrite[Xh A8]|rewrite[Xi A8]|rewrite[Ry rfl]|rewrite[drw zas]|rewrite[Jd rfl]|rewrite[MB]|rewrite[MG A8]|rewrite[Jq A8]|rewrite[lg0]|rewrite[lg1]|rewrite[lg2]);(conv=>arg 1;whnf))|rewrite[JQ]|rewrite[Ia]|rewrite[Ju]|rewrite[Jv]|rewrite[Jw]|rewrite[Jy]|rewrite[JE]|rewrite[JF]|rewrite[JG]|rewrite[JH]|rewrite[JI]|rewrite[Hf]|rewrite[Aw A8]|rewrite[Ce A8]|rewrite[GR A8]|rewrite[Ei A8]|rewrite[Ez A8]|rewrite[Td A8]|rewrite[Tf A8]|rewrite[QK A8]|rewrite[AU]|rewrite[EY]);exact MV.rf _):MV a b:=e
theorem to{a b c:α}(h:b=c)(e:MV a b:=by exact toe):a=c:=(MV.eq e).trans h
theorem tpe{a b:α}(e:MV a b:=by(try rewrite[Xn]);(try rewrite[Xo]);(conv=>arg 1;whnf);(repeat first|(dsimp -iota -beta -eta -zeta only)|((first|rewrite[DY A8]|rewrite[MC A8]|rewrite[Gy A8]|rewrite[EN]|rewrite[OB]|rewrite[S9 Tv]|rewrite[SA Tv]|rewrite[Xp]|rewrite[Xq]|rewrite[Xr]|rewrite[Y_go2]|rewrite[Y_go3]|rewrite[Y_go4]|rewrite[decide_eq_true A8]|rewrite[decide_eq_false A8]|rewrite[ET A8]|rewrite[G8 A8]|rewrite[Gj A8]|rewrite[Ql A8]|rewrite[ER A8]|rewrite[AA A8]|rewrite[Fa A8]|rewrite[EC A8]|rewrite[Xh A8]|rewrite[Xi A8]|rewrite[Ry rfl]|rewrite[drw zas]|rewrite[Jd rfl]|rewrite[MB]|rewrite[MG A8]|rewrite[Jq A8]|rewrite[lg0]|rewrite[lg1]|rewrite[lg2]|rewrite[GY A8]);(conv=>arg 1;whnf))|rewrite[JQ]|rewrite[Ia]|rewrite[Ju]|rewrite[Jv]|rewrite[Jw]|rewrite[Jy]|rewrite[JE]|rewrite[JF]|rewrite[JG]|rewrite[JH]|rewrite[JI]|rewrite[Hf]|rewrite[AU]|rewrite[EY]);exact MV.rf _):MV a b:=e
theorem tp{a b c:α}(h:b=c)(e:MV a b:=by exact tpe):a=c:=(MV.eq e).trans h
end Go.Ax
namespace Go.Proofs.YtnhgnfdbdflhcaaGreatDoor
open Go Go.Ax Go.Eng
variable (h:List UInt32)(p:List UInt8)
section
attribute [local irreducible] Cj Dt D9 DT DK BH Du Ey Fh FD Et D7 CV Df DX and' Dk DU CG Ba Bl CJ CS BK BM BB BG Dv G7 Dw EM Dl Bh CO Bz C9 Bo BD Bi BO Be BZ Dx Bf DL Bd BI D6 Dy fits Dz Dn AZ Ap BL
attribute [local irreducible] KU Eh GX FU Dp Sm
theorem A3g(h:List UInt32)(p b:List UInt8)(a:Nat)(ha:a+64<=p.length)(hp:p.length<=8589934592)(hb:b=List.take ((a:Int)+64-a).toNat (List.drop (a:Int).toNat p)):∀(k t:Nat) (ws:List UInt32),t+k=80->ws.length=80->ws.take t=KR b t->Y E0 (.loop 315 1 0 1 [(3,.sl .u32 h),(4,.sl .u8 p),(5,.i a),(6,.pa 0 0),(7,.i t)] [(0,some (.var (FU ws)))])=some (.fin (.exit 2) 1 [(3,.sl .u32 h),(4,.sl .u8 p),(5,.i a),(6,.pa 0 0)] [(0,some (.var (FU (KR b 80))))])
 | 0,t,ws,hk,hw,hs=>by
  have e:ws=KR b 80:=zbi
  rw[<-e]
  rw[Ae];conv=>lhs;whnf
  refine BQ ?_
  ((conv in(close _ _ _ _)=>skip);conv=>lhs;rw[Cf hw])
  refine BQ ?_
  rw[Cf hw];rfl
 | k+1,t,ws,hk,hw,hs=>by
  have ih:=fun x (hx:x=X4 b (KR b t) t)=>A3g h p b a ha hp hb k (t+1) (ws.set t x) zaa (by simpa using hw) zbo
  rw[Ae];conv=>lhs;whnf
  refine BQ ?_
  rcases AY (↑t) 16 with hc0|hc0
  ·
   refine BQ ?_
   rw[iZ _ _ DZ DZ]
   conv=>lhs;whnf
   try dsimp -iota -beta -eta -zeta only
   rw[Gj zaa]
   conv=>lhs;whnf
   rw[ET zaa]
   conv=>lhs;whnf
   try dsimp -iota -beta -eta -zeta only
   rw[JS zaa];conv=>lhs;whnf
   rw[Kr zaa]
   refine BQ ?_
   ((conv in(close _ _ _ _)=>skip);conv=>lhs;rw[Ik hw])
   refine BQ ?_
   rw[show((t:Int)+1)=((t+1:Nat):Int) from by omega,show 0+((t:Nat):Int).toNat*1=t from by omega,<-hb];refine(congrArg (Y E0) ?_).trans (ih (be32 b (4*t)) (by rw[X4,if_pos zaa]));rw[Ik hw];rfl
  refine BQ ?_
  rw[Dh zaa]
  refine BQ ?_
  rw[Dh zaa]
  refine BQ ?_
  rw[Dh zaa]
  refine BQ ?_
  rw[Dh zaa]
  refine BQ ?_
  rw[A4W _]
  conv=>lhs;whnf
  try dsimp -iota -beta -eta -zeta only
  rw[Gj zaa]
  conv=>lhs;whnf
  rw[ET zaa]
  conv=>lhs;whnf
  try dsimp -iota -beta -eta -zeta only
  rw[JS zaa];conv=>lhs;whnf
  rw[Kr zaa]
  refine BQ ?_
  ((conv in(close _ _ _ _)=>skip);conv=>lhs;rw[Ik hw])
  refine BQ ?_
  rw[show((t:Int)+1)=((t+1:Nat):Int) from by omega,show 0+((t:Nat):Int).toNat*1=t from by omega];refine(congrArg (Y E0) ?_).trans (ih _ (nx1 b ws t hs zaa));rw[Ik hw];rfl
theorem A4d(b:List UInt8)(a:Nat)(ha:a+64<=p.length)(hp:p.length<=8589934592)(hb:b=List.take ((a:Int)+64-a).toNat (List.drop (a:Int).toNat p)):Y E0 (.loop 315 1 0 1 [(3,.sl .u32 h),(4,.sl .u8 p),(5,.i a),(6,.pa 0 0),(7,.i 0)] [(0,some (.var (List.replicate 80 (.u32 0))))])=some (.fin (.exit 2) 1 [(3,.sl .u32 h),(4,.sl .u8 p),(5,.i a),(6,.pa 0 0)] [(0,some (.var ((List.range 80).map fun i=>AV.u32 ((KR b 80).getD i 0))))]):=by
 have e:=A3g h p b a ha hp hb 80 0 (List.replicate 80 0) rfl rfl rfl
 rw[Cf (ws:=List.replicate 80 0) (n:=80) rfl,Cf (Sj b 80)] at e
 exact e
end
section
attribute [local irreducible] Cj Dt D9 DT DK BH Du Ey Fh FD Et D7 CV Df DX and' Dk DU CG Ba Bl CJ CS BK BM BB BG Dv G7 Dw EM Dl Bh CO Bz C9 Bo BD Bi BO Be BZ Dx Bf DL Bd BI D6 Dy fits Dz Dn AZ Ap BL
attribute [local irreducible] KU Eh GX FU Dp Sm
theorem A5a(i:Int)(ws:List UInt32)(hw:ws.length=80){G:S5->Option Rsp}(t:Nat)(a b c d e f q:UInt32)(ht:t<80)(hr:∀ s:S5,Y E0 (.loop 315 2 0 1 [(3,.sl .u32 h),(4,.sl .u8 p),(5,.i i),(6,.pa 0 0),(8,.u32 s.a),(9,.u32 s.b),(10,.u32 s.c),(11,.u32 s.d),(12,.u32 s.e),(13,.i (t+1:Nat))] [(0,some (.var (FU ws)))])=G s)(hf:f=f1 t b c d)(hq:q=k1 t):Y E0 (.drw ⟨161,315,0⟩ [true,true,true,false,true,false,false,true,false,false,true,true,true,false,true,false,false,true,false,false,true,true,false] 0 [] [.seq [true,true,true,false,true,false,false,true,false,false,true,true,true,false,true,false,false,true,false,false,true,true,true] 3,.blk 5,.seq [true,true,true,false,true,false,false,true,false,false,true,true,true,false,true,false,false,true,true] 3,.lup 2] 1 [(3,.sl .u32 h),(4,.sl .u8 p),(5,.i i),(6,.pa 0 0),(8,.u32 a),(9,.u32 b),(10,.u32 c),(11,.u32 d),(12,.u32 e),(13,.i t),(14,.u32 f),(15,.u32 q)] [(0,some (.var (FU ws)))])=G (Sm t (ws.getD t 0) ⟨a,b,c,d,e⟩):=by
 rw[tV t _ a b c d e f q hf hq]
 rw[Ae];conv=>lhs;whnf
 refine BQ ?_
 rw[A4X _]
 refine BQ ?_
 rw[Dh zaa]
 refine BQ ?_
 rw[A2r _]
 refine BQ ?_
 ((conv in(close _ _ _ _)=>skip);rw[Cf hw])
 refine BQ ?_
 rw[show((t:Int)+1)=((t+1:Nat):Int) from by omega];simp only[Ib,show 0+(t:Int).toNat*1=t from by omega];exact(congrArg (Y E0) za2).trans (hr ⟨_,_,_,_,_⟩)
theorem A3h(h:List UInt32)(p:List UInt8)(i:Int)(ws:List UInt32)(hw:ws.length=80):∀(k t:Nat) (s:S5),t+k=80->Y E0 (.loop 315 2 0 1 [(3,.sl .u32 h),(4,.sl .u8 p),(5,.i i),(6,.pa 0 0),(8,.u32 s.a),(9,.u32 s.b),(10,.u32 s.c),(11,.u32 s.d),(12,.u32 s.e),(13,.i t)] [(0,some (.var (FU ws)))])=some (.fin (.exit 4) 0 [(3,.sl .u32 h),(4,.sl .u8 p),(5,.i i),(8,.u32 (Dp ws k t s).a),(9,.u32 (Dp ws k t s).b),(10,.u32 (Dp ws k t s).c),(11,.u32 (Dp ws k t s).d),(12,.u32 (Dp ws k t s).e)] [])
 | 0,t,s,hk=>by
  rw[Ae];conv=>lhs;whnf
  refine BQ ?_
  unfold Dp;rfl
 | k+1,t,⟨a,b,c,d,e⟩,hk=>by
  have ih:=fun f q=>A5a h p i ws hw t a b c d e f q zaa (fun s=>A3h h p i ws hw k (t+1) s zaa)
  rw[show Dp ws (k+1) t ⟨a,b,c,d,e⟩=Dp ws k (t+1) (Sm t (ws.getD t 0) ⟨a,b,c,d,e⟩) from by rw[Dp]]
  rw[Ae];conv=>lhs;whnf
  refine BQ ?_
  rcases AY (↑t) 20 with hc0|hc0
  ·
   refine BQ ?_
   ((conv in(close _ _ _ _)=>skip);rw[Cf hw])
   conv=>lhs;whnf
   exact(congrArg (Y E0) za2).trans (ih _ _ zaj zai)
  refine BQ ?_
  rcases AY (↑t) 40 with hc1|hc1
  ·
   refine BQ ?_
   ((conv in(close _ _ _ _)=>skip);rw[Cf hw])
   conv=>lhs;whnf
   exact(congrArg (Y E0) za2).trans (ih _ _ zaj zai)
  refine BQ ?_
  rcases AY (↑t) 60 with hc2|hc2
  ·
   refine BQ ?_
   ((conv in(close _ _ _ _)=>skip);rw[Cf hw])
   conv=>lhs;whnf
   exact(congrArg (Y E0) za2).trans (ih _ _ zaj zai)
  refine BQ ?_
  ((conv in(close _ _ _ _)=>skip);rw[Cf hw])
  conv=>lhs;whnf
  exact(congrArg (Y E0) za2).trans (ih _ _ zaj zai)
theorem A4e(i:Int)(ws:List UInt32)(hw:ws.length=80)(h0 h1 h2 h3 h4:UInt32):Y E0 (.loop 315 2 0 1 [(3,.sl .u32 h),(4,.sl .u8 p),(5,.i i),(6,.pa 0 0),(8,.u32 h0),(9,.u32 h1),(10,.u32 h2),(11,.u32 h3),(12,.u32 h4),(13,.i 0)] [(0,some (.var ((List.range 80).map fun i=>.u32 (ws.getD i 0))))])=some (.fin (.exit 4) 0 [(3,.sl .u32 h),(4,.sl .u8 p),(5,.i i),(8,.u32 (Dp ws 80 0 ⟨h0,h1,h2,h3,h4⟩).a),(9,.u32 (Dp ws 80 0 ⟨h0,h1,h2,h3,h4⟩).b),(10,.u32 (Dp ws 80 0 ⟨h0,h1,h2,h3,h4⟩).c),(11,.u32 (Dp ws 80 0 ⟨h0,h1,h2,h3,h4⟩).d),(12,.u32 (Dp ws 80 0 ⟨h0,h1,h2,h3,h4⟩).e)] []):=by
 have e:=A3h h p i ws hw 80 0 ⟨h0,h1,h2,h3,h4⟩ rfl
 rw[Cf hw] at e
 exact e
theorem A3i(p:List UInt8)(hp:p.length<=8589934592):∀(n a:Nat) (h0 h1 h2 h3 h4:UInt32),a+64*n=p.length->Y E0 (.loop 315 0 0 0 [(3,.sl .u32 [h0,h1,h2,h3,h4]),(4,.sl .u8 p),(5,.i a)] [])=some (.fin (.exit 0) 0 [(3,.sl .u32 (GX KU n [h0,h1,h2,h3,h4] (p.drop a)))] [])
 | 0,a,h0,h1,h2,h3,h4,hn=>by
  rw[Ae];conv=>lhs;whnf
  refine BQ ?_
  rw[GX]
 | n+1,a,h0,h1,h2,h3,h4,hn=>by
  have ih:=A3i p hp n (a+64) _ _ _ _ _ zaa |>.trans (by rw[<-tX h0 h1 h2 h3 h4 ((p.drop a).take 64)])
  have e:=A4d [h0,h1,h2,h3,h4] p _ a zaa hp rfl
  have f:=A4e [h0,h1,h2,h3,h4] p a (KR (List.take ((a:Int)+64-a).toNat (List.drop (a:Int).toNat p)) 80) (Sj _ _) h0 h1 h2 h3 h4
  rw[Ae];conv=>lhs;whnf
  refine BQ ?_
  (erw[e])
  refine BQ ?_
  rw[A3b]
  refine BQ ?_
  rw[A3c]
  refine BQ ?_
  rw[A3d]
  refine BQ ?_
  rw[A3e]
  refine BQ ?_
  rw[A3f]
  refine BQ ?_
  (erw[f])
  refine BQ ?_
  rw[A3b]
  refine BQ ?_
  rw[A3c]
  refine BQ ?_
  rw[A3d]
  refine BQ ?_
  rw[A3e]
  refine BQ ?_
  rw[A3f]
  refine BQ ?_
  rw[A0q,show((a:Int)+64)=((a+64:Nat):Int) from by omega];simp only[Ib];exact ih.trans (by rw[GX,List.drop_drop])
theorem A2u(l:List UInt8)(hl:l.length<=4294967296):Y E0 (.call 315 [.sl .u8 l] [])=some (.ret (.sl .u8 (sha1 l)) []):=by
 have hp:=X3 l
 have e:=A3i (MQ l) zaa ((MQ l).length/64) 0 1732584193 4023233417 2562383102 271733878 3285377520 zaa
 have hf:=Jn (m:=5) (fun h b _=>Q5 h b) ((MQ l).length/64) [1732584193,4023233417,2562383102,271733878,3285377520] (List.drop 0 (MQ l)) rfl
 refine BQ ?_
 rw[tY _ DZ]
 refine BQ ?_
 (erw[e])
 refine BQ ?_
 rw[ik _ DZ]
 refine BQ ?_
 rfl
end
end Go.Proofs.YtnhgnfdbdflhcaaGreatDoor
namespace Go.Proofs.YtnhgnfdbdflhcaaGreatDoor
open Go Go.RowKit Go.Eng Go.Ax
theorem JU(l:List UInt8)(hl:l.length<=4294967296):Y E0 (.call 159 [.i 1,.sl .u8 l] [])=some (.ret (.sl .u8 (sha256 l)) []):=wM 1 l hl
end Go.Proofs.YtnhgnfdbdflhcaaGreatDoor
namespace Go.Proofs.YtnhgnfdbdflhcaaGreatDoor
open Go Go.Ax
section
attribute [local irreducible] Cj Dt D9 DT DK BH Du Ey Fh FD Et D7 CV Df DX and' Dk DU CG Ba Bl CJ CS BK BM BB BG Dv G7 Dw EM Dl Bh CO Bz C9 Bo BD Bi BO Be BZ Dx Bf DL Bd BI D6 Dy fits Dz Dn AZ Ap BL
theorem tZ{α:Type}(a b:List α)(i:Nat)(hi:i<a.length)(hj:i<b.length)(h:a.take i=b.take i)(he:a[i]=b[i]):a.take (i+1)=b.take (i+1):=by
 rw[List.take_succ_eq_append_getElem hi,List.take_succ_eq_append_getElem hj,h,he]
theorem OG(a b:List UInt8)(hb:a.length<=4294967296)(hl:a.length=b.length):∀(k:Nat) (j:Int),j+k=a.length->0<=j->a.take j.toNat=b.take j.toNat ->
  Y E0 (.loop 16 0 0 0 [(0,.sl .u8 a),(1,.sl .u8 b),(5,.i j)] [])=if a=b then some (.fin (.exit 0) 0 [] []) else some (.fin .ret 0 [(4,.b false)] [])
 | 0,j,hj,h0,ht=>by
  have he:a=b:=zbc
  rw[if_pos he]
  rw[Ae];conv=>lhs;whnf
  rw[G8 zar]
  conv=>lhs;whnf
 | k+1,j,hj,h0,ht=>by
  by_cases hab:a[j.toNat]'zaa=b[j.toNat]'zaa
  ·have ih:=OG a b hb hl k (j+1) zaa zaa zaY
   have hz:Bi .neq (a[j.toNat]'zaa) (b[j.toNat]'zaa)=false:=by rw[Ia,EC (by rw[hab])]
   rw[<-ih]
   rw[Ae];conv=>lhs;whnf
   rw[ET zar]
   conv=>lhs;whnf
   rw[E8 zaa]
   conv=>lhs;whnf
   rw[E8 zaa]
   conv=>lhs;whnf
   try dsimp -iota -beta -eta -zeta only
   rw[hz]
   conv=>lhs;whnf
   rw[drw zas];conv=>lhs;whnf
   try dsimp -iota -beta -eta -zeta only
   rw[Aw zaa]
  ·have hne:a≠b:=fun e=>hab (by subst e;rfl)
   have hz:Bi .neq (a[j.toNat]'zaa) (b[j.toNat]'zaa)=true:=by rw[Ia,Fa (fun e=>hab (UInt8.toNat_inj.1 zaa))]
   rw[if_neg hne]
   rw[Ae];conv=>lhs;whnf
   rw[ET zar]
   conv=>lhs;whnf
   rw[E8 zaa]
   conv=>lhs;whnf
   rw[E8 zaa]
   conv=>lhs;whnf
   try dsimp -iota -beta -eta -zeta only
   rw[hz]
   exact BQ rfl
theorem CY(a b:List UInt8)(ha:a.length<=4294967296):Y E0 (.call 16 [.sl .u8 a,.sl .u8 b] [])=some (.ret (.b (decide (a=b))) []):=by
 by_cases h:a=b
 ·rw[decide_eq_true h]
  refine BQ ?_
  rcases AX (↑a.length) (↑b.length) with hc0|hc0
  ·
   rw[Fa zar]
   conv=>lhs;whnf
   exact absurd (congrArg List.length h) zaa
  rw[EC zar]
  conv=>lhs;whnf
  try dsimp -iota -beta -eta -zeta only
  rw[EY]
  rw[OG a b ha zaa a.length 0 zaa zaa zao,if_pos h]
  exact BQ rfl
 ·rw[decide_eq_false h]
  refine BQ ?_
  rcases AX (↑a.length) (↑b.length) with hc0|hc0
  ·
   rw[Fa zar]
   conv=>lhs;whnf
  rw[EC zar]
  conv=>lhs;whnf
  try dsimp -iota -beta -eta -zeta only
  rw[EY]
  rw[OG a b ha zaa a.length 0 zaa zaa zao,if_neg h]
  exact BQ rfl
end
end Go.Proofs.YtnhgnfdbdflhcaaGreatDoor
namespace Go.Proofs.YtnhgnfdbdflhcaaGreatDoor
open Go Go.Ax Go.Eng
variable (key:List UInt8)(tag n:Int)(ls:List (List UInt8))
section
attribute [local irreducible] Cj Dt D9 DT DK BH Du Ey Fh FD Et D7 CV Df DX and' Dk DU CG Ba Bl CJ CS BK BM BB BG Dv G7 Dw EM Dl Bh CO Bz C9 Bo BD Bi BO Be BZ Dx Bf DL Bd BI D6 Dy fits Dz Dn AZ Ap BL
theorem Md(tag:Int)(ls:List (List UInt8))(hl:(Ar tag ls).length<=4294967296)(hn:ls.length<=4294967296):∀(k i:Nat),i+k=ls.length ->
  Y E0 (.loop 33 0 0 1 [(5,.nm 0),(12,.sl (.sl .u8) ls),(13,.i ls.length),(14,.i i)] [(0,some (.row 5 .u8 (Ar tag (ls.take i))))])=some (.fin (.exit 0) 0 [(5,.sl .u8 (Ar tag ls))] [])
 | 0,i,hi=>by
  have e:ls.take i=ls:=List.take_of_length_le zaa
  rw[e]
  rw[Ae];conv=>lhs;whnf
  exact BQ rfl
 | k+1,i,hi=>by
  have ih:=Md tag ls hl hn k (i+1) zaa
  have hg:ls[i]?=some (ls[i]'zaa):=List.getElem?_eq_getElem zaa
  have h1:=PO tag ls i _ hg
  have h2:=ZY tag ls (i+1)
  have h3:=congrArg List.length h1
  simp only[List.length_append,Ht] at h3
  rw[Ae];conv=>lhs;whnf
  refine BQ ?_
  refine(congrArg (Y E0) ?_).trans ih;(try simp only[Rq.loop.injEq,Rq.call.injEq,Rq.ops.injEq,List.cons.injEq,Prod.mk.injEq,AV.i.injEq,AV.sl.injEq,AV.st.injEq,AV.b.injEq,AV.u8.injEq,AV.nm.injEq,Option.some.injEq,Rs.row.injEq,Rs.var.injEq,heq_eq_eq,true_and,and_true]);(try(repeat' apply And.intro));all_goals first|(with_reducible rfl)|omega|(rw[Aw zaa];omega)|(rw[Ce zaa];omega)|(rw[h1,Aa,Aa,A5w])
theorem LK(hl:(Ar tag ls).length<=4294967296)(hn:ls.length<=4294967296):Y E0 (.call 33 [.i tag,.sl (.sl .u8) ls] [])=some (.ret (.sl .u8 (Ar tag ls)) []):=by
 refine BQ ?_
 rw[show EM tag=UInt8.ofInt tag from F5 _,show [UInt8.ofInt tag]=Ar tag (ls.take 0) from rfl,BF];rw[show(0:Int)=((0:Nat):Int) from rfl,Md tag ls hl hn ls.length 0 zaa]
 exact BQ rfl
theorem Me(tag:Int)(ls:List (List UInt8))(hl:(Ar tag ls).length<=4294967295)(hn:ls.length<=4294967296):∀(k i:Nat),i+k=ls.length ->
  Y E0 (.loop 122 0 0 1 [(1,.sl (.sl .u8) ls),(5,.nm 0),(6,.i i)] [(0,some (.row 5 .u8 (Ar tag (ls.take i))))])=some (.fin (.exit 0) 0 [(5,.sl .u8 (Ar tag ls))] [])
 | 0,i,hi=>by
  have e:ls.take i=ls:=List.take_of_length_le zaa
  rw[e]
  rw[Ae];conv=>lhs;whnf
  exact BQ rfl
 | k+1,i,hi=>by
  have ih:=Me tag ls hl hn k (i+1) zaa
  have hg:ls[i]?=some (ls[i]'zaa):=List.getElem?_eq_getElem zaa
  have h1:=PO tag ls i _ hg
  have h2:=ZY tag ls (i+1)
  have h3:=congrArg List.length h1
  simp only[List.length_append,Ht] at h3
  rw[Ae];conv=>lhs;whnf
  refine BQ ?_
  refine(congrArg (Y E0) ?_).trans ih;(try simp only[Rq.loop.injEq,Rq.call.injEq,Rq.ops.injEq,List.cons.injEq,Prod.mk.injEq,AV.i.injEq,AV.sl.injEq,AV.st.injEq,AV.b.injEq,AV.u8.injEq,AV.nm.injEq,Option.some.injEq,Rs.row.injEq,Rs.var.injEq,heq_eq_eq,true_and,and_true]);(try(repeat' apply And.intro));all_goals first|(with_reducible rfl)|omega|(rw[Aw zaa];omega)|(rw[Ce zaa];omega)|(rw[h1,Aa,Aa,BF,rf4 _ zaa])
theorem Gl(hl:(Ar tag ls).length<=4294967295)(hn:ls.length<=4294967296):Y E0 (.call 122 [.i tag,.sl (.sl .u8) ls] [])=some (.ret (.sl .u8 (Ar tag ls)) []):=by
 refine BQ ?_
 rw[show EM tag=UInt8.ofInt tag from F5 _,show [UInt8.ofInt tag]=Ar tag (ls.take 0) from rfl];rw[show(0:Int)=((0:Nat):Int) from rfl,Me tag ls hl hn ls.length 0 zaa]
 exact BQ rfl
theorem IR(hl:(Ar tag ls).length<=4294967295)(hn:ls.length<=4294967296):Y E0 (.call 99 [.i tag,.sl (.sl .u8) ls] [])=some (.ret (.sl .u8 (sha256 (Ar tag ls))) []):=by
 refine BQ ?_
 rw[LK _ _ DZ DZ]
 refine BQ ?_
 rw[JU _ DZ]
 exact BQ rfl
theorem F8(hl:(Ar tag ls).length<=4294967295)(hn:ls.length<=4294967296):Y E0 (.call 110 [.i tag,.sl (.sl .u8) ls] [])=some (.ret (.sl .u8 (sha256 (Ar tag ls))) []):=by
 refine BQ ?_
 rw[Gl _ _ DZ DZ]
 refine BQ ?_
 rw[H8 _ DZ]
 exact BQ rfl
theorem Hg(l:List UInt8)(hl:l.length<=4294967296):Y E0 (.call 136 [.sl .u8 l] [])=some (.ret (.nm 0) [some (.row 5 .u8 l)]):=by
 refine BQ ?_
 simp only[NO];try with_reducible rfl
theorem NM(a b:List (List UInt8))(hb:a.length<=4294967296)(hm:∀ l∈a,l.length<=4294967296)(hl:a.length=b.length):∀(k:Nat) (j:Int),j+k=a.length->0<=j->a.take j.toNat=b.take j.toNat ->
  Y E0 (.loop 17 0 0 0 [(0,.sl (.sl .u8) a),(1,.sl (.sl .u8) b),(5,.i j)] [])=if a=b then some (.fin (.exit 0) 0 [] []) else some (.fin .ret 0 [(4,.b false)] [])
 | 0,j,hj,h0,ht=>by
  have he:a=b:=zbc
  rw[if_pos he]
  rw[Ae];conv=>lhs;whnf
  exact BQ rfl
 | k+1,j,hj,h0,ht=>by
  have hlen:(a[j.toNat]'zaa).length<=4294967296:=hm _ (List.getElem_mem _)
  by_cases hab:a[j.toNat]'zaa=b[j.toNat]'zaa
  ·have ih:=NM a b hb hm hl k (j+1) zaa zaa zaY
   rw[<-ih]
   rw[Ae];conv=>lhs;whnf
   rw[ET zar]
   conv=>lhs;whnf
   rw[E8 zaa]
   conv=>lhs;whnf
   rw[E8 zaa]
   conv=>lhs;whnf
   try dsimp -iota -beta -eta -zeta only
   rw[AU]
   rw[CY _ _ hlen,decide_eq_true hab]
   conv=>lhs;whnf
   try dsimp -iota -beta -eta -zeta only
   rw[drw zas];conv=>lhs;whnf
   rw[EN];conv=>lhs;whnf
   try dsimp -iota -beta -eta -zeta only
   rw[Aw zaa]
  ·have hne:a≠b:=fun e=>hab (by subst e;rfl)
   rw[if_neg hne]
   rw[Ae];conv=>lhs;whnf
   rw[ET zar]
   conv=>lhs;whnf
   rw[E8 zaa]
   conv=>lhs;whnf
   rw[E8 zaa]
   conv=>lhs;whnf
   try dsimp -iota -beta -eta -zeta only
   rw[AU]
   rw[CY _ _ hlen,decide_eq_false hab]
   exact BQ rfl
theorem A0r(a b:List (List UInt8))(hb:a.length<=4294967296)(hm:∀ l∈a,l.length<=4294967296):Y E0 (.call 17 [.sl (.sl .u8) a,.sl (.sl .u8) b] [])=some (.ret (.b (decide (a=b))) []):=by
 by_cases h:a=b
 ·rw[decide_eq_true h]
  refine BQ ?_
  rcases AX (↑a.length) (↑b.length) with hc0|hc0
  ·
   refine BQ ?_
   exact absurd (congrArg List.length h) zaa
  refine BQ ?_
  rw[NM a b hb hm zaa a.length 0 zaa zaa zao,if_pos h]
  exact BQ rfl
 ·rw[decide_eq_false h]
  refine BQ ?_
  rcases AX (↑a.length) (↑b.length) with hc0|hc0
  ·
   rw[Fa zar]
   conv=>lhs;whnf
  rw[EC zar]
  conv=>lhs;whnf
  try dsimp -iota -beta -eta -zeta only
  rw[EY]
  rw[NM a b hb hm zaa a.length 0 zaa zaa zao,if_neg h]
  exact BQ rfl
end
section
attribute [local irreducible] Cj Dt D9 DT DK BH Du Ey Fh FD Et D7 CV Df DX and' Dk DU CG Ba Bl CJ CS BK BM BB BG Dv G7 Dw EM Dl Bh CO Bz C9 Bo BD Bi BO Be BZ Dx Bf DL Bd BI D6 Dy fits Dz Dn AZ Ap BL
theorem U1(b:UInt8)(key l:List UInt8)(hl:l.length=64):∀(k i:Nat),i+k=64->Y E0 (.loop 160 0 1 2 [(0,.u8 b),(4,.nm 1),(10,.i i)] [(0,some (.var [.sl .u8 key])),(1,some (.row 5 .u8 (Ji b (l.take i)++l.drop i)))])=some (.fin (.exit 0) 2 [(4,.nm 1)] [(0,some (.var [.sl .u8 key])),(1,some (.row 5 .u8 (Ji b l)))])
 | 0,i,hi=>by
  rw[List.take_of_length_le zaa,List.drop_eq_nil_of_le zaa,List.append_nil]
  rw[Ae];conv=>lhs;whnf
  exact BQ rfl
 | k+1,i,hi=>by
  have ih:=U1 b key l hl k (i+1) zaa
  have hs:=A2v b l i zaa
  have hl2:(Ji b (l.take i)++l.drop i).length=64:=by simp[BU];omega
  have hg:BZ (Ji b (l.take i)++l.drop i) (i:Int)=some (l[i]'zaa):=by
   rw[Na,List.getElem?_append_right (by simp[BU];omega)];simp[BU,show min i l.length=i from by omega]
  rw[Ae];conv=>lhs;whnf
  refine toA ?_
  rw[hg]
  refine toA ?_
  rw[hg]
  refine BQ ?_
  refine(congrArg (Y E0) ?_).trans ih;(try simp only[Rq.loop.injEq,Rq.call.injEq,Rq.ops.injEq,List.cons.injEq,Prod.mk.injEq,AV.i.injEq,AV.sl.injEq,AV.st.injEq,AV.b.injEq,AV.u8.injEq,AV.nm.injEq,Option.some.injEq,Rs.row.injEq,Rs.var.injEq,heq_eq_eq,true_and,and_true]);(try(repeat' apply And.intro));all_goals first|(with_reducible rfl)|omega|(rw[Aw zaa];omega)|(rw[Ce zaa];omega)|(rw[G5,Nb];exact hs)
theorem WZ(b:UInt8)(key:List UInt8):Y E0 (.call 160 [.u8 b,.pa 0 0] [.var [.sl .u8 key]])=some (.ret (.nm 1) [some (.var [.sl .u8 key]),some (.row 5 .u8 (Ji b (Nj key)))]):=by
 have h0:=U1 b key (Nj key) (BP key) 64 0 zaa
 have hp:D6 (Bd 64 0) key=Nj key:=by rw[WS,Fz];simp[Nj]
 rw[List.take_zero,List.drop_zero,show Ji b []++Nj key=Nj key from rfl,show((0:Nat):Int)=0 from rfl] at h0
 refine BQ ?_
 rw[hp,h0]
 exact BQ rfl
theorem A4f(b:List UInt8)(hk:key.length<=4294967296)(hb:b.length<=4294900000):Y E0 (.call 93 [.sl .u8 key,.sl .u8 b] [])=some (.ret (.sl .u8 (Xx key b)) []):=by
 by_cases hc:64<key.length
 ·have hkb:wP key=sha256 key:=if_pos hc
  unfold Xx
  rw[hkb]
  refine BQ ?_
  rw[JU _ DZ]
  refine BQ ?_
  rw[WZ ..]
  conv=>lhs;whnf
  rw[DY zak]
  conv=>lhs;whnf
  try dsimp -iota -beta -eta -zeta only
  rw[AU]
  rw[JU _ zak]
  refine BQ ?_
  rw[WZ ..]
  conv=>lhs;whnf
  rw[DY zak]
  conv=>lhs;whnf
  try dsimp -iota -beta -eta -zeta only
  rw[AU]
  rw[JU _ zak]
  refine BQ ?_
  simp only[NO];try with_reducible rfl
 ·have hkb:wP key=key:=if_neg hc
  unfold Xx
  rw[hkb]
  refine BQ ?_
  rw[WZ ..]
  conv=>lhs;whnf
  rw[DY zak]
  conv=>lhs;whnf
  try dsimp -iota -beta -eta -zeta only
  rw[AU]
  rw[JU _ zak]
  refine BQ ?_
  rw[WZ ..]
  conv=>lhs;whnf
  rw[DY zak]
  conv=>lhs;whnf
  try dsimp -iota -beta -eta -zeta only
  rw[AU]
  rw[JU _ zak]
  refine BQ ?_
  simp only[NO];try with_reducible rfl
theorem tu:Y E0 (.call 92 [.i n] [])=some (.ret (.nm 0) [some (.row 5 .u8 (Qo n))]):=by
 refine BQ ?_
 rw[IJ zal,IJ zal,IJ zal];simp only[F5];rfl
theorem iy:Y E0 (.call 153 [.i n] [])=some (.ret (.nm 0) [some (.row 5 .u8 (Qo n))]):=by
 refine BQ ?_
 rw[IJ zal,IJ zal,IJ zal];simp only[F5];rfl
theorem OH(key b:List UInt8)(hk:key.length<=64):∀(k i:Nat),i+k=64->Y E0 (.loop 154 0 0 2 [(0,.sl .u8 key),(1,.sl .u8 b),(5,.nm 0),(6,.nm 1),(7,.i i)] [(0,some (.row 5 .u8 (Ji (UInt8.ofNat 54) ((Nj key).take i)++List.replicate (64-i) 0))),(1,some (.row 5 .u8 (Ji (UInt8.ofNat 92) ((Nj key).take i)++List.replicate (64-i) 0)))])=some (.fin (.exit 0) 2 [(1,.sl .u8 b),(5,.nm 0),(6,.nm 1)] [(0,some (.row 5 .u8 (Ji (UInt8.ofNat 54) (Nj key)))),(1,some (.row 5 .u8 (Ji (UInt8.ofNat 92) (Nj key))))])
 | 0,i,hi=>by
  rw[List.take_of_length_le (by rw[BP];omega),show 64-i=0 from by omega,List.replicate_zero,List.append_nil,List.append_nil]
  rw[Ae];conv=>lhs;whnf
  exact BQ rfl
 | k+1,i,hi=>by
  have ih:=OH key b hk k (i+1) zaa
  have hs1:=X0 (UInt8.ofNat 54) (Nj key) i (by rw[BP];omega) (BP key)
  have hs2:=X0 (UInt8.ofNat 92) (Nj key) i (by rw[BP];omega) (BP key)
  have hgt:=A0s key i zaa
  have hl1:(Ji (UInt8.ofNat 54) ((Nj key).take i)++List.replicate (64-i) (0:UInt8)).length=64:=by simp[BU,BP];omega
  have hl2:(Ji (UInt8.ofNat 92) ((Nj key).take i)++List.replicate (64-i) (0:UInt8)).length=64:=by simp[BU,BP];omega
  by_cases hc:i<key.length
  ·rw[dif_pos hc] at hgt
   rw[hgt] at hs1 hs2
   rw[Ae];conv=>lhs;whnf
   refine BQ ?_
   refine(congrArg (Y E0) ?_).trans ih;(try simp only[Rq.loop.injEq,Rq.call.injEq,Rq.ops.injEq,List.cons.injEq,Prod.mk.injEq,AV.i.injEq,AV.sl.injEq,AV.st.injEq,AV.b.injEq,AV.u8.injEq,AV.nm.injEq,Option.some.injEq,Rs.row.injEq,Rs.var.injEq,heq_eq_eq,true_and,and_true]);(try(repeat' apply And.intro));all_goals first|(with_reducible rfl)|omega|(rw[Aw zaa];omega)|(rw[Ce zaa];omega)|(rw[G5,Nb];exact hs1)|(rw[G5,Nb];exact hs2)
  ·rw[dif_neg hc] at hgt
   rw[hgt] at hs1 hs2
   rw[Ae];conv=>lhs;whnf
   refine BQ ?_
   refine(congrArg (Y E0) ?_).trans ih;(try simp only[Rq.loop.injEq,Rq.call.injEq,Rq.ops.injEq,List.cons.injEq,Prod.mk.injEq,AV.i.injEq,AV.sl.injEq,AV.st.injEq,AV.b.injEq,AV.u8.injEq,AV.nm.injEq,Option.some.injEq,Rs.row.injEq,Rs.var.injEq,heq_eq_eq,true_and,and_true]);(try(repeat' apply And.intro));all_goals first|(with_reducible rfl)|omega|(rw[Aw zaa];omega)|(rw[Ce zaa];omega)|(rw[G5,Nb];exact hs1)|(rw[G5,Nb];exact hs2)
theorem cZ(b:List UInt8)(hk:key.length<=4294967296)(hb:b.length<=4294900000):Y E0 (.call 154 [.sl .u8 key,.sl .u8 b] [])=some (.ret (.sl .u8 (Xx key b)) []):=by
 have hr:Bd 64 (0:UInt8)=List.replicate 64 0:=zbp
 by_cases hc:64<key.length
 ·have hkb:wP key=sha256 key:=if_pos hc
  have h0:=OH (sha256 key) b (by rw[A7];omega) 64 0 zaa
  rw[List.take_zero,show((0:Nat):Int)=0 from rfl,show Ji (UInt8.ofNat 54) []++List.replicate (64-0) (0:UInt8)=List.replicate 64 0 from rfl,show Ji (UInt8.ofNat 92) []++List.replicate (64-0) (0:UInt8)=List.replicate 64 0 from rfl] at h0
  unfold Xx
  rw[hkb]
  refine BQ ?_
  rw[H8 _ DZ]
  refine BQ ?_
  rw[hr,h0]
  conv=>lhs;whnf
  rw[DY zak]
  conv=>lhs;whnf
  try dsimp -iota -beta -eta -zeta only
  rw[AU]
  rw[H8 _ zak]
  conv=>lhs;whnf
  rw[DY zak]
  conv=>lhs;whnf
  try dsimp -iota -beta -eta -zeta only
  rw[AU]
  rw[H8 _ zak]
  refine BQ ?_
  simp only[NO];try with_reducible rfl
 ·have hkb:wP key=key:=if_neg hc
  have h0:=OH key b zaa 64 0 zaa
  rw[List.take_zero,show((0:Nat):Int)=0 from rfl,show Ji (UInt8.ofNat 54) []++List.replicate (64-0) (0:UInt8)=List.replicate 64 0 from rfl,show Ji (UInt8.ofNat 92) []++List.replicate (64-0) (0:UInt8)=List.replicate 64 0 from rfl] at h0
  unfold Xx
  rw[hkb]
  refine BQ ?_
  rw[hr,h0]
  conv=>lhs;whnf
  rw[DY zak]
  conv=>lhs;whnf
  try dsimp -iota -beta -eta -zeta only
  rw[AU]
  rw[H8 _ zak]
  conv=>lhs;whnf
  rw[DY zak]
  conv=>lhs;whnf
  try dsimp -iota -beta -eta -zeta only
  rw[AU]
  rw[H8 _ zak]
  refine BQ ?_
  simp only[NO];try with_reducible rfl
theorem PS(key label ctx:List UInt8)(n:Int)(hk:key.length<=4294967296)(hl:label.length<=1000)(hc:ctx.length<=1000000)(hn:1<=n/\n<=1024):∀(k j:Nat),j+k=((n+31)/32).toNat ->
  Y E0 (.loop 34 0 0 1 [(0,.sl .u8 key),(3,.i n),(9,.sl .u8 (label++(0::(ctx++Qo (8*n))))),(10,.nm 0),(11,.i (j+1))] [(0,some (.row 5 .u8 (L6 key label ctx n j)))])=some (.fin (.exit 0) 0 [(3,.i n),(10,.sl .u8 (L6 key label ctx n ((n+31)/32).toNat))] [])
 | 0,j,hj=>by
  rw[show((n+31)/32).toNat=j from by omega]
  rw[Ae];conv=>lhs;whnf
  rw[G8 zak]
  conv=>lhs;whnf
 | k+1,j,hj=>by
  have ih:=PS key label ctx n hk hl hc hn k (j+1) zaa
  rw[Vq,show((j+1:Nat):Int)+1=(j:Int)+1+1 from by omega] at ih
  rw[Ae];conv=>lhs;whnf
  rw[ET zak]
  conv=>lhs;whnf
  try dsimp -iota -beta -eta -zeta only
  rw[AU]
  rw[tu _]
  conv=>lhs;whnf
  rw[DY zak]
  conv=>lhs;whnf
  try dsimp -iota -beta -eta -zeta only
  rw[AU]
  rw[A4f _ _ zaa zak]
  conv=>lhs;whnf
  rw[DY zak]
  conv=>lhs;whnf
  try dsimp -iota -beta -eta -zeta only
  rw[Aw zaa]
  refine(congrArg (Y E0) ?_).trans ih;(try simp only[Rq.loop.injEq,Rq.call.injEq,Rq.ops.injEq,List.cons.injEq,Prod.mk.injEq,AV.i.injEq,AV.sl.injEq,AV.st.injEq,AV.b.injEq,AV.u8.injEq,AV.nm.injEq,Option.some.injEq,Rs.row.injEq,Rs.var.injEq,heq_eq_eq,true_and,and_true]);(try(repeat' apply And.intro));all_goals first|(with_reducible rfl)|omega|(rw[Aw zaa];omega)|(rw[Ce zaa];omega)|(simp only[Aa])
theorem JV(label ctx:List UInt8)(n:Int)(hk:key.length<=4294967296)(hl:label.length<=1000)(hc:ctx.length<=1000000):Y E0 (.call 34 [.sl .u8 key,.str label,.sl .u8 ctx,.i n] [])=some (.ret (.sl .u8 (E5 key label ctx n)) []):=by
 have he:BI (BI (BI label [UInt8.ofNat 0]) ctx) (Qo (8*n))=label++(0::(ctx++Qo (8*n))):=by simp only[Aa,List.append_assoc,List.cons_append,List.nil_append];rfl
 refine BQ ?_
 rcases AY n 1 with hc0|hc0
 ·
  refine BQ ?_
  unfold E5;(repeat(first|rw[if_pos zan]|rw[if_neg zan]));try rfl
 refine BQ ?_
 rcases AY 1024 n with hc1|hc1
 ·
  refine BQ ?_
  unfold E5;(repeat(first|rw[if_pos zan]|rw[if_neg zan]));try rfl
 refine BQ ?_
 rw[tu _]
 conv=>lhs;whnf
 rw[DY zak]
 conv=>lhs;whnf
 try dsimp -iota -beta -eta -zeta only
 rw[EY]
 have h0:=PS key label ctx n hk hl hc zaa _ 0 (Nat.zero_add _);rw[show((0:Nat):Int)+1=1 from rfl,show L6 key label ctx n 0=[] from rfl] at h0;rw[he,h0]
 conv=>lhs;whnf
 rw[ER zaa]
 conv=>lhs;whnf
 rw[MG zak]
 conv=>lhs;whnf
 unfold E5;(repeat(first|rw[if_pos zan]|rw[if_neg zan]));try rfl
theorem Oe(key label ctx:List UInt8)(n:Int)(hk:key.length<=4294967296)(hl:label.length<=1000)(hc:ctx.length<=1000000)(hn:1<=n/\n<=1024):∀(k j:Nat),j+k=((n+31)/32).toNat ->
  Y E0 (.loop 86 0 0 1 [(0,.sl .u8 key),(1,.str label),(2,.sl .u8 ctx),(3,.i n),(9,.nm 0),(10,.i (j+1))] [(0,some (.row 5 .u8 (L6 key label ctx n j)))])=some (.fin (.exit 0) 0 [(3,.i n),(9,.sl .u8 (L6 key label ctx n ((n+31)/32).toNat))] [])
 | 0,j,hj=>by
  rw[show((n+31)/32).toNat=j from by omega]
  rw[Ae];conv=>lhs;whnf
  rw[G8 zak]
  conv=>lhs;whnf
 | k+1,j,hj=>by
  have ih:=Oe key label ctx n hk hl hc hn k (j+1) zaa
  rw[Vq,show((j+1:Nat):Int)+1=(j:Int)+1+1 from by omega] at ih
  rw[Ae];conv=>lhs;whnf
  rw[ET zak]
  conv=>lhs;whnf
  try dsimp -iota -beta -eta -zeta only
  rw[AU]
  rw[iy _]
  conv=>lhs;whnf
  rw[DY zak]
  conv=>lhs;whnf
  rw[DY zak]
  conv=>lhs;whnf
  rw[DY zak]
  conv=>lhs;whnf
  try dsimp -iota -beta -eta -zeta only
  rw[GR zaa]
  rw[AU]
  rw[iy _]
  conv=>lhs;whnf
  rw[DY zak]
  conv=>lhs;whnf
  try dsimp -iota -beta -eta -zeta only
  rw[AU]
  rw[cZ _ _ zaa zak]
  conv=>lhs;whnf
  rw[DY zak]
  conv=>lhs;whnf
  try dsimp -iota -beta -eta -zeta only
  rw[Aw zaa]
  refine(congrArg (Y E0) ?_).trans ih;(try simp only[Rq.loop.injEq,Rq.call.injEq,Rq.ops.injEq,List.cons.injEq,Prod.mk.injEq,AV.i.injEq,AV.sl.injEq,AV.st.injEq,AV.b.injEq,AV.u8.injEq,AV.nm.injEq,Option.some.injEq,Rs.row.injEq,Rs.var.injEq,heq_eq_eq,true_and,and_true]);(try(repeat' apply And.intro));all_goals first|(with_reducible rfl)|omega|(rw[Aw zaa];omega)|(rw[Ce zaa];omega)|(simp only[Aa,List.append_assoc,List.cons_append,List.nil_append];rfl)
theorem EZ(label ctx:List UInt8)(n:Int)(hk:key.length<=4294967296)(hl:label.length<=1000)(hc:ctx.length<=1000000):Y E0 (.call 86 [.sl .u8 key,.str label,.sl .u8 ctx,.i n] [])=some (.ret (.sl .u8 (E5 key label ctx n)) []):=by
 refine BQ ?_
 rcases AY n 1 with hc0|hc0
 ·
  refine BQ ?_
  unfold E5;(repeat(first|rw[if_pos zan]|rw[if_neg zan]));try rfl
 refine BQ ?_
 rcases AY 1024 n with hc1|hc1
 ·
  refine BQ ?_
  unfold E5;(repeat(first|rw[if_pos zan]|rw[if_neg zan]));try rfl
 refine BQ ?_
 have h0:=Oe key label ctx n hk hl hc zaa _ 0 (Nat.zero_add _);rw[show((0:Nat):Int)+1=1 from rfl,show L6 key label ctx n 0=[] from rfl] at h0;rw[h0]
 conv=>lhs;whnf
 rw[MG zak]
 conv=>lhs;whnf
 unfold E5;(repeat(first|rw[if_pos zan]|rw[if_neg zan]));try rfl
end
end Go.Proofs.YtnhgnfdbdflhcaaGreatDoor
namespace Go.Proofs.YtnhgnfdbdflhcaaGreatDoor
open Go Go.Ax
section
attribute [local irreducible] Cj Dt D9 DT DK BH Du Ey Fh FD Et D7 CV Df DX and' Dk DU CG Ba Bl CJ CS BK BM BB BG Dv G7 Dw EM Dl Bh CO Bz C9 Bo BD Bi BO Be BZ Dx Bf DL Bd BI D6 Dy fits Dz Dn AZ Ap BL
theorem Ig(b:List UInt8):Y E0 (.call 10 [.sl .u8 b] [])=some (.ret (.sl .u8 (CP b)) []):=by
 rw[Ae];conv=>lhs;whnf
 rw[MC zaa]
 conv=>lhs;whnf
 rw[ER zaa]
 conv=>lhs;whnf
 rw[WS,Fz];rfl
theorem FO(b:List UInt8)(n:Int)(hn:0<=n):Y E0 (.call 72 [.sl .u8 b,.i n] [])=some (.ret (.sl .u8 (b.take n.toNat)) []):=by
 rw[Ae];conv=>lhs;whnf
 rcases Bool.eq_false_or_eq_true (FD n (Be b)) with hc0|hc0
 ·rw[hc0];replace hc0:=Iy hc0;try simp only[BF] at hc0
  conv=>lhs;whnf
  rw[MG zaa]
  conv=>lhs;whnf
 ·rw[hc0];replace hc0:=Iz hc0;try simp only[BF] at hc0
  conv=>lhs;whnf
  rw[List.take_of_length_le zaa]
end
end Go.Proofs.YtnhgnfdbdflhcaaGreatDoor
namespace Go.Proofs.YtnhgnfdbdflhcaaGreatDoor
open Go Go.Ax Go.Eng
variable (leaf c:Int)(x:List UInt8)
section
attribute [local irreducible] Cj Dt D9 DT DK BH Du Ey Fh FD Et D7 CV Df DX and' Dk DU CG Ba Bl CJ CS BK BM BB BG Dv G7 Dw EM Dl Bh CO Bz C9 Bo BD Bi BO Be BZ Dx Bf DL Bd BI D6 Dy fits Dz Dn AZ Ap BL
theorem WL(h:List UInt8)(s:Int)(acc:List Int)(n j:Int)(a b:Int)(ha:acc.length<=1000)(hs:0<=s/\s<=1000)(hab:0<=a/\a<=15/\0<=b/\b<=15):Y E0 (.loop 216 1 0 1 [(3,.nm 0),(4,.i s),(12,.sl .u8 h),(13,.i n),(14,.i j),(24,.agg [.i a,.i b]),(25,.i 0)] [(0,some (.row 3 .i64 acc))])=some (.fin (.exit 2) 1 [(3,.nm 0),(4,.i (s+(15-a)+(15-b))),(12,.sl .u8 h),(13,.i n),(14,.i j)] [(0,some (.row 3 .i64 (acc++[a,b])))]):=by
 refine tq ?_;refine tq ?_;refine tq ?_
 simp only[NO];try with_reducible rfl
theorem jP{h:List UInt8}{j:Nat}(hj:j<h.length):NP (h.take (j+1))=NP (h.take j)++[hiN h[j],yC h[j]]/\Jf (h.take (j+1))=Jf (h.take j)+(15-hiN h[j])+(15-yC h[j]):=by
 rw[List.take_succ_eq_append_getElem hj,A0u,jA];exact⟨rfl,by simp only[Jf];omega⟩
theorem PV(h:List UInt8)(hl:h.length<=16):∀(k j:Nat),j+k=h.length->Y E0 (.loop 216 0 0 1 [(3,.nm 0),(4,.i (Jf (h.take j))),(12,.sl .u8 h),(13,.i h.length),(14,.i j)] [(0,some (.row 3 .i64 (NP (h.take j))))])=some (.fin (.exit 0) 1 [(3,.nm 0),(4,.i (Jf h))] [(0,some (.row 3 .i64 (NP h)))])
 | 0,j,hj=>by
  rw[List.take_of_length_le zaa]
  exact tq rfl
 | k+1,j,hj=>by
  have ih:=PV h hl k (j+1) zaa
  obtain⟨e1,e2⟩:=jP (h:=h) (j:=j) zaa
  have hb1:=uA (h[j]'zaa)
  have hb2:=uB (h[j]'zaa)
  have hds:=QR (h.take j)
  have hdl:=D5 (h.take j)
  rw[List.length_take] at hds hdl
  have hin:=WL h (Jf (h.take j)) (NP (h.take j)) h.length j (hiN (h[j]'zaa)) (yC (h[j]'zaa)) zaa zaa zaa
  rw[<-e1,<-e2] at hin;rw[show((j+1:Nat):Int)=(j:Int)+1 from by omega] at ih
  refine tq ?_;rw[A3j,A3k,hin];refine tq ?_
  refine(congrArg (Y E0) ?_).trans ih;rfl
theorem Og(h:List UInt8)(hl:h.length=16):∀(k j:Nat),j+k=h.length->Y E0 (.loop 172 0 0 1 [(3,.sl .u8 h),(4,.nm 0),(5,.i (Jf (h.take j))),(6,.i j)] [(0,some (.row 3 .i64 (NP (h.take j))))])=some (.fin (.exit 0) 1 [(4,.nm 0),(5,.i (Jf h))] [(0,some (.row 3 .i64 (NP h)))])
 | 0,j,hj=>by
  rw[List.take_of_length_le zaa]
  exact tq rfl
 | k+1,j,hj=>by
  have ih:=Og h hl k (j+1) zaa
  obtain⟨e1,e2⟩:=jP (h:=h) (j:=j) zaa
  have hb1:=uA (h[j]'zaa)
  have hb2:=uB (h[j]'zaa)
  have hds:=QR (h.take j)
  have hdl:=D5 (h.take j)
  rw[List.length_take] at hds hdl;rw[e1,e2,show((j+1:Nat):Int)=(j:Int)+1 from by omega] at ih
  refine tq ?_
  refine(congrArg (Y E0) ?_).trans ih;rw[A3j,A3k,Ce (a:=30) zaa,Ce zaa,Aw zaa,Aw zaa,Aa,show Jf (h.take j)+(30-hiN (h[j]'zaa)-yC (h[j]'zaa))=Jf (h.take j)+(15-hiN (h[j]'zaa))+(15-yC (h[j]'zaa)) from by omega]
theorem A1C{s:Int}(h:0<=s/\s<=1000):[CV s (UInt64.ofNat 8).toNat,BH .and (CV s (UInt64.ofNat 4).toNat) 15,BH .and s 15]=[s/256,s/16%16,s%16]:=by
 rw[IJ zal,IJ zal,show(15:Int)=((2^4-1:Nat):Int) from rfl,JR 4 zaa,JR 4 zaa];rfl
theorem wX(m:List UInt8)(hm:m.length<=1000000):Y E0 (.call 216 [.sl .u8 m] [])=some (.ret (.sl .i64 (Gt m)) []):=by
 have h0:=PV (VA m) (by rw[Ci];omega) _ 0 (Nat.zero_add _)
 have hds:=QR (VA m)
 have hml:=Ci m
 rw[show((0:Nat):Int)=0 from rfl,List.take_zero] at h0;refine tq ?_;rw[IR _ _ za3 zao]
 refine tq ?_;rw[show List.take (Int.toNat 16) (sha256 (Ar 4 [m]))=VA m from rfl,BF];rw[show NP []=[] from rfl,show Jf []=0 from rfl] at h0;rw[h0];refine tq ?_;rw[A1C zaa,Aa];rfl
theorem YN(m:List UInt8)(hm:m.length<=1000000):Y E0 (.call 172 [.sl .u8 m] [])=some (.ret (.sl .i64 (Gt m)) []):=by
 have h0:=Og (VA m) (Ci m) _ 0 (Nat.zero_add _)
 have hds:=QR (VA m)
 have hml:=Ci m
 rw[show((0:Nat):Int)=0 from rfl,List.take_zero] at h0;refine tq ?_;rw[F8 _ _ za3 zao]
 refine tq ?_;rw[show List.take (Int.toNat 16) (sha256 (Ar 4 [m]))=VA m from rfl];rw[show NP []=[] from rfl,show Jf []=0 from rfl] at h0;rw[h0];refine tq ?_;simp only[Aa];rfl
theorem uN(p:Int)(x:List UInt8)(hx:x.length<=1000000):Y E0 (.call 266 [.i leaf,.i c,.i p,.sl .u8 x] [])=some (.ret (.sl .u8 (Xy leaf c p x)) []):=by
 refine tq ?_;rw[IR _ _ za3 zao]
 refine tq ?_;simp only[F5];rfl
theorem jQ(seed:List UInt8)(leaf c:Int)(hx:seed.length<=1000000):Y E0 (.call 218 [.sl .u8 seed,.i leaf,.i c] [])=some (.ret (.sl .u8 (FN seed leaf c)) []):=by
 refine tq ?_;rw[show strOf {data := #[99,104,97,105,110]}=[99,104,97,105,110] from rfl,JV _ _ _ _ zaa zal zao];refine tq ?_;simp only[F5];rfl
theorem Zn(seed:List UInt8)(leaf c:Int)(hx:seed.length<=1000000):Y E0 (.call 230 [.sl .u8 seed,.i leaf,.i c] [])=some (.ret (.sl .u8 (FN seed leaf c)) []):=by
 refine tq ?_;rw[show strOf {data := #[99,104,97,105,110]}=[99,104,97,105,110] from rfl,EZ _ _ _ _ zaa zal zao];refine tq ?_;simp only[F5];rfl
theorem A1D(hx:x.length<=1000000):Y E0 (.call 269 [.i leaf,.sl .u8 x] [])=some (.ret (.sl .u8 (VB leaf x)) []):=by
 refine tq ?_;rw[IR _ _ za3 zao]
 refine tq ?_;simp only[F5];rfl
theorem Zo(hx:x.length<=1000000):Y E0 (.call 174 [.i leaf,.sl .u8 x] [])=some (.ret (.sl .u8 (VB leaf x)) []):=by
 refine tq ?_;rw[F8 _ _ za3 zao]
 refine tq ?_;simp only[F5];rfl
theorem PW(leaf c t:Int)(ht:t<=100):∀(k:Nat) (p:Int) (x:List UInt8),0<=p->(t-p).toNat=k->x.length<=1000000->Y E0 (.loop 173 0 0 0 [(0,.i leaf),(1,.i c),(3,.i t),(4,.sl .u8 x),(11,.i p)] [])=some (.fin (.exit 0) 0 [(4,.sl .u8 (GZ k leaf c p x))] [])
 | 0,p,x,h0,hk,hx=>by
  refine tq ?_
  rfl
 | k+1,p,x,h0,hk,hx=>by
  have hl:=CZ leaf c p x
  have ih:=PW leaf c t ht k (p+1) (Xy leaf c p x) zaa zaa zaa
  refine tq ?_;rw[F8 _ _ za3 zao]
  refine tq ?_
  refine(congrArg (Y E0) ?_).trans ih;(try simp only[Rq.loop.injEq,Rq.call.injEq,Rq.ops.injEq,List.cons.injEq,Prod.mk.injEq,AV.i.injEq,AV.sl.injEq,AV.st.injEq,AV.b.injEq,AV.u8.injEq,AV.nm.injEq,Option.some.injEq,Rs.row.injEq,Rs.var.injEq,heq_eq_eq,true_and,and_true]);(try(repeat' apply And.intro));all_goals first|(with_reducible rfl)|omega|(rw[Aw zaa];omega)|(rw[Ce zaa];omega)|(simp only[F5];rfl)
theorem VK(f t:Int)(x:List UInt8)(hf:0<=f)(ht:t<=100)(hx:x.length<=1000000):Y E0 (.call 173 [.i leaf,.i c,.i f,.i t,.sl .u8 x] [])=some (.ret (.sl .u8 (GZ (t-f).toNat leaf c f x)) []):=by
 refine tq ?_;rw[PW leaf c t ht _ f x hf rfl hx];exact tq rfl
end
end Go.Proofs.YtnhgnfdbdflhcaaGreatDoor
