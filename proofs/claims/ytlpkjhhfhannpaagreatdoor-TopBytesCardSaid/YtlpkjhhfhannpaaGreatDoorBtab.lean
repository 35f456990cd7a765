/- Own texts of this claim: contracts of functions. -/
import Derived.Test.YtlpkjhhfhannpaaGreatDoorRows
import Derived.Test.YtlpkjhhfhannpaaGreatDoorCards
import Derived.Test.YtlpkjhhfhannpaaGreatDoorTie
import Derived.WalkKit
import Derived.ProofKit
import Derived.OpenShut
import Derived.Carry
import Derived.ChangeSlices
import Derived.Deep.DeepHandedRow
import Derived.Lib.LaidTab
import Derived.ChangeArms
import Derived.Test.YtlpkjhhfhannpaaGreatDoorBtaa
set_option linter.all false
set_option maxHeartbeats 40000000
set_option maxRecDepth 100000
namespace Go.Ax
open Go Go.Eng
variable (a0 a1 a2 a3 a4 a5 a6 a7:UInt32)
theorem Qh(ws:List UInt32):∀(k t:Nat) (s:List UInt32),s.length=8->(Hz ws k t s).length=8
 | 0,_,_,h=>h
 | k+1,t,s,_=>Qh ws k (t+1) _ rfl
theorem A0U(h0 h1 h2 h3 h4 h5 h6 h7:UInt32)(b:List UInt8):Em [h0,h1,h2,h3,h4,h5,h6,h7] b=(List.range 8).map fun i=>[h0,h1,h2,h3,h4,h5,h6,h7].getD i 0+(Hz (Ey b 64) 64 0 [h0,h1,h2,h3,h4,h5,h6,h7]).getD i 0:=by
 have hl:=Qh (Ey b 64) 64 0 [h0,h1,h2,h3,h4,h5,h6,h7] rfl
 rw[Em,<-show Hz (Ey b 64) 64 0 [h0,h1,h2,h3,h4,h5,h6,h7]=OQ (Ey b 64) [h0,h1,h2,h3,h4,h5,h6,h7] 64 from YY _ _ 64 0]
 revert hl
 generalize Hz (Ey b 64) 64 0 [h0,h1,h2,h3,h4,h5,h6,h7]=l
 intro hl
 match l,hl with
 | [_,_,_,_,_,_,_,_],_=>rfl
theorem A7F(h0 h1 h2 h3 h4:UInt32)(b:List UInt8):Lc [h0,h1,h2,h3,h4] b=[h0+(F7 (Nh b 80) 80 0 ⟨h0,h1,h2,h3,h4⟩).a,h1+(F7 (Nh b 80) 80 0 ⟨h0,h1,h2,h3,h4⟩).b,h2+(F7 (Nh b 80) 80 0 ⟨h0,h1,h2,h3,h4⟩).c,h3+(F7 (Nh b 80) 80 0 ⟨h0,h1,h2,h3,h4⟩).d,h4+(F7 (Nh b 80) 80 0 ⟨h0,h1,h2,h3,h4⟩).e]:=by
 rw[show F7 (Nh b 80) 80 0 ⟨h0,h1,h2,h3,h4⟩=jq (Nh b 80) ⟨h0,h1,h2,h3,h4⟩ 80 from aQ _ _ 80 0];rfl
theorem mG(n:UInt64)(i:Int)(c:Nat)(h:(c:Int)=i/\c<64):BO (Ag n (BZ i).toNat)=(n>>>UInt64.ofNat c).toUInt8:=by
 obtain⟨rfl,h⟩:=h
 rw[U4,JM,MB zaa,Qb zaa];rfl
theorem WG(n m:UInt64)(c:Nat)(h:m.toNat=c)(hc:c<64):BO (Ag n m.toNat)=(n>>>UInt64.ofNat c).toUInt8:=by
 subst h;rw[U4,Qb hc]
theorem A3c(l:List UInt8):BI .mul (BZ (l.length:Int)) (UInt64.ofNat 8)=UInt64.ofInt (l.length:Int)*8:=by rw[EU,JM];rfl
theorem ABk{l:List UInt32}(h:l.length=5):[l.getD 0 0,l.getD 1 0,l.getD 2 0,l.getD 3 0,l.getD 4 0]=l:=by
 match l,h with
 | [_,_,_,_,_],_=>rfl
theorem AA7{l:List UInt32}(h:l.length=8):[l.getD 0 0,l.getD 1 0,l.getD 2 0,l.getD 3 0,l.getD 4 0,l.getD 5 0,l.getD 6 0,l.getD 7 0]=l:=by
 match l,h with
 | [_,_,_,_,_,_,_,_],_=>rfl
theorem A8l{p:List UInt8}(h:64<=p.length):List.take (Ak p-64).toNat (List.drop (Int.toNat 64) p)=p.drop 64:=by
 rw[AP];exact List.take_of_length_le zaY
theorem H9:JP.length=64:=rfl
theorem ABl:Ap [a0,a1,a2,a3,a4,a5,a6,a7] 0=some a0:=NT zaj rfl
theorem A3f:Ap [a0,a1,a2,a3,a4,a5,a6,a7] 1=some a1:=NT zaj rfl
theorem A3g:Ap [a0,a1,a2,a3,a4,a5,a6,a7] 2=some a2:=NT zaj rfl
theorem ABm:Ap [a0,a1,a2,a3,a4,a5,a6,a7] 3=some a3:=NT zaj rfl
theorem ABn:Ap [a0,a1,a2,a3,a4,a5,a6,a7] 4=some a4:=NT zaj rfl
theorem A8n:Ap [a0,a1,a2,a3,a4,a5,a6,a7] 5=some a5:=NT zaj rfl
theorem A8o:Ap [a0,a1,a2,a3,a4,a5,a6,a7] 6=some a6:=NT zaj rfl
theorem ABo:Ap [a0,a1,a2,a3,a4,a5,a6,a7] 7=some a7:=NT zaj rfl
end Go.Ax
namespace Go.Ax
open Go.Eng
variable (key:List UInt8)(leaf:Int)(x:UInt8)(m l:List UInt8)(i:Nat)
def O4(key:List UInt8):List UInt8:=key.take 64++(List.replicate 64 0).drop key.length
def Jw(x:UInt8)(l:List UInt8):List UInt8:=l.map (· ^^^ x)
def A0Y(key:List UInt8):List UInt8:=if 64<key.length then sha256 key else key
def Ya(key b:List UInt8):List UInt8:=sha256 (Jw (UInt8.ofNat 92) (O4 (A0Y key))++sha256 (Jw (UInt8.ofNat 54) (O4 (A0Y key))++b))
def RP(n:Int):List UInt8:=[UInt8.ofInt (n/2^24),UInt8.ofInt (n/2^16),UInt8.ofInt (n/2^8),UInt8.ofInt n]
def LV(key label ctx:List UInt8)(n:Int)(j:Nat):List UInt8:=(List.range j).flatMap fun(i:Nat)=>Ya key (RP ((i:Int)+1)++(label++(0::(ctx++RP (8*n)))))
def BG(key label ctx:List UInt8)(n:Int):List UInt8:=if n<1\/1024<n then [] else(LV key label ctx n ((n+31)/32).toNat).take n.toNat
theorem Bo:(O4 key).length=64:=by simp[O4];omega
theorem Bz:(Jw x l).length=l.length:=by simp[Jw]
theorem C9(b:List UInt8):(Ya key b).length=32:=A7 _
theorem Bq(n:Int):(RP n).length=4:=rfl
theorem Bd(label ctx:List UInt8)(n:Int)(j:Nat):(LV key label ctx n j).length=32*j:=by
 unfold LV
 induction j with
 | zero=>rfl
 | succ j ih=>rw[List.range_succ,List.flatMap_append,List.length_append,ih];simp[C9];omega
theorem WH(label ctx:List UInt8)(n:Int)(j:Nat):LV key label ctx n (j+1)=LV key label ctx n j++Ya key (RP ((j:Int)+1)++(label++(0::(ctx++RP (8*n))))):=by
 unfold LV
 rw[List.range_succ,List.flatMap_append];simp
theorem Et{key label ctx:List UInt8}{n:Int}(h:1<=n/\n<=1024):(BG key label ctx n).length=n.toNat:=by
 unfold BG
 rw[if_neg zaa,List.length_take,Bd];omega
theorem A7H(hi:i<l.length):(Jw x (l.take i)++l.drop i).set i (l[i]^^^x)=Jw x (l.take (i+1))++l.drop (i+1):=by
 have h1:(Jw x (l.take i)).length=i:=by rw[Bz,List.length_take];omega
 rw[List.set_append,if_neg zaa,h1,Nat.sub_self,List.drop_eq_getElem_cons hi,List.set_cons_zero,List.take_succ_eq_append_getElem hi]
 simp only[Jw,List.map_append,List.map_cons,List.map_nil,List.append_assoc,List.cons_append,List.nil_append]
theorem A3h(hi:i<64):(O4 key)[i]'(by rw[Bo];exact hi)=if h:i<key.length then key[i] else 0:=by
 unfold O4
 by_cases h:i<key.length
 ·rw[List.getElem_append_left zaD,dif_pos h];simp
 ·rw[List.getElem_append_right zaD,dif_neg h,List.getElem_drop,List.getElem_replicate]
theorem XU(hi:i<l.length)(hl:l.length=64):(Jw x (l.take i)++List.replicate (64-i) 0).set i (l[i]^^^x)=Jw x (l.take (i+1))++List.replicate (64-(i+1)) 0:=by
 have h1:(Jw x (l.take i)).length=i:=by rw[Bz,List.length_take];omega
 rw[List.set_append,if_neg zaa,h1,Nat.sub_self,show 64-i=(64-(i+1))+1 from by omega,List.replicate_succ,List.set_cons_zero,List.take_succ_eq_append_getElem hi]
 simp only[Jw,List.map_append,List.map_cons,List.map_nil,List.append_assoc,List.cons_append,List.nil_append]
def hiN(b:UInt8):Int:=((b.toNat/16:Nat):Int)
def loN(b:UInt8):Int:=((b.toNat%16:Nat):Int)
def Pq(l:List UInt8):List Int:=l.flatMap fun b=>[hiN b,loN b]
def LY:List UInt8->Int
 | []=>0
 | b::l=>30-hiN b-loN b+LY l
def A3j(h:List UInt8):List Int:=Pq h++[LY h/256,LY h/16%16,LY h%16]
def Za(m:List UInt8):List UInt8:=(sha256 (Az 4 [m])).take 16
def Jy(m:List UInt8):List Int:=A3j (Za m)
def aW(leaf c p:Int)(x:List UInt8):List UInt8:=(sha256 (Az 1 [[UInt8.ofInt leaf,UInt8.ofInt c,UInt8.ofInt p],x])).take 16
def NY:Nat->Int->Int->Int->List UInt8->List UInt8
 | 0,_,_,_,x=>x
 | n+1,leaf,c,p,x=>NY n leaf c (p+1) (aW leaf c p x)
def Hq(seed:List UInt8)(leaf c:Int):List UInt8:=BG seed [99,104,97,105,110] [UInt8.ofInt leaf,UInt8.ofInt c] 16
def VQ(leaf:Int)(x:List UInt8):List UInt8:=(sha256 (Az 2 [[UInt8.ofInt leaf],x])).take 16
theorem A3k(b:UInt8):0<=hiN b/\hiN b<=15:=by have:=b.toNat_lt;unfold hiN;omega
theorem A3l(b:UInt8):0<=loN b/\loN b<=15:=by unfold loN;omega
theorem ABp(b:UInt8):EJ (BP b (UInt64.ofNat 4).toNat)=hiN b:=by
 rw[LP,xH];unfold u8shr0 hiN
 have:=b.toNat_lt
 rw[show min (UInt64.ofNat 4).toNat 8=4 from rfl,UInt8.toNat_ofNat']
 congr 1;omega
theorem ABq(b:UInt8):EJ (CU .and b (UInt8.ofNat 15))=loN b:=by
 rw[LP,A2z];unfold loN
 rw[UInt8.toNat_and,show(UInt8.ofNat 15).toNat=2^4-1 from rfl,Nat.and_two_pow_sub_one_eq_mod]
theorem XD:∀ l:List UInt8,0<=LY l/\LY l<=30*l.length
 | []=>by simp[LY]
 | b::l=>by
  have h1:=A3k b
  have h2:=A3l b
  have h3:=XD l
  simp only[LY,List.length_cons];omega
theorem Ee:∀ l:List UInt8,(Pq l).length=2*l.length
 | []=>rfl
 | b::l=>by have:=Ee l;simp only[Pq] at *;simp[this];omega
theorem A3m(m:List UInt8):Pq (l++m)=Pq l++Pq m:=by simp[Pq]
theorem mO:∀ l m:List UInt8,LY (l++m)=LY l+LY m
 | [],m=>by simp[LY]
 | b::l,m=>by simp only[List.cons_append,LY,mO l m];omega
theorem EY:(Za m).length=16:=by simp[Za,A7]
theorem EM(c p:Int)(x:List UInt8):(aW leaf c p x).length=16:=by simp[aW,A7]
theorem O5:∀(n:Nat) (leaf c p:Int) (x:List UInt8),x.length=16->(NY n leaf c p x).length=16
 | 0,_,_,_,x,h=>h
 | n+1,leaf,c,p,x,h=>O5 n leaf c (p+1) _ (EM _ _ _ _)
theorem DZ(seed:List UInt8)(leaf c:Int):(Hq seed leaf c).length=16:=Et zaa
theorem uU(x:List UInt8):(VQ leaf x).length=16:=by simp[VQ,A7]
def NL(leaf:Int)(st:Nat->List UInt8)(fr to:Nat->Int)(n:Nat):List UInt8:=(List.range n).flatMap fun(c:Nat)=>NY (to c-fr c).toNat leaf c (fr c) (st c)
theorem Oh(st:Nat->List UInt8)(fr to:Nat->Int)(n:Nat):NL leaf st fr to (n+1)=NL leaf st fr to n++NY (to n-fr n).toNat leaf n (fr n) (st n):=by
 unfold NL;rw[List.range_succ,List.flatMap_append];simp
theorem Qk(leaf:Int)(st:Nat->List UInt8)(fr to:Nat->Int)(m:Nat)(hs:∀ c,c<m->(st c).length=16):∀ n,n<=m->(NL leaf st fr to n).length=16*n
 | 0,_=>rfl
 | n+1,h=>by rw[Oh,List.length_append,Qk leaf st fr to m hs n zaa,O5 _ _ _ _ _ (hs n zaa)];omega
def IW(seed:List UInt8)(leaf:Int):List UInt8:=if 0<=leaf/\leaf<=255 then VQ leaf (NL leaf (fun c=>Hq seed leaf c) (fun c=>0) (fun c=>15) 35) else []
def UJ(seed:List UInt8)(leaf:Int)(m:List UInt8):List UInt8:=if 0<=leaf/\leaf<=255 then NL leaf (fun c=>Hq seed leaf c) (fun c=>0) (fun c=>(Jy m).getD c 0) 35 else []
def ABr(leaf:Int)(m sig:List UInt8):List UInt8×Bool:=if(0<=leaf/\leaf<=255)/\sig.length=560 then(VQ leaf (NL leaf (fun c=>(sig.drop (16*c)).take 16) (fun c=>(Jy m).getD c 0) (fun c=>15) 35),true) else([],false)
theorem A3n:(Jy m).length=35:=by simp[Jy,A3j,Ee,EY]
theorem mP:∀(l:List UInt8),∀ x∈Pq l,0<=x/\x<=15
 | [],x,h=>za0
 | b::l,x,h=>by
  simp only[Pq,List.flatMap_cons,List.mem_append,List.mem_cons,List.not_mem_nil,or_false] at h
  rcases h with(rfl|rfl)|h
  ·exact A3k b
  ·exact A3l b
  ·exact mP l x h
theorem A3o:∀ x∈Jy m,0<=x/\x<=15:=by
 intro x hx
 have h1:=XD (Za m)
 rw[EY] at h1
 simp only[Jy,A3j,List.mem_append,List.mem_cons,List.not_mem_nil,or_false] at hx
 rcases hx with hx|rfl|rfl|rfl
 ·exact mP _ x hx
 ·omega
 ·omega
 ·omega
theorem aX{seed m:List UInt8}{leaf:Int}(h:0<=leaf/\leaf<=255):(UJ seed leaf m).length=560:=by
 unfold UJ
 rw[if_pos h,Qk _ _ _ _ 35 (fun c _=>DZ _ _ _) 35 (Nat.le_refl _)]
def iG:List Int->Int
 | []=>0
 | x::l=>15-x+iG l
theorem VR:∀ l:List UInt8,iG (Pq l)=LY l
 | []=>rfl
 | b::l=>by
  have:=VR l
  simp only[Pq] at *
  simp only[List.flatMap_cons,List.cons_append,List.nil_append,iG,LY,this];omega
theorem Oi:(Pq (Za m)).length=32:=by rw[Ee,EY]
def L9:List Int->List Int->Bool
 | a::x,b::y=>decide (b<a)||L9 x y
 | _,_=>false
theorem Yc:∀ x:List Int,L9 x x=false
 | []=>rfl
 | a::x=>by simp[L9,Yc x]
theorem aY:∀(x1 y1 x2 y2:List Int),x1.length=y1.length->L9 (x1++x2) (y1++y2)=(L9 x1 y1||L9 x2 y2)
 | [],[],x2,y2,_=>by simp[L9]
 | a::x1,b::y1,x2,y2,h=>by simp only[List.cons_append,L9,aY x1 y1 x2 y2 za8,Bool.or_assoc]
 | [],b::y1,x2,y2,h|a::x1,[],x2,y2,h=>zbq
theorem A3p:∀(x y:List Int),x.length=y.length->L9 x y=false->iG y<=iG x/\(iG x=iG y->x=y)
 | [],[],_,_=>by simp[iG]
 | a::x,b::y,h,hg=>by
  simp only[L9,Bool.or_eq_false_iff,decide_eq_false_iff_not] at hg
  obtain⟨h1,h2⟩:=A3p x y za8 hg.2
  simp only[iG]
  refine⟨by omega,fun e=>?_⟩
  obtain rfl:a=b:=zaa
  rw[h2 zaa]
 | [],b::y,h,_|a::x,[],h,_=>zbq
theorem A3q(a b:List UInt8)(h:L9 (Jy a) (Jy b)=false):Jy a=Jy b:=by
 unfold Jy A3j at h
 rw[aY _ _ _ _ (by rw[Oi,Oi]),Bool.or_eq_false_iff] at h
 obtain⟨h1,h2⟩:=h
 obtain⟨h3,h4⟩:=A3p _ _ (by rw[Oi,Oi]) h1
 rw[VR,VR] at h3 h4
 simp only[L9,Bool.or_eq_false_iff,decide_eq_false_iff_not] at h2
 have e:LY (Za a)=LY (Za b):=zaa
 unfold Jy A3j
 rw[h4 e,e]
theorem cross(a b:List UInt8):(L9 (Jy a) (Jy b)==L9 (Jy b) (Jy a))=true/\(L9 (Jy a) (Jy b) != decide (Jy a=Jy b))=true:=by
 by_cases h:Jy a=Jy b
 ·rw[h,Yc];simp
 ·cases h1:L9 (Jy a) (Jy b)
  ·exact absurd (A3q a b h1) h
  ·cases h2:L9 (Jy b) (Jy a)
   ·exact absurd (A3q b a h2).symm h
   ·simp[h]
end Go.Ax
namespace Go.Ax
open Go Go.Eng Go.RowKit
variable {key seed nonce:List UInt8}{k:Nat}
def iI:List UInt8:=[115,105,103,110,101,114]
def lsB(seed:List UInt8)(h:Int):List UInt8:=BG seed iI [UInt8.ofInt h] 32
def VT(seed:List UInt8)(k:Nat):List (List UInt8):=(List.range (2^k)).map fun(i:Nat)=>IW (lsB seed k) i
def IJ(seed:List UInt8)(h:Int):List UInt8:=if 0<=h/\h<=3 then UInt8.ofInt h::Ov (VT seed h.toNat) else []
def GI(seed:List UInt8)(h leaf:Int)(m:List UInt8):List UInt8 :=
 if(0<=h/\h<=3)/\0<=leaf/\leaf<(2:Int)^h.toNat then UInt8.ofInt leaf::(UJ (lsB seed h) leaf m++(Ox leaf (VT seed h.toNat)).flatten) else []
def Ye:Nat->List UInt8->List (List UInt8)
 | 0,_=>[]
 | k+1,s=>s.take 16::Ye k (s.drop 16)
def A3t(p s:List UInt8):Prop:=p.length=17/\(p.getD 0 0).toNat<=3/\s.length=561+16*(p.getD 0 0).toNat/\(s.getD 0 0).toNat<2^(p.getD 0 0).toNat
instance (p s:List UInt8):Decidable (A3t p s):=by unfold A3t;exact inferInstance
def ABt(p m s:List UInt8):List UInt8:=A3s (ABr (s.getD 0 0).toNat m ((s.drop 1).take 560)).1 (s.getD 0 0).toNat (Ye (p.getD 0 0).toNat (s.drop 561))
def JD(p m s:List UInt8):Int×Bool:=if A3t p s/\ABt p m s=p.drop 1 then(((s.getD 0 0).toNat:Int),true) else(0,false)
theorem UM(seed:List UInt8)(h:Int):(lsB seed h).length=32:=Et zaa
theorem KZ(seed:List UInt8)(k:Nat):(VT seed k).length=2^k:=by simp[VT]
theorem Ql(h:k<=3):1<=2^k/\2^k<=8:=⟨Nat.one_le_two_pow,Nat.le_trans (Nat.pow_le_pow_right zaa h) zaj⟩
theorem Ko(k:Nat):(2:Int)^k=((2^k:Nat):Int):=zat
theorem mY{i:Int}(h:0<=i/\i<=255):(IW seed i).length=16:=by rw[IW,if_pos h,uU]
theorem A3u(hk:k<=3):∀ x∈VT seed k,x.length=16:=by
 intro x hx
 have:=Ql hk
 simp only[VT,List.mem_map,List.mem_range] at hx
 obtain⟨i,hi,rfl⟩:=hx
 exact mY zaa
theorem iJ(hk:k<=3):∀ x∈VT seed k,x.length<=1000000:=fun x hx=>by rw[A3u hk x hx];decide
theorem A3v(hk:k<=3):(VT seed k).length<=1000:=by rw[KZ];have:=Ql hk;omega
theorem iK{i:Nat}(hi:i<2^k):(VT seed k).getD i []=IW (lsB seed k) i:=by
 rw[List.getD,List.getElem?_eq_getElem (by rw[KZ];exact hi)];simp[VT]
theorem AAD(h i:Int)(l r:List UInt8):(O6 h i l r).length=16:=by simp[O6,A7]
theorem A3w(h:Int):∀(n:Nat) (i:Int) (ls:List (List UInt8)),ls.length<=n->∀ x∈Wq h i ls,x.length=16
 | 0,i,ls,hl=>by rw[UK _ _ _ zaa];intro x hx;cases hx
 | n+1,i,[],_|n+1,i,[_],_=>by intro x hx;cases hx
 | n+1,i,l::r::t,hl=>by
  intro x hx
  simp only[Wq,List.mem_cons] at hx
  rcases hx with rfl|hx
  ·exact AAD _ _ _ _
  ·exact A3w h n (i+1) t zbH x hx
theorem mZ:∀(k:Nat) (h i:Int) (ls:List (List UInt8)),ls.length=2^k->0<=i->i<ls.length->(∀ l∈ls,l.length=16)->∀ l∈RQ k h i ls,l.length=16
 | 0,h,i,ls,_,_,_,hm,l,hl=>by cases hl
 | k+1,h,i,ls,hn,h0,hi,hm,l,hl=>by
  rw[RQ] at hl
  have hu:(Wq h 0 ls).length=2^k:=by rw[Oj h _ 0 ls (Nat.le_refl _),hn,Nat.pow_succ];omega
  have h2:(ls.length:Int)=2*(2^k:Nat):=by rw[hn,Nat.pow_succ];omega
  rcases List.mem_cons.1 hl with rfl|hl
  ·have hs:(sib i).toNat<ls.length:=by unfold sib;split<;>omega
   simp only[List.getD,List.getElem?_eq_getElem hs,Option.getD_some];exact hm _ (List.getElem_mem hs)
  ·exact mZ k (h+1) (i/2) _ hu zaa (by rw[hu];omega) (A3w h _ 0 ls (Nat.le_refl _)) l hl
theorem yR{i:Int}(hk:k<=3)(h0:0<=i)(hi:i<(2:Int)^k):(Ox i (VT seed k)).length=k/\∀ l∈Ox i (VT seed k),l.length=16:=by
 have hl:=KZ seed k
 have hh:=VS hk hl
 rw[Ko] at hi
 have hp:Ox i (VT seed k)=RQ k 0 i (VT seed k):=by unfold Ox;rw[hh,if_neg (by rw[hl];omega),Int.toNat_natCast]
 rw[hp]
 exact⟨ag _ _ _ _,mZ k 0 i _ hl h0 (by rw[hl];exact hi) (A3u hk)⟩
theorem iL(hk:k<=3):(Ov (VT seed k)).length=16:=by
 have hl:=KZ seed k
 rcases Nat.eq_zero_or_pos k with rfl|hp
 ·have hh:=VS hk hl
  unfold Ov
  rw[hh,if_neg zaa,show((0:Nat):Int).toNat=0 from rfl,aZ,iK zat]
  exact mY zaa
 ·exact AAC hk hl (by rw[hl];exact Nat.one_lt_two_pow zaa)
theorem A3x{h:Int}(hh:0<=h/\h<=3):(IJ seed h).length=17:=by
 rw[IJ,if_pos hh,List.length_cons,iL zaa]
theorem yS(seed:List UInt8)(h:Int):(IJ seed h).length<=17:=by
 by_cases hh:0<=h/\h<=3
 ·rw[A3x hh];exact Nat.le_refl _
 ·rw[IJ,if_neg hh];simp
theorem ah{n:Nat}:∀ {l:List (List UInt8)},(∀ x∈l,x.length=n)->l.flatten.length=n*l.length
 | [],_=>zat
 | x::l,h=>by rw[List.flatten_cons,List.length_append,h x zat,ah (fun y hy=>h y (by simp[hy])),List.length_cons,Nat.mul_succ];omega
theorem A3y{m:List UInt8}{h leaf:Int}(hh:0<=h/\h<=3)(hl:0<=leaf/\leaf<(2:Int)^h.toNat):(GI seed h leaf m).length=561+16*h.toNat:=by
 have h8:=Ql (k:=h.toNat) zaa
 have hi:=hl
 rw[Ko] at hi
 obtain⟨p1,p2⟩:=yR (seed:=seed) (k:=h.toNat) (i:=leaf) zaa hl.1 hl.2
 rw[GI,if_pos ⟨hh,hl⟩,List.length_cons,List.length_append,aX zaa,ah p2,p1];omega
theorem VU:∀(k:Nat) (s:List UInt8),(Ye k s).length=k
 | 0,_=>rfl
 | k+1,s=>by rw[Ye,List.length_cons,VU k]
def Ws(a b:List UInt8):List UInt8:=List.zipWith (· ^^^ ·) a b
def Yf:List UInt8:=[101,110,99,114,121,112,116]
def A3z:List UInt8:=[97,117,116,104,101,110,116,105,99,97,116,101]
def A0b(key nonce b:List UInt8):List UInt8:=Ws b (BG key Yf nonce (b.length:Int))
def A7K(key nonce ad c:List UInt8):List UInt8:=Ya (BG key A3z nonce 32) (Az 0 [ad,nonce,c])
def mf(nonce c t:List UInt8):List UInt8:=Hy (Hy [] nonce) c++t
def Pv(key nonce ad plain:List UInt8):List UInt8 :=
 if 64<nonce.length\/1024<plain.length then [] else mf nonce (A0b key nonce plain) (A7K key nonce ad (A0b key nonce plain))
def ai(key ad b:List UInt8):List UInt8×Int :=
 let n:=Fg b 0 0 64
 let c:=Fg b n.2.1 n.2.2 1024
 let t:=lw b c.2.1 c.2.2 32
 let e:=PI b t.2.1 t.2.2
 if e≠0 then([],e) else if t.1≠A7K key n.1 ad c.1 then([],18) else(A0b key n.1 c.1,0)
theorem aj{label ctx:List UInt8}{n:Nat}(h:n<=1024):(BG key label ctx (n:Int)).length=n:=by
 rcases Nat.eq_zero_or_pos n with rfl|hp
 ·rfl
 ·rw[Et zaa];simp
theorem mi{b:List UInt8}(h:b.length<=1024):(A0b key nonce b).length=b.length:=by
 rw[A0b,Ws,List.length_zipWith,aj h,Nat.min_self]
theorem MV(key nonce ad c:List UInt8):(A7K key nonce ad c).length=32:=C9 _ _
theorem A40{c t:List UInt8}(hn:nonce.length<=65535)(hc:c.length<=65535):mf nonce c t=Wl nonce.length++nonce++(Wl c.length++c++(t++[])):=by
 rw[mf,Ph hn,Ph hc]
 simp only[List.append_assoc,List.append_nil,List.nil_append]
theorem A0c{c t:List UInt8}(hn:nonce.length<=65535)(hc:c.length<=65535):(mf nonce c t).length=4+nonce.length+c.length+t.length:=by
 rw[A40 hn hc]
 simp only[List.length_append,Pe,List.length_nil];omega
theorem ak{ad plain:List UInt8}(hn:nonce.length<=64)(hp:plain.length<=1024):(Pv key nonce ad plain).length=36+nonce.length+plain.length:=by
 have hs:=mi (key:=key) (nonce:=nonce) hp
 rw[Pv,if_neg zaa,A0c zaa zaa,MV,hs];omega
end Go.Ax
namespace Go.Proofs.YtlpkjhhfhannpaaGreatDoor
open Go Go.RowKit Go.Eng Go.ChangeShapes Go.WideShapes Go.ChangeAt Go.Ax
theorem WE{H:Type}{enc:TypeId×Value->H}{P:Program}(hl:laidOutB P=true){W W':World}(he:Ext W W'){sp:Nat->Bool}:
  ∀ {ts:List TypeId} {vs:List Value} {ds:List (DataW H)} {ps:List MemPlace},(ts.all fun t=>P.readableRec t&&decide (t<P.types.size))=true ->
  DataW.TrodAll enc P W 0 (fun _=>true) true ts vs ds ps->(∀ p∈ps,p.block<W.heap.size)->(∀ p∈ps,sp p.block=true)->DataW.TrodAll enc P W' 0 sp true ts vs ds ps
 | [],_,_,_,_,h,_,_=>by
  obtain⟨rfl,rfl,rfl⟩:=trodAll_nil h
  exact trodAll_mk0
 | t::ts,_,_,_,hr,h,hlt,hsp=>by
  obtain⟨v,vs1,d,ds1,a,b,rfl,rfl,rfl,h1,h2⟩:=trodAll_cons h
  simp only[List.all_cons,Bool.and_eq_true,decide_eq_true_eq] at hr
  exact⟨a,b,WideElems.Trod_stays hl hr.1.1 hr.1.2 h1 (fun x hx=>he.same (hlt x (by simp[hx]))) (fun x hx=>hsp x (by simp[hx])),
   WE hl he hr.2 h2 (fun x hx=>hlt x (by simp[hx])) (fun x hx=>hsp x (by simp[hx])),rfl⟩
theorem A0R{H:Type}{enc:TypeId×Value->H}{P:Program}{f:Func}{s:ChangeSpec}{W W':World}{args:Array Value}{ds gs:List (DataW H)}{before:List MemPlace}{tb:TypeId}
  (hW:DataW.Whole enc P f.params.toList s.vars false W args.toList ds gs before) (hl:laidOutB P=true) (hr:(f.params.toList.all fun t=>P.readableRec t&&decide (t<P.types.size))=true)
  (hv:s.vars=[]) (hres:f.resultTypes = #[tb]) (htb:P.underlying tb=some .bool) (h1:(s.fn H ds).results=[.lit (.bool true)]) (h2:(s.fn H ds).args=ds) (h3:(s.fn H ds).vars=[]) (he:Ext W W') :
  s.post enc P f false true false false W args (.bool true) W':=by
 have hW':=hW
 have hlt:∀ p∈before,p.block<W.heap.size:=fun p hp=>hW'.lt p hp
 obtain⟨p,q,hA,hV,rfl,hfz,hnd⟩:=hW
 rw[hv] at hV
 obtain⟨rfl,rfl⟩:=trodVars_none hV
 refine⟨ds,[],_,[],p,[],hW',?_,?_,?_,?_,fun h=>by cases h⟩
 ·rw[hres,List.append_nil,h1]
  exact trodAll_cons_mk (shut_bool htb _) trodAll_mk0
 ·rw[List.append_nil,h2]
  exact WE hl he hr hA (fun x hx=>hlt x zbm) (fun x hx=>by simpa using hlt x zbm)
 ·rw[List.append_nil,h3,hv];rfl
 ·exact he.frame _
theorem laidOut:laidOutB Tryz.prog=true:=zaw
theorem own:ownKnob Tryz.prog.godebug=none:=zaw
theorem A0S{H:Type}{enc:TypeId×Value->H}{P:Program}{t:TypeId}{W:World}{base:Nat}{v:Value}{d:DataW H}{p:List MemPlace}(ht:P.underlying t=some (.int .u8))
  (hval:Value.okWide P W .any base t v) (h:DataW.Trod enc P W 0 (fun _=>true) true t v d p):∃ b,v=byteV b:=by
 obtain⟨n,rfl,_,_,hw⟩:=open_int ht hval h
 have:=bounds_u8 hw
 refine⟨UInt8.ofNat n.toNat,?_⟩
 simp only[byteV,UInt8.toNat_ofNat']
 congr 1
 omega
theorem A0T{f:FuncId}{ins:List AV}(h:Y E0 (.call f ins [])=some (.ret (.b true) [])){w:World}{args:List Value}(hI:∀ w',Ext w w'->I0 w')(hr:Af ⟨fun k=>k<0,fun _=>undef,No,w⟩ ins args):Calls Tryz.prog f args.toArray w (zW fun v w'=>v=.bool true/\Ext w w'):=by
 refine zW.mono (LQ e0 h (fun _=>undef) No w args ⟨fun b hb=>hb.elim,fun w' hs=>hI w' hs.ext⟩ hr ⟨(fun k R h=>by cases h),(fun k k' R R' b h=>by cases h),fun k h=>absurd h (Hf k)⟩) ?_
 rintro v w' ⟨ν',ok⟩
 have h1:=ok.rep
 simp only[Rep] at h1
 refine⟨h1,(ok.stp.mono fun i _ hh=>?_).ext⟩
 obtain⟨k,R,hk,_⟩:=hh
 cases hk
theorem NH{τ:Ty}{x:El τ}{v:Value}{w:World}{N:Nat->Prop}{ν:Nat->Value}{a:AV}(hf:flat τ x=[a])(hc:v.cells.toList=[v])(h:CR τ x v.cells.toList w):Af ⟨N,ν,No,w⟩ [a] [v]:=by
 rw[hc] at h
 have:=CR.reps (c:=⟨N,ν,No,w⟩) (fun w' hs=>h.ext (Stp.ext hs))
 rw[hf] at this;exact this
mutual
def uQ{H:Type}:DataW H->List Value
 | .lit (.int k n)=>[.int k n]
 | .agg l=>lvL l
 | _=>[]
def lvL{H:Type}:List (DataW H)->List Value
 | []=>[]
 | d::r=>uQ d++lvL r
end
theorem yK{H:Type}:∀(a b:List (DataW H)),lvL (a++b)=lvL a++lvL b
 | [],b=>rfl
 | x::a,b=>by rw[List.cons_append,lvL,lvL,yK a b,List.append_assoc]
section
variable {H:Type}{enc:TypeId×Value->H}{P:Program}{w:World}{base:Nat}{sp:Nat->Bool}{held:Bool}{fuel:Nat}{t e:TypeId}{n s:Nat}{cs:List Value}{d:DataW H}{p:List MemPlace}
theorem uS{k:IntKind}(ht:P.underlying t=some (.int k))(h:DataW.trod enc P w base sp held fuel t cs=some (d,p)):cs=uQ d:=by
 obtain⟨n,rfl,hx,_⟩:=DataW.trod_int ht h
 obtain⟨rfl,-⟩:=Prod.mk.inj hx
 rfl
theorem A3I(xs:List (DataW H×List MemPlace))(hs:cs.length=xs.length*s)(hel:∀ i b,xs[i]?=some b->(cs.drop (i*s)).take s=uQ b.1):cs=lvL (xs.map (·.1)):=by
 have key:∀ i,i<=xs.length->cs.take (i*s)=lvL ((xs.map (·.1)).take i):=by
  intro i
  induction i with
  | zero=>intro _;simp[lvL]
  | succ i ih =>
   intro hi
   have hlt:i<xs.length:=zaa
   have h1:=hel i xs[i] (List.getElem?_eq_getElem hlt)
   have h2:(xs.map (·.1)).take (i+1)=(xs.map (·.1)).take i++[(xs[i]).1]:=by
    rw[List.take_succ_eq_append_getElem (by simpa using hlt)];simp
   rw[h2,yK,<-ih zaa,show lvL [(xs[i]).1]=uQ (xs[i]).1 from by simp[lvL],<-h1,Nat.add_mul,Nat.one_mul,List.take_add]
 have:=key xs.length (Nat.le_refl _)
 rw[List.take_of_length_le zaa,List.take_of_length_le zat] at this
 exact this
theorem uT(ht:P.underlying t=some (.array n e))(hce:P.cellsOf e=s)(hct:P.cellsOf t=n*s)(hel:∀ fuel cs d p,DataW.trod enc P w base sp held fuel e cs=some (d,p)->cs=uQ d)(h:DataW.trod enc P w base sp held fuel t cs=some (d,p)):cs=uQ d:=by
 cases fuel with
 | zero=>simp[DataW.trod] at h
 | succ fuel =>
  simp only[DataW.trod,ht,hce,hct] at h
  split at h
  ·rename_i hl
   obtain⟨xs,hm,hx⟩:=Option.map_eq_some_iff.1 h
   obtain⟨rfl,-⟩:=Prod.mk.inj hx
   have hxl:xs.length=n:=by simpa using Lib.mapM_length hm
   rw[uQ]
   refine A3I (s:=s) xs (by rw[hl,hxl]) fun i b hb=>?_
   have hi:i<n:=by rw[<-hxl];exact(List.getElem?_eq_some_iff.1 hb).1
   obtain⟨b',hb',hf⟩:=Lib.mapM_at hm i i (by simp[hi])
   obtain rfl:=Option.some.inj (hb.symm.trans hb')
   exact hel _ _ b.1 b.2 hf
  ·cases h
theorem ABW{fs:Array Field}(ht:P.underlying t=some (.struct fs))(hct:P.cellsOf t=fs.size)(hf:∀(i:Nat) (f:Field),fs[i]?=some f->f.offset=i/\P.cellsOf f.type=1/\P.underlying f.type=some (.int .i64))(h:DataW.trod enc P w base sp held fuel t cs=some (d,p)):cs=uQ d:=by
 obtain⟨xs,m,rfl,hx,hl,hxl,hg⟩:=DataW.trod_struct ht h
 obtain⟨rfl,-⟩:=Prod.mk.inj hx
 rw[uQ]
 refine A3I (s:=1) xs (by rw[hl,hct,hxl,Nat.mul_one]) fun i b hb=>?_
 have hi:i<fs.size:=by rw[<-hxl];exact(List.getElem?_eq_some_iff.1 hb).1
 obtain⟨q1,q2,q3⟩:=hf i fs[i] (Array.getElem?_eq_getElem hi)
 have h2:=hg i fs[i] (Array.getElem?_eq_getElem hi)
 rw[q1,q2,hb] at h2
 rw[Nat.mul_one]
 exact uS (d:=b.1) (p:=b.2) q3 h2
end
theorem yL{P:Program}{W:World}:∀ {l:List (String×DataW Unit)} {ps:List MemPlace},DataW.LaidVars P W l ps->∀ x∈l,∃ g t cs fuel p,P.globalNamed x.1=some g/\(P.globals[g]?).map (·.type)=some t/\W.var? P x.1=some cs/\DataW.trod (fun _=>()) P W 0 (fun _=>true) false fuel t cs.toList=some (x.2,p)
 | [],_,_,x,hx=>by cases hx
 | (n,d)::r,ps,h,x,hx=>by
  obtain⟨g,t,cs,fuel,p,q,h1,h2,h3,h4,h5,-⟩:=h
  rcases List.mem_cons.1 hx with rfl|hx
  ·exact⟨g,t,cs,fuel,p,h1,h2,h3,h4⟩
  ·exact yL h5 x hx
theorem VP{P:Program}{W:World}{l:List (String×DataW Unit)}(h:laidMet P l W){x:String×DataW Unit}(hx:x∈l){g:Nat}{t:TypeId}(hg:P.globalNamed x.1=some g)(hty:(P.globals[g]?).map (·.type)=some t)
  (hel:∀ fuel cs p,DataW.trod (fun _=>()) P W 0 (fun _=>true) false fuel t cs=some (x.2,p)->cs=uQ x.2) (j:Nat):W.cell? ⟨g,j,none⟩=(uQ x.2)[j]?:=by
 obtain⟨ps,hl,-⟩:=h
 obtain⟨g',t',cs,fuel,p,h1,h2,h3,h4⟩:=yL hl x hx
 obtain rfl:=Option.some.inj (hg.symm.trans h1)
 obtain rfl:=Option.some.inj (hty.symm.trans h2)
 rw[World.var?_cell hg h3 j,<-hel _ _ _ h4,Array.getElem?_toList]
abbrev A3J:List (String×DataW Unit):=Rows.topBytesRow.laid
theorem kt{W:World}(h:laidMetH Tryz.prog A3J W):KT W:=by
 have h':laidMet Tryz.prog A3J W:=h
 have q0:=fun j=>VP h' (x:=("sealwright/digest.round256", Rows.laid_sealwright_digest_round256)) (by exact List.mem_cons_self ..) (g:=2) (t:=203) zaw zaw
  (fun fuel cs p hh=>uT (s:=1) Tryz.underlying203 zaw zaw (fun fuel cs d p=>uS Tryz.underlying202) hh) j
 have q1:=fun j=>VP h' (x:=("sealwright/command.magic", Rows.laid_sealwright_command_magic)) (by exact List.mem_cons_of_mem _ (List.mem_cons_self ..)) (g:=0) (t:=230) zaw zaw
  (fun fuel cs p hh=>uT (s:=1) Tryz.underlying230 zaw zaw (fun fuel cs d p=>uS Tryz.underlying5) hh) j
 have q2:=fun j=>VP h' (x:=("sealwright/command.forms", Rows.laid_sealwright_command_forms)) (by exact List.mem_cons_of_mem _ (List.mem_cons_of_mem _ (List.mem_cons_self ..))) (g:=1) (t:=233) zaw zaw
  (fun fuel cs p hh=>uT (s:=5) Tryz.underlying233 zaw zaw (fun fuel cs d p=>ABW Tryz.underlying232 zaw (fun i f hf=>by
   rcases i with _|_|_|_|_|i
   all_goals first|(obtain rfl:=Option.some.inj hf;exact⟨rfl,by kernel_rfl,Tryz.underlying3⟩)|exact absurd (Array.getElem?_eq_some_iff.1 hf).1 zat)) hh) j
 have e0:(uQ (Rows.laid_sealwright_digest_round256:DataW Unit))=JP.map wordV:=zaw
 have e1:(uQ (Rows.laid_sealwright_command_magic:DataW Unit))=magicV:=zaw
 have e2:(uQ (Rows.laid_sealwright_command_forms:DataW Unit))=formsV:=zaw
 refine⟨fun j hj=>?_,fun j u hu=>?_,fun j u hu=>?_⟩
 ·rw[Nat.zero_add,q0 j,e0,List.getElem?_map,List.getD_eq_getElem?_getD,List.getElem?_eq_getElem (show j<JP.length from hj)];rfl
 ·rw[q2 j,e2];exact hu
 ·rw[q1 j,e1];exact hu
def A3K(d:DataW Unit):Obj->Obj
 | .cells _ t frozen=>.cells (uQ d).toArray t frozen
 | o=>o
noncomputable def laidWorld(os:Os):World :=
 {World.holding Tryz.prog os ⟨#[],#[],[]⟩ with heap:=((((((World.holding Tryz.prog os ⟨#[],#[],[]⟩).heap.modify 2 (A3K Rows.laid_sealwright_digest_round256)).modify 0 (A3K Rows.laid_sealwright_command_magic)).modify 1 (A3K Rows.laid_sealwright_command_forms)).modify 5 (A3K Rows.laid_unicode_utf8_acceptRanges)).modify 4 (A3K Rows.laid_unicode_utf8_first))}
theorem hI0{w:World}(h:laidMetH Tryz.prog A3J w):∀ w',Ext w w'->I0 w':=fun w' he=>(kt h).ext he
end Go.Proofs.YtlpkjhhfhannpaaGreatDoor
namespace Go.Proofs.YtlpkjhhfhannpaaGreatDoor
open Go Go.Ax Go.Eng
attribute [local irreducible] CS Cj CP CW CQ BC Cm ED ES Dx EG CJ Bi Ce CX and' Cf CU BL Au BI BP BR Ag Ai AY Ae D5 EJ D6 DX Cb BZ BQ BM BO BJ AZ BK Aj Ak Ap D7 BB CV BU BF CO D8 Cc fits D9 Ci AC AQ Ah
variable (h:List UInt32)(l b p:List UInt8)(h0:UInt32)(ws:List UInt32)(h1 h2 h3 h4 h5 h6 h7:UInt32)
section
attribute [local irreducible] G8
theorem YX{ws s:List UInt32}{t:Nat}{x:UInt32}(h:ws.take t=s)(ht:t<ws.length):(ws.set t x).take (t+1)=s++[x]:=by
 subst h
 rw[List.take_succ_eq_append_getElem (by simpa using ht),List.getElem_set_self,List.take_set_of_le (Nat.le_refl t)]
theorem NI{ws s:List UInt32}{t j:Nat}(h:ws.take t=s)(hj:j<t):s.getD j 0=ws.getD j 0:=by
 subst h
 simp only[List.getD,List.getElem?_take,if_pos hj]
theorem A8h(t:Nat)(hs:ws.take t=Ey b t)(h:16<=t):
  Au .add (Au .add (Au .add (Au .xor (Au .xor (Oq (ws.getD (0+((t:Int)-2).toNat*1) 0) 17) (Oq (ws.getD (0+((t:Int)-2).toNat*1) 0) 19)) (AY (ws.getD (0+((t:Int)-2).toNat*1) 0) (UInt64.ofNat 10).toNat)) (ws.getD (0+((t:Int)-7).toNat*1) 0)) (Au .xor (Au .xor (Oq (ws.getD (0+((t:Int)-15).toNat*1) 0) 7) (Oq (ws.getD (0+((t:Int)-15).toNat*1) 0) 18)) (AY (ws.getD (0+((t:Int)-15).toNat*1) 0) (UInt64.ofNat 3).toNat))) (ws.getD (0+((t:Int)-16).toNat*1) 0)=OM b (Ey b t) t:=by
 rw[show 0+((t:Int)-2).toNat*1=t-2 from by omega,show 0+((t:Int)-7).toNat*1=t-7 from by omega,show 0+((t:Int)-15).toNat*1=t-15 from by omega,show 0+((t:Int)-16).toNat*1=t-16 from by omega]
 rw[OM,if_neg zaa,NI hs (show t-2<t by omega),NI hs (show t-7<t by omega),NI hs (show t-15<t by omega),NI hs (show t-16<t by omega)]
 rw[I9 zaj,I9 zaj]
 simp only[KU,Jd]
 rfl
theorem yN(b:List UInt8)(h0 h1 h2 h3 h4 h5 h6 h7:UInt32)(hb:b.length=64):∀(k t:Nat) (ws:List UInt32),t+k=64->ws.length=64->ws.take t=Ey b t ->
  Y E0 (.loop 285 0 1 2 [(0,AV.pa 0 0),(1,AV.sl Ty.u8 b),(4,AV.pa 1 0),(17,AV.i t)] [(0,some (.var [.u32 h0,.u32 h1,.u32 h2,.u32 h3,.u32 h4,.u32 h5,.u32 h6,.u32 h7])),(1,some (Rs.var (G8 ws)))])=some (.fin (.exit 0) 2 [(0,AV.pa 0 0),(4,AV.pa 1 0)] [(0,some (.var [.u32 h0,.u32 h1,.u32 h2,.u32 h3,.u32 h4,.u32 h5,.u32 h6,.u32 h7])),(1,some (Rs.var (G8 (Ey b 64))))])
 | 0,t,ws,hk,hw,hs=>by
  have e:ws=Ey b 64:=zbs
  rw[<-e]
  rw[AL];conv=>lhs;whnf
  rw[A37 hw (show 64<=t by omega)]
  refine Bl ?_
  rfl
 | k+1,t,ws,hk,hw,hs=>by
  have ih:=fun x (hx:x=OM b (Ey b t) t)=>yN b h0 h1 h2 h3 h4 h5 h6 h7 hb k (t+1) (ws.set t x) zaa (by simpa using hw) (by rw[YX hs zaa,hx];rfl)
  rw[AL];conv=>lhs;whnf
  refine Bl ?_
  rcases Bc (↑t) 16 with hc0|hc0
  ·
   refine Bl ?_
   rw[yM _ _ DJ DJ]
   conv=>lhs;whnf
   try dsimp -iota -beta -eta -zeta only
   rw[Fb zaa]
   conv=>lhs;whnf
   rw[Dl zaa]
   conv=>lhs;whnf
   try dsimp -iota -beta -eta -zeta only
   rw[MF zaa];conv=>lhs;whnf
   rw[O3 zaa]
   refine Bl ?_
   rw[LU hw]
   refine Bl ?_
   rw[show((t:Int)+1)=((t+1:Nat):Int) from by omega,show 0+((t:Nat):Int).toNat*1=t from by omega];refine(congrArg (Y E0) ?_).trans (ih (be32 b (4*t)) (by rw[OM,if_pos zaa]));rw[LU hw];rfl
  refine Bl ?_
  rw[ET zaa]
  refine Bl ?_
  rw[ET zaa]
  refine Bl ?_
  rw[A70 _]
  refine Bl ?_
  rw[A3O _]
  refine Bl ?_
  rw[A3P _]
  refine Bl ?_
  rw[A3Q _]
  refine Bl ?_
  rw[ET zaa]
  refine Bl ?_
  rw[ET zaa]
  conv=>lhs;whnf
  try dsimp -iota -beta -eta -zeta only
  rw[Fb zaa]
  conv=>lhs;whnf
  rw[Dl zaa]
  conv=>lhs;whnf
  try dsimp -iota -beta -eta -zeta only
  rw[MF zaa];conv=>lhs;whnf
  rw[O3 zaa]
  conv=>lhs;whnf
  try dsimp -iota -beta -eta -zeta only
  rw[LU hw]
  refine Bl ?_
  rw[show((t:Int)+1)=((t+1:Nat):Int) from by omega,show 0+((t:Nat):Int).toNat*1=t from by omega];refine(congrArg (Y E0) ?_).trans (ih _ (A8h b ws t hs zaa));rw[LU hw];rfl
theorem A3Y(hb:b.length=64):Y E0 (.loop 285 0 1 2 [(0,AV.pa 0 0),(1,AV.sl Ty.u8 b),(4,AV.pa 1 0),(17,AV.i 0)] [(0,some (.var [.u32 h0,.u32 h1,.u32 h2,.u32 h3,.u32 h4,.u32 h5,.u32 h6,.u32 h7])),(1,some (Rs.var [.u32 0,.u32 0,.u32 0,.u32 0,.u32 0,.u32 0,.u32 0,.u32 0,.u32 0,.u32 0,.u32 0,.u32 0,.u32 0,.u32 0,.u32 0,.u32 0,.u32 0,.u32 0,.u32 0,.u32 0,.u32 0,.u32 0,.u32 0,.u32 0,.u32 0,.u32 0,.u32 0,.u32 0,.u32 0,.u32 0,.u32 0,.u32 0,.u32 0,.u32 0,.u32 0,.u32 0,.u32 0,.u32 0,.u32 0,.u32 0,.u32 0,.u32 0,.u32 0,.u32 0,.u32 0,.u32 0,.u32 0,.u32 0,.u32 0,.u32 0,.u32 0,.u32 0,.u32 0,.u32 0,.u32 0,.u32 0,.u32 0,.u32 0,.u32 0,.u32 0,.u32 0,.u32 0,.u32 0,.u32 0]))])=some (.fin (.exit 0) 2 [(0,AV.pa 0 0),(4,AV.pa 1 0)] [(0,some (.var [.u32 h0,.u32 h1,.u32 h2,.u32 h3,.u32 h4,.u32 h5,.u32 h6,.u32 h7])),(1,some (Rs.var (G8 (Ey b 64))))]):=by
 have e:=yN b h0 h1 h2 h3 h4 h5 h6 h7 hb 64 0 (List.replicate 64 0) rfl rfl rfl
 rw[E5 (ws:=List.replicate 64 0) (n:=64) rfl] at e
 exact e
end
section
attribute [local irreducible] G8 JP Hz
theorem A3a(hw:ws.length=64)(h0 h1 h2 h3 h4 h5 h6 h7 a0 a1 a2 a3 a4 a5 a6 a7:UInt32):Y E0 (.loop 285 1 1 3 [(0,AV.pa 0 0),(4,AV.pa 1 0),(10,AV.pa 2 0),(70,AV.i 0)] [(0,some (.var [.u32 h0,.u32 h1,.u32 h2,.u32 h3,.u32 h4,.u32 h5,.u32 h6,.u32 h7])),(1,some (Rs.var ((List.range 64).map fun i=>AV.u32 (ws.getD i 0)))),(2,some (.var [.u32 a0,.u32 a1,.u32 a2,.u32 a3,.u32 a4,.u32 a5,.u32 a6,.u32 a7]))])=some (.fin (.exit 2) 2 [(0,AV.pa 0 0),(10,AV.pa 1 0)] [(0,some (.var [.u32 h0,.u32 h1,.u32 h2,.u32 h3,.u32 h4,.u32 h5,.u32 h6,.u32 h7])),(1,some (Rs.var (G8 (Hz ws 64 0 [a0,a1,a2,a3,a4,a5,a6,a7]))))]):=by
 have e:=yO ws hw h0 h1 h2 h3 h4 h5 h6 h7 64 0 a0 a1 a2 a3 a4 a5 a6 a7 rfl
 rw[E5 hw] at e
 exact e
theorem A7C(s0 s1 s2 s3 s4 s5 s6 s7:UInt32):Y E0 (.loop 285 2 1 2 [(0,.pa 0 0),(10,.pa 1 0),(152,.i 0)] [(0,some (.var [.u32 h0,.u32 h1,.u32 h2,.u32 h3,.u32 h4,.u32 h5,.u32 h6,.u32 h7])),(1,some (.var [.u32 s0,.u32 s1,.u32 s2,.u32 s3,.u32 s4,.u32 s5,.u32 s6,.u32 s7]))])=some (.fin (.exit 4) 1 [] [(0,some (.var [.u32 (h0+s0),.u32 (h1+s1),.u32 (h2+s2),.u32 (h3+s3),.u32 (h4+s4),.u32 (h5+s5),.u32 (h6+s6),.u32 (h7+s7)]))]):=by
 refine Bl ?_
 refine Bl ?_
 refine Bl ?_
 refine Bl ?_
 refine Bl ?_
 refine Bl ?_
 refine Bl ?_
 refine Bl ?_
 refine Bl ?_
 simp only[KU]
theorem A7D(hb:b.length=64):Y E0 (.call 285 [.pa 0 0,.sl .u8 b] [.var [.u32 h0,.u32 h1,.u32 h2,.u32 h3,.u32 h4,.u32 h5,.u32 h6,.u32 h7]])=some (.ret (.tup []) [some (.var ((List.range 8).map fun i=>.u32 ((Em [h0,h1,h2,h3,h4,h5,h6,h7] b).getD i 0)))]):=by
 rw[A0U]
 refine Bl ?_
 rw[A3Y (hb:=DJ) ..]
 refine Bl ?_
 ((conv in(close _ _ _ _)=>skip);rw[E5 (OO b 64)])
 refine Bl ?_
 (erw[A3a (Ey b 64) (OO b 64)])
 refine Bl ?_
 ((conv in(close _ _ _ _)=>skip);rw[E5 (Qh (Ey b 64) 64 0 [h0,h1,h2,h3,h4,h5,h6,h7] rfl)])
 refine Bl ?_
 rw[A7C ..]
 refine Bl ?_
 rfl
end
section
attribute [local irreducible] G8
theorem ZX(t:Nat)(hs:ws.take t=Nh b t)(h:16<=t):
  zi (Au .xor (Au .xor (Au .xor (ws.getD (0+((t:Int)-3).toNat*1) 0) (ws.getD (0+((t:Int)-8).toNat*1) 0)) (ws.getD (0+((t:Int)-14).toNat*1) 0)) (ws.getD (0+((t:Int)-16).toNat*1) 0)) 1=jm b (Nh b t) t:=by
 rw[show 0+((t:Int)-3).toNat*1=t-3 from by omega,show 0+((t:Int)-8).toNat*1=t-8 from by omega,show 0+((t:Int)-14).toNat*1=t-14 from by omega,show 0+((t:Int)-16).toNat*1=t-16 from by omega]
 rw[jm,if_neg zaa,NI hs (show t-3<t by omega),NI hs (show t-8<t by omega),NI hs (show t-14<t by omega),NI hs (show t-16<t by omega)]
 simp only[Jd]
theorem A8i(b:List UInt8)(h0 h1 h2 h3 h4:UInt32)(hb:b.length=64):∀(k t:Nat) (ws:List UInt32),t+k=80->ws.length=80->ws.take t=Nh b t ->
  Y E0 (.loop 283 0 1 2 [(0,AV.pa 0 0),(1,AV.sl Ty.u8 b),(4,AV.pa 1 0),(14,AV.i t)] [(0,some (.var [.u32 h0,.u32 h1,.u32 h2,.u32 h3,.u32 h4])),(1,some (Rs.var (G8 ws)))])=some (.fin (.exit 0) 2 [(0,AV.pa 0 0),(4,AV.pa 1 0)] [(0,some (.var [.u32 h0,.u32 h1,.u32 h2,.u32 h3,.u32 h4])),(1,some (Rs.var (G8 (Nh b 80))))])
 | 0,t,ws,hk,hw,hs=>by
  have e:ws=Nh b 80:=by rw[<-show t=80 from by omega,<-hs,List.take_of_length_le zaa]
  rw[<-e]
  rw[AL];conv=>lhs;whnf
  rw[A37 hw (show 80<=t by omega)]
  refine Bl ?_
  rfl
 | k+1,t,ws,hk,hw,hs=>by
  have ih:=fun x (hx:x=jm b (Nh b t) t)=>A8i b h0 h1 h2 h3 h4 hb k (t+1) (ws.set t x) zaa (by simpa using hw) (by rw[YX hs zaa,hx];rfl)
  rw[AL];conv=>lhs;whnf
  refine Bl ?_
  rcases Bc (↑t) 16 with hc0|hc0
  ·
   refine Bl ?_
   rw[yM _ _ DJ DJ]
   conv=>lhs;whnf
   try dsimp -iota -beta -eta -zeta only
   rw[Fb zaa]
   conv=>lhs;whnf
   rw[Dl zaa]
   conv=>lhs;whnf
   try dsimp -iota -beta -eta -zeta only
   rw[MF zaa];conv=>lhs;whnf
   rw[O3 zaa]
   refine Bl ?_
   rw[LU hw]
   refine Bl ?_
   rw[show((t:Int)+1)=((t+1:Nat):Int) from by omega,show 0+((t:Nat):Int).toNat*1=t from by omega];refine(congrArg (Y E0) ?_).trans (ih (be32 b (4*t)) (by rw[jm,if_pos zaa]));rw[LU hw];rfl
  refine Bl ?_
  rw[ET zaa]
  refine Bl ?_
  rw[ET zaa]
  refine Bl ?_
  rw[ET zaa]
  refine Bl ?_
  rw[ET zaa]
  refine Bl ?_
  rw[A73 _]
  conv=>lhs;whnf
  try dsimp -iota -beta -eta -zeta only
  rw[Fb zaa]
  conv=>lhs;whnf
  rw[Dl zaa]
  conv=>lhs;whnf
  try dsimp -iota -beta -eta -zeta only
  rw[MF zaa];conv=>lhs;whnf
  rw[O3 zaa]
  conv=>lhs;whnf
  try dsimp -iota -beta -eta -zeta only
  rw[LU hw]
  refine Bl ?_
  rw[show((t:Int)+1)=((t+1:Nat):Int) from by omega,show 0+((t:Nat):Int).toNat*1=t from by omega];refine(congrArg (Y E0) ?_).trans (ih _ (ZX b ws t hs zaa));rw[LU hw];rfl
theorem AA5(hb:b.length=64):Y E0 (.loop 283 0 1 2 [(0,AV.pa 0 0),(1,AV.sl Ty.u8 b),(4,AV.pa 1 0),(14,AV.i 0)] [(0,some (.var [.u32 h0,.u32 h1,.u32 h2,.u32 h3,.u32 h4])),(1,some (Rs.var (List.replicate 80 (.u32 0))))])=some (.fin (.exit 0) 2 [(0,AV.pa 0 0),(4,AV.pa 1 0)] [(0,some (.var [.u32 h0,.u32 h1,.u32 h2,.u32 h3,.u32 h4])),(1,some (Rs.var (G8 (Nh b 80))))]):=by
 have e:=A8i b h0 h1 h2 h3 h4 hb 80 0 (List.replicate 80 0) rfl rfl rfl
 rw[E5 (ws:=List.replicate 80 0) (n:=80) rfl] at e
 exact e
end
section
attribute [local irreducible] G8 F7 WY
theorem AA6(hw:ws.length=80)(h0 h1 h2 h3 h4:UInt32):Y E0 (.loop 283 1 1 2 [(0,.pa 0 0),(4,.pa 1 0),(6,.u32 h0),(7,.u32 h1),(8,.u32 h2),(9,.u32 h3),(10,.u32 h4),(67,.i 0)] [(0,some (.var [.u32 h0,.u32 h1,.u32 h2,.u32 h3,.u32 h4])),(1,some (.var ((List.range 80).map fun i=>.u32 (ws.getD i 0))))])=some (.fin (.exit 2) 1 [(0,.pa 0 0),(6,.u32 (F7 ws 80 0 ⟨h0,h1,h2,h3,h4⟩).a),(7,.u32 (F7 ws 80 0 ⟨h0,h1,h2,h3,h4⟩).b),(8,.u32 (F7 ws 80 0 ⟨h0,h1,h2,h3,h4⟩).c),(9,.u32 (F7 ws 80 0 ⟨h0,h1,h2,h3,h4⟩).d),(10,.u32 (F7 ws 80 0 ⟨h0,h1,h2,h3,h4⟩).e)] [(0,some (.var [.u32 h0,.u32 h1,.u32 h2,.u32 h3,.u32 h4]))]):=by
 have e:=A8j ws hw h0 h1 h2 h3 h4 80 0 ⟨h0,h1,h2,h3,h4⟩ rfl
 rw[E5 hw] at e
 exact e
theorem ABj(hb:b.length=64):Y E0 (.call 283 [.pa 0 0,.sl .u8 b] [.var [.u32 h0,.u32 h1,.u32 h2,.u32 h3,.u32 h4]])=some (.ret (.tup []) [some (.var ((List.range 5).map fun i=>.u32 ((Lc [h0,h1,h2,h3,h4] b).getD i 0)))]):=by
 rw[A7F]
 refine Bl ?_
 (erw[AA5 b _ _ _ _ _ hb])
 refine Bl ?_
 ((conv in(close _ _ _ _)=>skip);rw[E5 (jo b 80)])
 refine Bl ?_
 (erw[AA6 (Nh b 80) (jo b 80)])
 refine Bl ?_
 simp only[KU];rfl
end
theorem mJ(l:List UInt8):∀(k:Nat) (x:List UInt8),k<64->(x.length+k)%64=56->x.length+k<=8589934592->Y E0 (.loop 282 0 0 1 [(0,.sl .u8 l),(3,.nm 0)] [(0,some (.row 5 .u8 x))])=some (.fin (.exit 0) 1 [(0,.sl .u8 l),(3,.nm 0)] [(0,some (.row 5 .u8 (x++List.replicate k 0)))])
 | 0,x,h,hm,hx=>by
  rw[AL];conv=>lhs;whnf
  refine Bl ?_
  simp
 | k+1,x,h,hm,hx=>by
  have ih:=mJ l k (BF x [UInt8.ofNat 0]) zaa (by rw[Ac,List.length_append,<-hm];simp;omega) (by rw[Ac,List.length_append];simp;omega)
  rw[AL];conv=>lhs;whnf
  refine Bl ?_
  exact ih.trans (by rw[Ac,List.append_assoc];rfl)
theorem A3d(x:List UInt8)(n:UInt64)(hx:x.length<=8589934592):Y E0 (.loop 282 1 0 1 [(3,.nm 0),(4,.u64 n),(5,.i 56)] [(0,some (.row 5 .u8 x))])=some (.fin (.exit 2) 0 [(3,.sl .u8 (x++A6B n))] []):=by
 refine Bl ?_
 refine Bl ?_
 refine Bl ?_
 refine Bl ?_
 refine Bl ?_
 refine Bl ?_
 refine Bl ?_
 refine Bl ?_
 refine Bl ?_
 rw[mG n _ 56 zaa,mG n _ 48 zaa,mG n _ 40 zaa,mG n _ 32 zaa,mG n _ 24 zaa,mG n _ 16 zaa,mG n _ 8 zaa,mG n _ 0 zaa];simp only[Ac,List.append_assoc];rfl
theorem A3e(h:l.length<=4294967296):Y E0 (.call 282 [.sl .u8 l] [])=some (.ret (.sl .u8 (PG l)) []):=by
 have e:=mJ l (zerosN l.length) (BF (BF [] l) [UInt8.ofNat 128]) (by unfold zerosN;omega) zaZ zaZ
 have f:=fun n=>A3d (BF (BF [] l) [UInt8.ofNat 128]++List.replicate (zerosN l.length) 0) n zaZ
 refine Bl ?_
 rw[e]
 refine Bl ?_
 (rw[f])
 refine Bl ?_
 simp only[Ac,AP,A3c,PG];rfl
theorem aT(l:List UInt8):∀(k:Nat) (x:List UInt8),k<64->(x.length+k)%64=56->x.length+k<=8589934592->Y E0 (.loop 143 0 0 1 [(0,.sl .u8 l),(3,.nm 0)] [(0,some (.row 5 .u8 x))])=some (.fin (.exit 0) 1 [(0,.sl .u8 l),(3,.nm 0)] [(0,some (.row 5 .u8 (x++List.replicate k 0)))])
 | 0,x,h,hm,hx=>by
  rw[AL];conv=>lhs;whnf
  refine Bl ?_
  simp
 | k+1,x,h,hm,hx=>by
  have ih:=aT l k (BF x [UInt8.ofNat 0]) zaa (by rw[Ac,List.length_append,<-hm];simp;omega) (by rw[Ac,List.length_append];simp;omega)
  rw[AL];conv=>lhs;whnf
  refine Bl ?_
  exact ih.trans (by rw[Ac,List.append_assoc];rfl)
theorem A0V(x:List UInt8)(n:UInt64)(hx:x.length<=8589934592):Y E0 (.loop 143 1 0 1 [(3,.nm 0),(4,.u64 n),(5,.i 7)] [(0,some (.row 5 .u8 x))])=some (.fin (.exit 2) 0 [(3,.sl .u8 (x++A6B n))] []):=by
 refine Bl ?_
 refine Bl ?_
 refine Bl ?_
 refine Bl ?_
 refine Bl ?_
 refine Bl ?_
 refine Bl ?_
 refine Bl ?_
 refine Bl ?_
 rw[WG n _ 56 zbu zaj,WG n _ 48 zbu zaj,WG n _ 40 zbu zaj,WG n _ 32 zbu zaj,WG n _ 24 zbu zaj,WG n _ 16 zbu zaj,WG n _ 8 zbu zaj,WG n _ 0 zbu zaj];simp only[Ac,List.append_assoc];rfl
theorem A7G(h:l.length<=4294967296):Y E0 (.call 143 [.sl .u8 l] [])=some (.ret (.sl .u8 (PG l)) []):=by
 have e:=aT l (zerosN l.length) (BF (BF [] l) [UInt8.ofNat 128]) (by unfold zerosN;omega) zaZ zaZ
 have f:=fun n=>A0V (BF (BF [] l) [UInt8.ofNat 128]++List.replicate (zerosN l.length) 0) n zaZ
 refine Bl ?_
 rw[e]
 refine Bl ?_
 (rw[f])
 refine Bl ?_
 simp only[Ac,AP,A3c,PG];rfl
section
attribute [local irreducible] Lc Em He
theorem aU:∀(n:Nat) (p:List UInt8) (h0 h1 h2 h3 h4:UInt32),p.length=64*n->p.length<=8589934592->Y E0 (.loop 210 0 0 1 [(5,.pa 0 0),(6,.sl .u8 p)] [(0,some (.var [.u32 h0,.u32 h1,.u32 h2,.u32 h3,.u32 h4]))])=some (.fin (.exit 1) 1 [(5,.pa 0 0)] [(0,some (.var ((List.range 5).map fun i=>.u32 ((He Lc n [h0,h1,h2,h3,h4] p).getD i 0))))])
 | 0,p,h0,h1,h2,h3,h4,hp,hq=>by
  rw[AL];conv=>lhs;whnf
  refine Bl ?_
  unfold He;rfl
 | n+1,p,h0,h1,h2,h3,h4,hp,hq=>by
  have ih:=aU n (p.drop 64) ((Lc [h0,h1,h2,h3,h4] (p.take 64)).getD 0 0) ((Lc [h0,h1,h2,h3,h4] (p.take 64)).getD 1 0) ((Lc [h0,h1,h2,h3,h4] (p.take 64)).getD 2 0) ((Lc [h0,h1,h2,h3,h4] (p.take 64)).getD 3 0) ((Lc [h0,h1,h2,h3,h4] (p.take 64)).getD 4 0) zaY zaY
  rw[ABk (Us _ _)] at ih
  rw[AL];conv=>lhs;whnf
  refine Bl ?_
  rw[ABj (hb:=DJ) ..]
  refine Bl ?_
  rw[A8l zaa];exact ih.trans (by rw[He])
theorem aV:∀(n:Nat) (p:List UInt8) (h0 h1 h2 h3 h4 h5 h6 h7:UInt32),p.length=64*n->p.length<=8589934592->Y E0 (.loop 210 1 0 1 [(7,.pa 0 0),(8,.sl .u8 p)] [(0,some (.var [.u32 h0,.u32 h1,.u32 h2,.u32 h3,.u32 h4,.u32 h5,.u32 h6,.u32 h7]))])=some (.fin (.exit 3) 1 [(7,.pa 0 0)] [(0,some (.var ((List.range 8).map fun i=>.u32 ((He Em n [h0,h1,h2,h3,h4,h5,h6,h7] p).getD i 0))))])
 | 0,p,h0,h1,h2,h3,h4,h5,h6,h7,hp,hq=>by
  rw[AL];conv=>lhs;whnf
  refine Bl ?_
  unfold He;rfl
 | n+1,p,h0,h1,h2,h3,h4,h5,h6,h7,hp,hq=>by
  have ih:=aV n (p.drop 64) ((Em [h0,h1,h2,h3,h4,h5,h6,h7] (p.take 64)).getD 0 0) ((Em [h0,h1,h2,h3,h4,h5,h6,h7] (p.take 64)).getD 1 0) ((Em [h0,h1,h2,h3,h4,h5,h6,h7] (p.take 64)).getD 2 0) ((Em [h0,h1,h2,h3,h4,h5,h6,h7] (p.take 64)).getD 3 0) ((Em [h0,h1,h2,h3,h4,h5,h6,h7] (p.take 64)).getD 4 0) ((Em [h0,h1,h2,h3,h4,h5,h6,h7] (p.take 64)).getD 5 0) ((Em [h0,h1,h2,h3,h4,h5,h6,h7] (p.take 64)).getD 6 0) ((Em [h0,h1,h2,h3,h4,h5,h6,h7] (p.take 64)).getD 7 0) zaY zaY
  rw[AA7 (Ku _ _ rfl)] at ih
  rw[AL];conv=>lhs;whnf
  refine Bl ?_
  rw[A7D (hb:=DJ) ..]
  refine Bl ?_
  rw[A8l zaa];exact ih.trans (by rw[He])
theorem A0W(alg:Int)(l:List UInt8)(hl:l.length<=4294967296):Y E0 (.call 210 [.i alg,.sl .u8 l] [])=some (.ret (.sl .u8 (ABD alg l)) []):=by
 have hp:=ji l
 have e0:=aU ((PG l).length/64) (PG l) 1732584193 4023233417 2562383102 271733878 3285377520 zaa zaa
 have e1:=aV ((PG l).length/64) (PG l) 1779033703 3144134277 1013904242 2773480762 1359893119 2600822924 528734635 1541459225 zaa zaa
 refine Bl ?_
 rcases Ar alg 0 with hc0|hc0
 ·
  subst hc0
  refine Bl ?_
  rw[A3e _ DJ]
  refine Bl ?_
  (erw[e0])
  refine Bl ?_
  rw[aS _ DJ DJ]
  refine Bl ?_
  rw[ABk (MH (m:=5) (fun h b _=>Us h b) _ _ _ rfl)];rfl
 refine Bl ?_
 rcases Ar alg 1 with hc1|hc1
 ·
  subst hc1
  refine Bl ?_
  rw[A3e _ DJ]
  refine Bl ?_
  (erw[e1])
  refine Bl ?_
  rw[aS _ DJ DJ]
  refine Bl ?_
  rw[AA7 (MH (m:=8) Ku _ _ _ rfl)];rfl
 refine Bl ?_
 rw[ABD,if_neg hc0,if_neg hc1]
end
section
attribute [local irreducible] Lc Em He G8 JP Hz F7 WY
theorem A8m(h:List UInt32)(p b:List UInt8)(a:Nat)(ha:a+64<=p.length)(hp:p.length<=8589934592)(hb:b=List.take ((a:Int)+64-a).toNat (List.drop (a:Int).toNat p)):∀(k t:Nat) (ws:List UInt32),t+k=64->ws.length=64->ws.take t=Ey b t->Y E0 (.loop 91 1 0 3 [(3,.pa 0 0),(4,.nm 1),(5,.sl .u8 p),(6,.i a),(7,.pa 2 0),(8,.i t)] [(0,some (.var (G8 JP))),(1,some (.row 202 .u32 h)),(2,some (.var (G8 ws)))])=some (.fin (.exit 2) 3 [(3,.pa 0 0),(4,.nm 1),(5,.sl .u8 p),(6,.i a),(7,.pa 2 0)] [(0,some (.var (G8 JP))),(1,some (.row 202 .u32 h)),(2,some (.var (G8 (Ey b 64))))])
 | 0,t,ws,hk,hw,hs=>by
  have e:ws=Ey b 64:=zbs
  rw[<-e]
  rw[AL];conv=>lhs;whnf
  refine Bl ?_
  ((conv in(close _ _ _ _)=>skip);conv=>lhs;rw[E5 H9,E5 hw])
  refine Bl ?_
  rw[E5 hw,E5 H9];rfl
 | k+1,t,ws,hk,hw,hs=>by
  have ih:=fun x (hx:x=OM b (Ey b t) t)=>A8m h p b a ha hp hb k (t+1) (ws.set t x) zaa (by simpa using hw) (by rw[YX hs zaa,hx];rfl)
  rw[AL];conv=>lhs;whnf
  refine Bl ?_
  rcases Bc (↑t) 16 with hc0|hc0
  ·
   refine Bl ?_
   rw[A3W _ _ DJ DJ]
   conv=>lhs;whnf
   try dsimp -iota -beta -eta -zeta only
   rw[Fb zaa]
   conv=>lhs;whnf
   rw[Dl zaa]
   conv=>lhs;whnf
   try dsimp -iota -beta -eta -zeta only
   rw[MF zaa];conv=>lhs;whnf
   rw[O3 zaa]
   refine Bl ?_
   ((conv in(close _ _ _ _)=>skip);conv=>lhs;rw[E5 H9,LU hw])
   refine Bl ?_
   rw[show((t:Int)+1)=((t+1:Nat):Int) from by omega,show 0+((t:Nat):Int).toNat*1=t from by omega,<-hb];refine(congrArg (Y E0) ?_).trans (ih (be32 b (4*t)) (by rw[OM,if_pos zaa]));rw[LU hw,E5 H9];rfl
  refine Bl ?_
  rw[ET zaa]
  refine Bl ?_
  rw[AA2 _]
  refine Bl ?_
  rw[ET zaa]
  refine Bl ?_
  rw[A75 _]
  refine Bl ?_
  rw[ET zaa]
  refine Bl ?_
  rw[ET zaa]
  refine Bl ?_
  rw[A76 _]
  refine Bl ?_
  rw[ET zaa]
  refine Bl ?_
  rw[A77 _]
  refine Bl ?_
  rw[ET zaa]
  refine Bl ?_
  rw[ET zaa]
  refine Bl ?_
  rw[ET zaa]
  conv=>lhs;whnf
  try dsimp -iota -beta -eta -zeta only
  rw[Fb zaa]
  conv=>lhs;whnf
  rw[Dl zaa]
  conv=>lhs;whnf
  try dsimp -iota -beta -eta -zeta only
  rw[MF zaa];conv=>lhs;whnf
  rw[O3 zaa]
  refine Bl ?_
  ((conv in(close _ _ _ _)=>skip);conv=>lhs;rw[E5 H9,LU hw])
  refine Bl ?_
  rw[show((t:Int)+1)=((t+1:Nat):Int) from by omega,show 0+((t:Nat):Int).toNat*1=t from by omega];refine(congrArg (Y E0) ?_).trans (ih _ (A8h b ws t hs zaa));rw[LU hw,E5 H9];rfl
end
section
attribute [local irreducible] Lc Em He G8 JP Hz F7 WY
theorem AA8(b:List UInt8)(a:Nat)(ha:a+64<=p.length)(hp:p.length<=8589934592)(hb:b=List.take ((a:Int)+64-a).toNat (List.drop (a:Int).toNat p)):Y E0 (.loop 91 1 0 3 [(3,.pa 0 0),(4,.nm 1),(5,.sl .u8 p),(6,.i a),(7,.pa 2 0),(8,.i 0)] [(0,some (.var ((List.range 64).map fun i=>AV.u32 (JP.getD i 0)))),(1,some (.row 202 .u32 h)),(2,some (.var (List.replicate 64 (.u32 0))))])=some (.fin (.exit 2) 3 [(3,.pa 0 0),(4,.nm 1),(5,.sl .u8 p),(6,.i a),(7,.pa 2 0)] [(0,some (.var ((List.range 64).map fun i=>AV.u32 (JP.getD i 0)))),(1,some (.row 202 .u32 h)),(2,some (.var ((List.range 64).map fun i=>AV.u32 ((Ey b 64).getD i 0))))]):=by
 have e:=A8m h p b a ha hp hb 64 0 (List.replicate 64 0) rfl rfl rfl
 rw[E5 (ws:=List.replicate 64 0) (n:=64) rfl,E5 H9,E5 (OO b 64)] at e
 exact e
theorem A8p(h:List UInt32)(p:List UInt8)(a:Nat)(ws:List UInt32)(hw:ws.length=64):∀(k t:Nat) (a0 a1 a2 a3 a4 a5 a6 a7:UInt32),t+k=64->Y E0 (.loop 91 2 0 3 [(3,.pa 0 0),(4,.nm 1),(5,.sl .u8 p),(6,.i a),(7,.pa 2 0),(11,.sl .u32 [a0,a1,a2,a3,a4,a5,a6,a7]),(12,.i t)] [(0,some (.var (G8 JP))),(1,some (.row 202 .u32 h)),(2,some (.var (G8 ws)))])=some (.fin (.exit 4) 2 [(3,.pa 0 0),(4,.nm 1),(5,.sl .u8 p),(6,.i a),(11,.sl .u32 (Hz ws k t [a0,a1,a2,a3,a4,a5,a6,a7]))] [(0,some (.var (G8 JP))),(1,some (.row 202 .u32 h))])
 | 0,t,a0,a1,a2,a3,a4,a5,a6,a7,hk=>by
  rw[AL];conv=>lhs;whnf
  refine Bl ?_
  ((conv in(close _ _ _ _)=>skip);conv=>lhs;rw[E5 H9,E5 hw])
  refine Bl ?_
  rw[E5 H9];unfold Hz;rfl
 | k+1,t,a0,a1,a2,a3,a4,a5,a6,a7,hk=>by
  have ih:=fun s0 s1 s2 s3 s4 s5 s6 s7=>A8p h p a ws hw k (t+1) s0 s1 s2 s3 s4 s5 s6 s7 zaa
  rw[AL];conv=>lhs;whnf
  refine Bl ?_
  rw[ABl]
  refine Bl ?_
  rw[ABn]
  refine Bl ?_
  rw[ABo]
  refine Bl ?_
  rw[AA3 _]
  refine Bl ?_
  rw[A78 _]
  refine Bl ?_
  rw[A79 _]
  refine Bl ?_
  rw[A8n]
  refine Bl ?_
  rw[A8o]
  refine Bl ?_
  rw[ET (ws:=JP) (by rw[H9];omega)]
  refine Bl ?_
  rw[ET (ws:=ws) zaa]
  refine Bl ?_
  rw[AA4 _]
  refine Bl ?_
  rw[A7A _]
  refine Bl ?_
  rw[A7B _]
  refine Bl ?_
  rw[A3f]
  refine Bl ?_
  rw[A3g]
  refine Bl ?_
  rw[A3f]
  refine Bl ?_
  rw[A3g]
  refine Bl ?_
  rw[A3f]
  refine Bl ?_
  rw[A3g]
  refine Bl ?_
  rw[ABm]
  refine Bl ?_
  rw[A8n]
  refine Bl ?_
  rw[A8o]
  refine Bl ?_
  ((conv in(YC _ _)=>skip);conv=>lhs;rw[E5 H9,E5 hw])
  refine Bl ?_
  rw[show((t:Int)+1)=((t+1:Nat):Int) from by omega];refine((congrArg (Y E0) (by rw[E5 hw,E5 H9];rfl)).trans (ih _ _ _ _ _ _ _ _)).trans ?_;simp only[KU,Jd,MC,show 0+(t:Int).toNat*1=t from by omega];rw[show Hz ws (k+1) t [a0,a1,a2,a3,a4,a5,a6,a7]=Hz ws k (t+1) (eP (JP.getD t 0) (ws.getD t 0) [a0,a1,a2,a3,a4,a5,a6,a7]) from by rw[Hz]];rfl
end
section
attribute [local irreducible] Lc Em He G8 JP Hz F7 WY
theorem AA9(hh:h.length=8)(p:List UInt8)(a:Nat)(ws:List UInt32)(hw:ws.length=64):Y E0 (.loop 91 2 0 3 [(3,.pa 0 0),(4,.nm 1),(5,.sl .u8 p),(6,.i a),(7,.pa 2 0),(11,.sl .u32 (BF [] h)),(12,.i 0)] [(0,some (.var ((List.range 64).map fun i=>AV.u32 (JP.getD i 0)))),(1,some (.row 202 .u32 h)),(2,some (.var ((List.range 64).map fun i=>AV.u32 (ws.getD i 0))))])=some (.fin (.exit 4) 2 [(3,.pa 0 0),(4,.nm 1),(5,.sl .u8 p),(6,.i a),(11,.sl .u32 (Hz ws 64 0 h))] [(0,some (.var ((List.range 64).map fun i=>AV.u32 (JP.getD i 0)))),(1,some (.row 202 .u32 h))]):=by
 have e:=A8p h p a ws hw 64 0 (h.getD 0 0) (h.getD 1 0) (h.getD 2 0) (h.getD 3 0) (h.getD 4 0) (h.getD 5 0) (h.getD 6 0) (h.getD 7 0) rfl
 rw[AA7 hh,E5 H9,E5 hw] at e
 rw[Ac]
 exact e
theorem A8q(h s:List UInt32)(hh:h.length=8)(hs:s.length=8)(p:List UInt8)(a:Nat):∀(k i:Nat),i+k=8->Y E0 (.loop 91 3 0 2 [(3,.pa 0 0),(4,.nm 1),(5,.sl .u8 p),(6,.i a),(11,.sl .u32 s),(17,.i i)] [(0,some (.var ((List.range 64).map fun i=>AV.u32 (JP.getD i 0)))),(1,some (.row 202 .u32 (TN h s i)))])=some (.fin (.exit 6) 2 [(3,.pa 0 0),(4,.nm 1),(5,.sl .u8 p),(6,.i a)] [(0,some (.var ((List.range 64).map fun i=>AV.u32 (JP.getD i 0)))),(1,some (.row 202 .u32 (TN h s 8)))])
 | 0,i,hk=>by
  obtain rfl:i=8:=zaa
  rw[AL];conv=>lhs;whnf
  refine Bl ?_
  rfl
 | k+1,i,hk=>by
  have ih:=A8q h s hh hs p a k (i+1) zaa
  have hl:=A1p h s i zaa zaa
  rw[AL];conv=>lhs;whnf
  refine toA ?_
  rw[Pn (ws:=TN h s i) zaa,jl h s i zaa zaa]
  refine toA ?_
  rw[Pn (ws:=s) zaa]
  refine toA ?_
  rw[Pn (ws:=TN h s i) zaa,jl h s i zaa zaa]
  refine Bl ?_
  rw[show((i:Int)+1)=((i+1:Nat):Int) from by omega,EL,KU,show((i:Nat):Int).toNat=i from by omega,A1q h s i zaa zaa];exact ih
theorem A0X:TN h (Hz (Ey b 64) 64 0 h) 8=Em h b:=by
 rw[Em,show Hz (Ey b 64) 64 0 h=OQ (Ey b 64) h 64 from YY _ _ 64 0]
theorem AAA(a:Nat):(List.take ((a:Int)+64-a).toNat (List.drop (a:Int).toNat p))=(p.drop a).take 64:=by rw[show((a:Int)+64-a).toNat=64 from by omega,show(a:Int).toNat=a from by omega]
theorem A8r(p:List UInt8)(hp:p.length<=8589934592):∀(n a:Nat) (h:List UInt32),h.length=8->a+64*n=p.length->Y E0 (.loop 91 0 0 2 [(3,.pa 0 0),(4,.nm 1),(5,.sl .u8 p),(6,.i a)] [(0,some (.var ((List.range 64).map fun i=>AV.u32 (JP.getD i 0)))),(1,some (.row 202 .u32 h))])=some (.fin (.exit 0) 0 [(4,.sl .u32 (He Em n h (p.drop a)))] [])
 | 0,a,h,hh,hn=>by
  rw[AL];conv=>lhs;whnf
  refine Bl ?_
  rw[He]
 | n+1,a,h,hh,hn=>by
  have ih:=A8r p hp n (a+64) (Em h ((p.drop a).take 64)) (Ku _ _ hh) zaa
  have e:=AA8 h p _ a zaa hp rfl
  have f:=AA9 h hh p a (Ey (List.take ((a:Int)+64-a).toNat (List.drop (a:Int).toNat p)) 64) (OO _ _)
  have g:=A8q h _ hh (Qh (Ey (List.take ((a:Int)+64-a).toNat (List.drop (a:Int).toNat p)) 64) 64 0 h hh) p a 8 0 rfl
  rw[AL];conv=>lhs;whnf
  refine Bl ?_
  (erw[e])
  refine Bl ?_
  (erw[f])
  refine Bl ?_
  (erw[g])
  refine Bl ?_
  rw[A0X,AAA,show((a:Int)+64)=((a+64:Nat):Int) from by omega];exact ih.trans (by rw[He,List.drop_drop])
theorem IA(hl:l.length<=4294967296):Y E0 (.call 91 [.sl .u8 l] [])=some (.ret (.sl .u8 (sha256 l)) []):=by
 have hp:=ji l
 have e:=A8r (PG l) zaa ((PG l).length/64) 0 h256 rfl zaa
 have hf:=MH (m:=8) Ku ((PG l).length/64) h256 (PG l) rfl
 refine Bl ?_
 rw[A3X]
 refine Bl ?_
 rw[A7G _ DJ]
 refine Bl ?_
 (erw[e])
 refine Bl ?_
 rw[A3b _ DJ]
 refine Bl ?_
 rfl
end
end Go.Proofs.YtlpkjhhfhannpaaGreatDoor
namespace Go.Proofs.YtlpkjhhfhannpaaGreatDoor
open Go Go.RowKit Go.Eng Go.Ax
theorem Gt(l:List UInt8)(hl:l.length<=4294967296):Y E0 (.call 210 [.i 1,.sl .u8 l] [])=some (.ret (.sl .u8 (sha256 l)) []):=A0W 1 l hl
end Go.Proofs.YtlpkjhhfhannpaaGreatDoor
namespace Go.Proofs.YtlpkjhhfhannpaaGreatDoor
open Go Go.Ax Go.Eng
attribute [local irreducible] CS Cj CP CW CQ BC Cm ED ES Dx EG CJ Bi Ce CX and' Cf CU BL Au BI BP BR Ag Ai AY Ae D5 EJ D6 DX Cb BZ BQ BM BO BJ AZ BK Aj Ak Ap D7 BB CV BU BF CO D8 Cc fits D9 Ci AC AQ Ah
variable (key:List UInt8)(tag n:Int)(ls:List (List UInt8))
theorem NJ(tag:Int)(ls:List (List UInt8))(hl:(Az tag ls).length<=4294967296)(hn:ls.length<=4294967296):∀(k i:Nat),i+k=ls.length ->
  Y E0 (.loop 212 0 0 1 [(5,.nm 0),(12,.sl (.sl .u8) ls),(13,.i ls.length),(14,.i i)] [(0,some (.row 5 .u8 (Az tag (ls.take i))))])=some (.fin (.exit 0) 0 [(5,.sl .u8 (Az tag ls))] [])
 | 0,i,hi=>by
  have e:ls.take i=ls:=List.take_of_length_le zaa
  rw[e]
  rw[AL];conv=>lhs;whnf
  exact Bl rfl
 | k+1,i,hi=>by
  have ih:=NJ tag ls hl hn k (i+1) zaa
  have hg:ls[i]?=some (ls[i]'zaa):=List.getElem?_eq_getElem zaa
  have h1:=Pi tag ls i _ hg
  have h2:=aN tag ls (i+1)
  have h3:=congrArg List.length h1
  simp only[List.length_append,Hu] at h3
  rw[AL];conv=>lhs;whnf
  refine Bl ?_
  refine(congrArg (Y E0) ?_).trans ih;(try simp only[Rq.loop.injEq,Rq.call.injEq,Rq.ops.injEq,List.cons.injEq,Prod.mk.injEq,AV.i.injEq,AV.sl.injEq,AV.st.injEq,AV.b.injEq,AV.u8.injEq,AV.nm.injEq,Option.some.injEq,Rs.row.injEq,Rs.var.injEq,heq_eq_eq,true_and,and_true]);(try(repeat' apply And.intro));all_goals first|(with_reducible rfl)|omega|(rw[Bj zaa];omega)|(rw[DV zaa];omega)|(rw[h1,Ac,Ac,ADS])
theorem Ll(hl:(Az tag ls).length<=4294967296)(hn:ls.length<=4294967296):Y E0 (.call 212 [.i tag,.sl (.sl .u8) ls] [])=some (.ret (.sl .u8 (Az tag ls)) []):=by
 refine Bl ?_
 rw[show DX tag=UInt8.ofInt tag from Dq _,show [UInt8.ofInt tag]=Az tag (ls.take 0) from rfl,AP];rw[show(0:Int)=((0:Nat):Int) from rfl,NJ tag ls hl hn ls.length 0 zaa]
 exact Bl rfl
theorem NK(tag:Int)(ls:List (List UInt8))(hl:(Az tag ls).length<=4294967295)(hn:ls.length<=4294967296):∀(k i:Nat),i+k=ls.length ->
  Y E0 (.loop 92 0 0 1 [(1,.sl (.sl .u8) ls),(5,.nm 0),(6,.i i)] [(0,some (.row 5 .u8 (Az tag (ls.take i))))])=some (.fin (.exit 0) 0 [(5,.sl .u8 (Az tag ls))] [])
 | 0,i,hi=>by
  have e:ls.take i=ls:=List.take_of_length_le zaa
  rw[e]
  rw[AL];conv=>lhs;whnf
  exact Bl rfl
 | k+1,i,hi=>by
  have ih:=NK tag ls hl hn k (i+1) zaa
  have hg:ls[i]?=some (ls[i]'zaa):=List.getElem?_eq_getElem zaa
  have h1:=Pi tag ls i _ hg
  have h2:=aN tag ls (i+1)
  have h3:=congrArg List.length h1
  simp only[List.length_append,Hu] at h3
  rw[AL];conv=>lhs;whnf
  refine Bl ?_
  refine(congrArg (Y E0) ?_).trans ih;(try simp only[Rq.loop.injEq,Rq.call.injEq,Rq.ops.injEq,List.cons.injEq,Prod.mk.injEq,AV.i.injEq,AV.sl.injEq,AV.st.injEq,AV.b.injEq,AV.u8.injEq,AV.nm.injEq,Option.some.injEq,Rs.row.injEq,Rs.var.injEq,heq_eq_eq,true_and,and_true]);(try(repeat' apply And.intro));all_goals first|(with_reducible rfl)|omega|(rw[Bj zaa];omega)|(rw[DV zaa];omega)|(rw[h1,Ac,Ac,AP,rf4 _ zaa])
theorem J7(hl:(Az tag ls).length<=4294967295)(hn:ls.length<=4294967296):Y E0 (.call 92 [.i tag,.sl (.sl .u8) ls] [])=some (.ret (.sl .u8 (Az tag ls)) []):=by
 refine Bl ?_
 rw[show DX tag=UInt8.ofInt tag from Dq _,show [UInt8.ofInt tag]=Az tag (ls.take 0) from rfl];rw[show(0:Int)=((0:Nat):Int) from rfl,NK tag ls hl hn ls.length 0 zaa]
 exact Bl rfl
theorem Fe(hl:(Az tag ls).length<=4294967295)(hn:ls.length<=4294967296):Y E0 (.call 152 [.i tag,.sl (.sl .u8) ls] [])=some (.ret (.sl .u8 (sha256 (Az tag ls))) []):=by
 refine Bl ?_
 rw[Ll _ _ DJ DJ]
 refine Bl ?_
 rw[Gt _ DJ]
 exact Bl rfl
theorem FK(hl:(Az tag ls).length<=4294967295)(hn:ls.length<=4294967296):Y E0 (.call 52 [.i tag,.sl (.sl .u8) ls] [])=some (.ret (.sl .u8 (sha256 (Az tag ls))) []):=by
 refine Bl ?_
 rw[J7 _ _ DJ DJ]
 refine Bl ?_
 rw[IA _ DJ]
 exact Bl rfl
theorem yP(l:List UInt8)(hl:l.length<=4294967296):Y E0 (.call 170 [.sl .u8 l] [])=some (.ret (.nm 0) [some (.row 5 .u8 l)]):=by
 refine Bl ?_
 simp only[NO];try with_reducible rfl
theorem UG(b:UInt8)(key l:List UInt8)(hl:l.length=64):∀(k i:Nat),i+k=64->Y E0 (.loop 211 0 1 2 [(0,.u8 b),(4,.nm 1),(10,.i i)] [(0,some (.var [.sl .u8 key])),(1,some (.row 5 .u8 (Jw b (l.take i)++l.drop i)))])=some (.fin (.exit 0) 2 [(4,.nm 1)] [(0,some (.var [.sl .u8 key])),(1,some (.row 5 .u8 (Jw b l)))])
 | 0,i,hi=>by
  rw[List.take_of_length_le zaa,List.drop_eq_nil_of_le zaa,List.append_nil]
  rw[AL];conv=>lhs;whnf
  exact Bl rfl
 | k+1,i,hi=>by
  have ih:=UG b key l hl k (i+1) zaa
  have hs:=A7H b l i zaa
  have hl2:(Jw b (l.take i)++l.drop i).length=64:=by simp[Bz];omega
  have hg:Ap (Jw b (l.take i)++l.drop i) (i:Int)=some (l[i]'zaa):=by
   rw[DU,List.getElem?_append_right (by simp[Bz];omega)];simp[Bz,show min i l.length=i from by omega]
  rw[AL];conv=>lhs;whnf
  refine toA ?_
  rw[hg]
  refine toA ?_
  rw[hg]
  refine Bl ?_
  refine(congrArg (Y E0) ?_).trans ih;(try simp only[Rq.loop.injEq,Rq.call.injEq,Rq.ops.injEq,List.cons.injEq,Prod.mk.injEq,AV.i.injEq,AV.sl.injEq,AV.st.injEq,AV.b.injEq,AV.u8.injEq,AV.nm.injEq,Option.some.injEq,Rs.row.injEq,Rs.var.injEq,heq_eq_eq,true_and,and_true]);(try(repeat' apply And.intro));all_goals first|(with_reducible rfl)|omega|(rw[Bj zaa];omega)|(rw[DV zaa];omega)|(rw[EL,MQ];exact hs)
theorem XC(b:UInt8)(key:List UInt8):Y E0 (.call 211 [.u8 b,.pa 0 0] [.var [.sl .u8 key]])=some (.ret (.nm 1) [some (.var [.sl .u8 key]),some (.row 5 .u8 (Jw b (O4 key)))]):=by
 have h0:=UG b key (O4 key) (Bo key) 64 0 zaa
 have hp:CO (BU 64 0) key=O4 key:=by rw[X8,Ea];simp[O4]
 rw[List.take_zero,List.drop_zero,show Jw b []++O4 key=O4 key from rfl,show((0:Nat):Int)=0 from rfl] at h0
 refine Bl ?_
 rw[hp,h0]
 exact Bl rfl
theorem AAB(b:List UInt8)(hk:key.length<=4294967296)(hb:b.length<=4294900000):Y E0 (.call 151 [.sl .u8 key,.sl .u8 b] [])=some (.ret (.sl .u8 (Ya key b)) []):=by
 by_cases hc:64<key.length
 ·have hkb:A0Y key=sha256 key:=if_pos hc
  unfold Ya
  rw[hkb]
  refine Bl ?_
  rw[Gt _ DJ]
  refine Bl ?_
  rw[XC ..]
  conv=>lhs;whnf
  rw[Dk zak]
  conv=>lhs;whnf
  try dsimp -iota -beta -eta -zeta only
  rw[AX]
  rw[Gt _ zak]
  refine Bl ?_
  rw[XC ..]
  conv=>lhs;whnf
  rw[Dk zak]
  conv=>lhs;whnf
  try dsimp -iota -beta -eta -zeta only
  rw[AX]
  rw[Gt _ zak]
  refine Bl ?_
  simp only[NO];try with_reducible rfl
 ·have hkb:A0Y key=key:=if_neg hc
  unfold Ya
  rw[hkb]
  refine Bl ?_
  rw[XC ..]
  conv=>lhs;whnf
  rw[Dk zak]
  conv=>lhs;whnf
  try dsimp -iota -beta -eta -zeta only
  rw[AX]
  rw[Gt _ zak]
  refine Bl ?_
  rw[XC ..]
  conv=>lhs;whnf
  rw[Dk zak]
  conv=>lhs;whnf
  try dsimp -iota -beta -eta -zeta only
  rw[AX]
  rw[Gt _ zak]
  refine Bl ?_
  simp only[NO];try with_reducible rfl
theorem yQ:Y E0 (.call 150 [.i n] [])=some (.ret (.nm 0) [some (.row 5 .u8 (RP n))]):=by
 refine Bl ?_
 rw[Ho zaj,Ho zaj,Ho zaj];simp only[Dq];rfl
theorem mM:Y E0 (.call 165 [.i n] [])=some (.ret (.nm 0) [some (.row 5 .u8 (RP n))]):=by
 refine Bl ?_
 rw[Ho zaj,Ho zaj,Ho zaj];simp only[Dq];rfl
theorem Og(key b:List UInt8)(hk:key.length<=64):∀(k i:Nat),i+k=64->Y E0 (.loop 125 0 0 2 [(0,.sl .u8 key),(1,.sl .u8 b),(5,.nm 0),(6,.nm 1),(7,.i i)] [(0,some (.row 5 .u8 (Jw (UInt8.ofNat 54) ((O4 key).take i)++List.replicate (64-i) 0))),(1,some (.row 5 .u8 (Jw (UInt8.ofNat 92) ((O4 key).take i)++List.replicate (64-i) 0)))])=some (.fin (.exit 0) 2 [(1,.sl .u8 b),(5,.nm 0),(6,.nm 1)] [(0,some (.row 5 .u8 (Jw (UInt8.ofNat 54) (O4 key)))),(1,some (.row 5 .u8 (Jw (UInt8.ofNat 92) (O4 key))))])
 | 0,i,hi=>by
  rw[List.take_of_length_le (by rw[Bo];omega),show 64-i=0 from by omega,List.replicate_zero,List.append_nil,List.append_nil]
  rw[AL];conv=>lhs;whnf
  exact Bl rfl
 | k+1,i,hi=>by
  have ih:=Og key b hk k (i+1) zaa
  have hs1:=XU (UInt8.ofNat 54) (O4 key) i (by rw[Bo];omega) (Bo key)
  have hs2:=XU (UInt8.ofNat 92) (O4 key) i (by rw[Bo];omega) (Bo key)
  have hgt:=A3h key i zaa
  have hl1:(Jw (UInt8.ofNat 54) ((O4 key).take i)++List.replicate (64-i) (0:UInt8)).length=64:=by simp[Bz,Bo];omega
  have hl2:(Jw (UInt8.ofNat 92) ((O4 key).take i)++List.replicate (64-i) (0:UInt8)).length=64:=by simp[Bz,Bo];omega
  by_cases hc:i<key.length
  ·rw[dif_pos hc] at hgt
   rw[hgt] at hs1 hs2
   rw[AL];conv=>lhs;whnf
   refine Bl ?_
   refine(congrArg (Y E0) ?_).trans ih;(try simp only[Rq.loop.injEq,Rq.call.injEq,Rq.ops.injEq,List.cons.injEq,Prod.mk.injEq,AV.i.injEq,AV.sl.injEq,AV.st.injEq,AV.b.injEq,AV.u8.injEq,AV.nm.injEq,Option.some.injEq,Rs.row.injEq,Rs.var.injEq,heq_eq_eq,true_and,and_true]);(try(repeat' apply And.intro));all_goals first|(with_reducible rfl)|omega|(rw[Bj zaa];omega)|(rw[DV zaa];omega)|(rw[EL,MQ];exact hs1)|(rw[EL,MQ];exact hs2)
  ·rw[dif_neg hc] at hgt
   rw[hgt] at hs1 hs2
   rw[AL];conv=>lhs;whnf
   refine Bl ?_
   refine(congrArg (Y E0) ?_).trans ih;(try simp only[Rq.loop.injEq,Rq.call.injEq,Rq.ops.injEq,List.cons.injEq,Prod.mk.injEq,AV.i.injEq,AV.sl.injEq,AV.st.injEq,AV.b.injEq,AV.u8.injEq,AV.nm.injEq,Option.some.injEq,Rs.row.injEq,Rs.var.injEq,heq_eq_eq,true_and,and_true]);(try(repeat' apply And.intro));all_goals first|(with_reducible rfl)|omega|(rw[Bj zaa];omega)|(rw[DV zaa];omega)|(rw[EL,MQ];exact hs1)|(rw[EL,MQ];exact hs2)
theorem iF(b:List UInt8)(hk:key.length<=4294967296)(hb:b.length<=4294900000):Y E0 (.call 125 [.sl .u8 key,.sl .u8 b] [])=some (.ret (.sl .u8 (Ya key b)) []):=by
 have hr:BU 64 (0:UInt8)=List.replicate 64 0:=zbw
 by_cases hc:64<key.length
 ·have hkb:A0Y key=sha256 key:=if_pos hc
  have h0:=Og (sha256 key) b (by rw[A7];omega) 64 0 zaa
  rw[List.take_zero,show((0:Nat):Int)=0 from rfl,show Jw (UInt8.ofNat 54) []++List.replicate (64-0) (0:UInt8)=List.replicate 64 0 from rfl,show Jw (UInt8.ofNat 92) []++List.replicate (64-0) (0:UInt8)=List.replicate 64 0 from rfl] at h0
  unfold Ya
  rw[hkb]
  refine Bl ?_
  rw[IA _ DJ]
  refine Bl ?_
  rw[hr,h0]
  conv=>lhs;whnf
  rw[Dk zak]
  conv=>lhs;whnf
  try dsimp -iota -beta -eta -zeta only
  rw[AX]
  rw[IA _ zak]
  conv=>lhs;whnf
  rw[Dk zak]
  conv=>lhs;whnf
  try dsimp -iota -beta -eta -zeta only
  rw[AX]
  rw[IA _ zak]
  refine Bl ?_
  simp only[NO];try with_reducible rfl
 ·have hkb:A0Y key=key:=if_neg hc
  have h0:=Og key b zaa 64 0 zaa
  rw[List.take_zero,show((0:Nat):Int)=0 from rfl,show Jw (UInt8.ofNat 54) []++List.replicate (64-0) (0:UInt8)=List.replicate 64 0 from rfl,show Jw (UInt8.ofNat 92) []++List.replicate (64-0) (0:UInt8)=List.replicate 64 0 from rfl] at h0
  unfold Ya
  rw[hkb]
  refine Bl ?_
  rw[hr,h0]
  conv=>lhs;whnf
  rw[Dk zak]
  conv=>lhs;whnf
  try dsimp -iota -beta -eta -zeta only
  rw[AX]
  rw[IA _ zak]
  conv=>lhs;whnf
  rw[Dk zak]
  conv=>lhs;whnf
  try dsimp -iota -beta -eta -zeta only
  rw[AX]
  rw[IA _ zak]
  refine Bl ?_
  simp only[NO];try with_reducible rfl
theorem Po(key label ctx:List UInt8)(n:Int)(hk:key.length<=4294967296)(hl:label.length<=1000)(hc:ctx.length<=1000000)(hn:1<=n/\n<=1024):∀(k j:Nat),j+k=((n+31)/32).toNat ->
  Y E0 (.loop 98 0 0 1 [(0,.sl .u8 key),(3,.i n),(9,.sl .u8 (label++(0::(ctx++RP (8*n))))),(10,.nm 0),(11,.i (j+1))] [(0,some (.row 5 .u8 (LV key label ctx n j)))])=some (.fin (.exit 0) 0 [(3,.i n),(10,.sl .u8 (LV key label ctx n ((n+31)/32).toNat))] [])
 | 0,j,hj=>by
  rw[show((n+31)/32).toNat=j from by omega]
  rw[AL];conv=>lhs;whnf
  rw[Fv zak]
  conv=>lhs;whnf
 | k+1,j,hj=>by
  have ih:=Po key label ctx n hk hl hc hn k (j+1) zaa
  rw[WH,show((j+1:Nat):Int)+1=(j:Int)+1+1 from by omega] at ih
  rw[AL];conv=>lhs;whnf
  rw[Dl zak]
  conv=>lhs;whnf
  try dsimp -iota -beta -eta -zeta only
  rw[AX]
  rw[yQ _]
  conv=>lhs;whnf
  rw[Dk zak]
  conv=>lhs;whnf
  try dsimp -iota -beta -eta -zeta only
  rw[AX]
  rw[AAB _ _ zaa zak]
  conv=>lhs;whnf
  rw[Dk zak]
  conv=>lhs;whnf
  try dsimp -iota -beta -eta -zeta only
  rw[Bj zaa]
  refine(congrArg (Y E0) ?_).trans ih;(try simp only[Rq.loop.injEq,Rq.call.injEq,Rq.ops.injEq,List.cons.injEq,Prod.mk.injEq,AV.i.injEq,AV.sl.injEq,AV.st.injEq,AV.b.injEq,AV.u8.injEq,AV.nm.injEq,Option.some.injEq,Rs.row.injEq,Rs.var.injEq,heq_eq_eq,true_and,and_true]);(try(repeat' apply And.intro));all_goals first|(with_reducible rfl)|omega|(rw[Bj zaa];omega)|(rw[DV zaa];omega)|(simp only[Ac])
theorem GH(label ctx:List UInt8)(n:Int)(hk:key.length<=4294967296)(hl:label.length<=1000)(hc:ctx.length<=1000000):Y E0 (.call 98 [.sl .u8 key,.str label,.sl .u8 ctx,.i n] [])=some (.ret (.sl .u8 (BG key label ctx n)) []):=by
 have he:BF (BF (BF label [UInt8.ofNat 0]) ctx) (RP (8*n))=label++(0::(ctx++RP (8*n))):=by simp only[Ac,List.append_assoc,List.cons_append,List.nil_append];rfl
 refine Bl ?_
 rcases Bc n 1 with hc0|hc0
 ·
  refine Bl ?_
  exact zal
 refine Bl ?_
 rcases Bc 1024 n with hc1|hc1
 ·
  refine Bl ?_
  exact zal
 refine Bl ?_
 rw[yQ _]
 conv=>lhs;whnf
 rw[Dk zak]
 conv=>lhs;whnf
 try dsimp -iota -beta -eta -zeta only
 rw[Du]
 have h0:=Po key label ctx n hk hl hc zaa _ 0 (Nat.zero_add _);rw[show((0:Nat):Int)+1=1 from rfl,show LV key label ctx n 0=[] from rfl] at h0;rw[he,h0]
 conv=>lhs;whnf
 rw[Dz zaa]
 conv=>lhs;whnf
 rw[NU zak]
 conv=>lhs;whnf
 exact zal
theorem Ou(key label ctx:List UInt8)(n:Int)(hk:key.length<=4294967296)(hl:label.length<=1000)(hc:ctx.length<=1000000)(hn:1<=n/\n<=1024):∀(k j:Nat),j+k=((n+31)/32).toNat ->
  Y E0 (.loop 114 0 0 1 [(0,.sl .u8 key),(1,.str label),(2,.sl .u8 ctx),(3,.i n),(9,.nm 0),(10,.i (j+1))] [(0,some (.row 5 .u8 (LV key label ctx n j)))])=some (.fin (.exit 0) 0 [(3,.i n),(9,.sl .u8 (LV key label ctx n ((n+31)/32).toNat))] [])
 | 0,j,hj=>by
  rw[show((n+31)/32).toNat=j from by omega]
  rw[AL];conv=>lhs;whnf
  rw[Fv zak]
  conv=>lhs;whnf
 | k+1,j,hj=>by
  have ih:=Ou key label ctx n hk hl hc hn k (j+1) zaa
  rw[WH,show((j+1:Nat):Int)+1=(j:Int)+1+1 from by omega] at ih
  rw[AL];conv=>lhs;whnf
  rw[Dl zak]
  conv=>lhs;whnf
  try dsimp -iota -beta -eta -zeta only
  rw[AX]
  rw[mM _]
  conv=>lhs;whnf
  rw[Dk zak]
  conv=>lhs;whnf
  rw[Dk zak]
  conv=>lhs;whnf
  rw[Dk zak]
  conv=>lhs;whnf
  try dsimp -iota -beta -eta -zeta only
  rw[JL zaa]
  rw[AX]
  rw[mM _]
  conv=>lhs;whnf
  rw[Dk zak]
  conv=>lhs;whnf
  try dsimp -iota -beta -eta -zeta only
  rw[AX]
  rw[iF _ _ zaa zak]
  conv=>lhs;whnf
  rw[Dk zak]
  conv=>lhs;whnf
  try dsimp -iota -beta -eta -zeta only
  rw[Bj zaa]
  refine(congrArg (Y E0) ?_).trans ih;(try simp only[Rq.loop.injEq,Rq.call.injEq,Rq.ops.injEq,List.cons.injEq,Prod.mk.injEq,AV.i.injEq,AV.sl.injEq,AV.st.injEq,AV.b.injEq,AV.u8.injEq,AV.nm.injEq,Option.some.injEq,Rs.row.injEq,Rs.var.injEq,heq_eq_eq,true_and,and_true]);(try(repeat' apply And.intro));all_goals first|(with_reducible rfl)|omega|(rw[Bj zaa];omega)|(rw[DV zaa];omega)|(simp only[Ac,List.append_assoc,List.cons_append,List.nil_append];rfl)
theorem Il(label ctx:List UInt8)(n:Int)(hk:key.length<=4294967296)(hl:label.length<=1000)(hc:ctx.length<=1000000):Y E0 (.call 114 [.sl .u8 key,.str label,.sl .u8 ctx,.i n] [])=some (.ret (.sl .u8 (BG key label ctx n)) []):=by
 refine Bl ?_
 rcases Bc n 1 with hc0|hc0
 ·
  refine Bl ?_
  exact zal
 refine Bl ?_
 rcases Bc 1024 n with hc1|hc1
 ·
  refine Bl ?_
  exact zal
 refine Bl ?_
 have h0:=Ou key label ctx n hk hl hc zaa _ 0 (Nat.zero_add _);rw[show((0:Nat):Int)+1=1 from rfl,show LV key label ctx n 0=[] from rfl] at h0;rw[h0]
 conv=>lhs;whnf
 rw[NU zak]
 conv=>lhs;whnf
 exact zal
end Go.Proofs.YtlpkjhhfhannpaaGreatDoor
