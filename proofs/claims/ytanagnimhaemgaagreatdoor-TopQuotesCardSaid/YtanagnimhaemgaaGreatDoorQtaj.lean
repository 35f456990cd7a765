/-
  Own texts, laid together for this claim: contracts of functions of the program and its references, used by the statements of this seat.
-/
import Derived.Test.YtanagnimhaemgaaGreatDoorQtac
import Derived.Test.YtanagnimhaemgaaGreatDoorQtag
import Derived.Test.YtanagnimhaemgaaGreatDoorQtah
import Derived.Test.YtanagnimhaemgaaGreatDoorQtai
set_option linter.all false
set_option maxHeartbeats 40000000
set_option maxRecDepth 100000
namespace Go.Ax
open Go Go.Eng Go.RowKit
variable {seed m:List UInt8}{k:Nat}{h leaf:Int}
def WX:List UInt8:=[115,105,103,110,101,114]
def lsB(seed:List UInt8)(h:Int):List UInt8:=Aw seed WX [UInt8.ofInt h] 32
def Uz(seed:List UInt8)(k:Nat):List (List UInt8):=(List.range (2^k)).map fun(i:Nat)=>Ir (lsB seed k) i
def FM(seed:List UInt8)(h:Int):List UInt8:=if 0<=h/\h<=3 then UInt8.ofInt h::Me (Uz seed h.toNat) else []
def ES(seed:List UInt8)(h leaf:Int)(m:List UInt8):List UInt8 :=
 if(0<=h/\h<=3)/\0<=leaf/\leaf<(2:Int)^h.toNat then UInt8.ofInt leaf::(Ob (lsB seed h) leaf m++(Ji leaf (Uz seed h.toNat)).flatten) else []
def J4:Nat->List UInt8->List (List UInt8)
 | 0,_=>[]
 | k+1,s=>s.take 16::J4 k (s.drop 16)
def Zn(p s:List UInt8):Prop:=p.length=17/\(p.getD 0 0).toNat<=3/\s.length=561+16*(p.getD 0 0).toNat/\(s.getD 0 0).toNat<2^(p.getD 0 0).toNat
instance (p s:List UInt8):Decidable (Zn p s):=by unfold Zn;exact inferInstance
def wO(p m s:List UInt8):List UInt8:=JG (OO (s.getD 0 0).toNat m ((s.drop 1).take 560)).1 (s.getD 0 0).toNat (J4 (p.getD 0 0).toNat (s.drop 561))
def G6(p m s:List UInt8):Int×Bool:=if Zn p s/\wO p m s=p.drop 1 then(((s.getD 0 0).toNat:Int),true) else(0,false)
theorem LG(seed:List UInt8)(h:Int):(lsB seed h).length=32:=G5 zaa
theorem Hl(seed:List UInt8)(k:Nat):(Uz seed k).length=2^k:=by simp[Uz]
theorem OU(h:k<=3):1<=2^k/\2^k<=8:=⟨Nat.one_le_two_pow,Nat.le_trans (Nat.pow_le_pow_right zaa h) zad⟩
theorem KJ(k:Nat):(2:Int)^k=((2^k:Nat):Int):=zak
theorem jw{i:Int}(h:0<=i/\i<=255):(Ir seed i).length=16:=by rw[Ir,if_pos h,Xr]
theorem A2z(hk:k<=3):∀ x∈Uz seed k,x.length=16:=by
 intro x hx
 have:=OU hk
 simp only[Uz,List.mem_map,List.mem_range] at hx
 obtain⟨i,hi,rfl⟩:=hx
 exact jw zaa
theorem wP(hk:k<=3):∀ x∈Uz seed k,x.length<=1000000:=fun x hx=>by rw[A2z hk x hx];decide
theorem A7T(hk:k<=3):(Uz seed k).length<=1000:=by rw[Hl];have:=OU hk;omega
theorem dw{i:Nat}(hi:i<2^k):(Uz seed k).getD i []=Ir (lsB seed k) i:=by
 rw[List.getD,List.getElem?_eq_getElem (by rw[Hl];exact hi)];simp[Uz]
theorem A8b(h i:Int)(l r:List UInt8):(L8 h i l r).length=16:=by simp[L8,A7]
theorem A30(h:Int):∀(n:Nat) (i:Int) (ls:List (List UInt8)),ls.length<=n->∀ x∈Yg h i ls,x.length=16
 | 0,i,ls,hl=>by rw[WV _ _ _ zaa];intro x hx;cases hx
 | n+1,i,[],_|n+1,i,[_],_=>by intro x hx;cases hx
 | n+1,i,l::r::t,hl=>by
  intro x hx
  simp only[Yg,List.mem_cons] at hx
  rcases hx with rfl|hx
  ·exact A8b _ _ _ _
  ·exact A30 h n (i+1) t zbm x hx
theorem jy:∀(k:Nat) (h i:Int) (ls:List (List UInt8)),ls.length=2^k->0<=i->i<ls.length->(∀ l∈ls,l.length=16)->∀ l∈Ns k h i ls,l.length=16
 | 0,h,i,ls,_,_,_,hm,l,hl=>by cases hl
 | k+1,h,i,ls,hn,h0,hi,hm,l,hl=>by
  rw[Ns] at hl
  have hu:(Yg h 0 ls).length=2^k:=by rw[Td h _ 0 ls (Nat.le_refl _),hn,Nat.pow_succ];omega
  have h2:(ls.length:Int)=2*(2^k:Nat):=by rw[hn,Nat.pow_succ];omega
  rcases List.mem_cons.1 hl with rfl|hl
  ·have hs:(wM i).toNat<ls.length:=by unfold wM;split<;>omega
   simp only[List.getD,List.getElem?_eq_getElem hs,Option.getD_some];exact hm _ (List.getElem_mem hs)
  ·exact jy k (h+1) (i/2) _ hu zaa (by rw[hu];omega) (A30 h _ 0 ls (Nat.le_refl _)) l hl
theorem eF{i:Int}(hk:k<=3)(h0:0<=i)(hi:i<(2:Int)^k):(Ji i (Uz seed k)).length=k/\∀ l∈Ji i (Uz seed k),l.length=16:=by
 have hl:=Hl seed k
 have hh:=QQ hk hl
 rw[KJ] at hi
 have hp:Ji i (Uz seed k)=Ns k 0 i (Uz seed k):=by unfold Ji;rw[hh,if_neg (by rw[hl];omega),Int.toNat_natCast]
 rw[hp]
 exact⟨QP _ _ _ _,jy k 0 i _ hl h0 (by rw[hl];exact hi) (A2z hk)⟩
theorem wQ(hk:k<=3):(Me (Uz seed k)).length=16:=by
 have hl:=Hl seed k
 rcases Nat.eq_zero_or_pos k with rfl|hp
 ·have hh:=QQ hk hl
  unfold Me
  rw[hh,if_neg zaa,show((0:Nat):Int).toNat=0 from rfl,Xy,dw zak]
  exact jw zaa
 ·exact A8a hk hl (by rw[hl];exact Nat.one_lt_two_pow zaa)
theorem Tf(hh:0<=h/\h<=3):(FM seed h).length=17:=by
 rw[FM,if_pos hh,List.length_cons,wQ zaa]
theorem A64(seed:List UInt8)(h:Int):(FM seed h).length<=17:=by
 by_cases hh:0<=h/\h<=3
 ·rw[Tf hh];exact Nat.le_refl _
 ·rw[FM,if_neg hh];simp
theorem Zo{n:Nat}:∀ {l:List (List UInt8)},(∀ x∈l,x.length=n)->l.flatten.length=n*l.length
 | [],_=>zak
 | x::l,h=>by rw[List.flatten_cons,List.length_append,h x zak,Zo (fun y hy=>h y zbi),List.length_cons,Nat.mul_succ];omega
theorem kK(hh:0<=h/\h<=3)(hl:0<=leaf/\leaf<(2:Int)^h.toNat):(ES seed h leaf m).length=561+16*h.toNat:=by
 have h8:=OU (k:=h.toNat) zaa
 have hi:=hl
 rw[KJ] at hi
 obtain⟨p1,p2⟩:=eF (seed:=seed) (k:=h.toNat) (i:=leaf) zaa hl.1 hl.2
 rw[ES,if_pos ⟨hh,hl⟩,List.length_cons,List.length_append,QN zaa,Zo p2,p1];omega
theorem YD:∀(l:List (List UInt8)),(∀ x∈l,x.length=16)->J4 l.length l.flatten=l
 | [],_=>rfl
 | x::l,h=>by
  have hx:=h x zak
  rw[List.length_cons,List.flatten_cons,J4,List.take_left' hx,List.drop_left' hx,YD l (fun y hy=>h y zbi)]
theorem JP:∀(k:Nat) (s:List UInt8),(J4 k s).length=k
 | 0,_=>rfl
 | k+1,s=>by rw[J4,List.length_cons,JP k]
theorem Zp:∀(k:Nat) (s:List UInt8),∀ x∈J4 k s,x.length<=1000000
 | 0,_,x,hx=>by cases hx
 | k+1,s,x,hx=>by
  rw[J4] at hx
  rcases List.mem_cons.1 hx with rfl|hx
  ·rw[List.length_take];omega
  ·exact Zp k _ x hx
theorem A31(hh:0<=h/\h<=3)(hl:0<=leaf/\leaf<(2:Int)^h.toNat):
  Zn (FM seed h) (ES seed h leaf m)/\(FM seed h).drop 1=Me (Uz seed h.toNat)/\wO (FM seed h) m (ES seed h leaf m)=Me (Uz seed h.toNat)/\((ES seed h leaf m).getD 0 0).toNat=leaf.toNat:=by
 obtain⟨k,rfl⟩:∃ k:Nat,h=k:=⟨h.toNat,by omega⟩
 have hk:k<=3:=zaa
 rw[Int.toNat_natCast] at *
 have h8:=OU hk
 have hp:=KJ k
 obtain⟨i,rfl⟩:∃ i:Nat,leaf=i:=⟨leaf.toNat,by omega⟩
 obtain⟨p1,p2⟩:=eF (seed:=seed) (k:=k) (i:=(i:Int)) hk zaa zaa
 have e1:FM seed (k:Int)=UInt8.ofInt (k:Int)::Me (Uz seed k):=by rw[FM,if_pos hh,Int.toNat_natCast]
 have hs:=QN (seed:=lsB seed k) (m:=m) (leaf:=(i:Int)) zaa
 have e2:ES seed (k:Int) (i:Int) m=UInt8.ofInt (i:Int)::(Ob (lsB seed k) i m++(Ji (i:Int) (Uz seed k)).flatten):=by rw[ES,if_pos ⟨hh,by rw[Int.toNat_natCast];exact hl⟩,Int.toNat_natCast]
 have n1:(UInt8.ofInt (k:Int)).toNat=k:=za9
 have n2:(UInt8.ofInt (i:Int)).toNat=i:=za9
 have g1:(FM seed (k:Int)).getD 0 0=UInt8.ofInt (k:Int):=by rw[e1];rfl
 have g2:(ES seed (k:Int) (i:Int) m).getD 0 0=UInt8.ofInt (i:Int):=by rw[e2];rfl
 have d1:((ES seed (k:Int) (i:Int) m).drop 1).take 560=Ob (lsB seed k) i m:=by rw[e2,List.drop_one,List.tail_cons,List.take_left' hs]
 have d2:(ES seed (k:Int) (i:Int) m).drop 561=(Ji (i:Int) (Uz seed k)).flatten:=by rw[e2,List.drop_succ_cons,List.drop_left' hs]
 refine⟨⟨Tf hh,?_,?_,?_⟩,by rw[e1];rfl,?_,by rw[g2,n2];omega⟩
 ·rw[g1,n1];exact hk
 ·rw[g1,n1,kK hh (by rw[Int.toNat_natCast];exact hl),Int.toNat_natCast]
 ·rw[g1,g2,n1,n2];omega
 ·rw[wO,g1,g2,n1,n2,d1,d2,A61 zaa]
  have hc:=YD _ p2
  rw[p1] at hc
  rw[hc]
  have ht:=(A9x hk (Hl seed k) (i:=(i:Int)) zaa (by rw[Hl];omega)).2
  rw[Int.toNat_natCast,dw zaa] at ht
  exact ht
theorem zF{a b:UInt8}{p' s':List UInt8}{i:Nat}(hk:a.toNat=k)(hi:b.toNat=i)(hp:(a::p').length=17)(hk3:k<=3)(hs:(b::s').length=561+16*k)(hi2:i<2^k):
  G6 (a::p') m (b::s')=if JG (OO (i:Int) m (((b::s').drop 1).take 560)).1 (i:Int) (J4 k ((b::s').drop 561))=p' then((i:Int),true) else(0,false):=by
 subst hk;subst hi
 have hf:Zn (a::p') (b::s'):=⟨hp,hk3,hs,hi2⟩
 have hr:wO (a::p') m (b::s')=JG (OO (b.toNat:Int) m (((b::s').drop 1).take 560)).1 (b.toNat:Int) (J4 a.toNat ((b::s').drop 561)):=rfl
 have hd:(a::p').drop 1=p':=rfl
 unfold G6
 rw[hr,hd]
 by_cases hq:JG (OO (b.toNat:Int) m (((b::s').drop 1).take 560)).1 (b.toNat:Int) (J4 a.toNat ((b::s').drop 561))=p'
 ·rw[if_pos ⟨hf,hq⟩,if_pos hq];rfl
 ·rw[if_neg (fun h=>hq h.2),if_neg hq]
theorem WY{p s:List UInt8}(h:¬Zn p s):G6 p m s=(0,false):=by rw[G6,if_neg (fun e=>h e.1)]
theorem A32(hh:0<=h/\h<=3)(hl:0<=leaf/\leaf<(2:Int)^h.toNat):G6 (FM seed h) m (ES seed h leaf m)=(leaf,true):=by
 obtain⟨q1,q2,q3,q4⟩:=A31 (seed:=seed) (m:=m) hh hl
 rw[G6,if_pos ⟨q1,by rw[q3,q2]⟩,q4]
 congr 1;omega
end Go.Ax
