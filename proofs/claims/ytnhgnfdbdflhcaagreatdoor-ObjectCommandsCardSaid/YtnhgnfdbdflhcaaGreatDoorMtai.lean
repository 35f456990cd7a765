/-
  Own texts, laid together for this claim: contracts of functions of the program and its references, used by the statements of this seat.
-/
import Derived.Test.YtnhgnfdbdflhcaaGreatDoorMtaf
import Derived.Test.YtnhgnfdbdflhcaaGreatDoorMtag
import Derived.Test.YtnhgnfdbdflhcaaGreatDoorMtah
set_option linter.all false
set_option maxHeartbeats 40000000
set_option maxRecDepth 100000
namespace Go.Ax
open Go Go.Eng Go.RowKit
variable {seed m:List UInt8}{k:Nat}{h leaf:Int}
def iU:List UInt8:=[115,105,103,110,101,114]
def lsB(seed:List UInt8)(h:Int):List UInt8:=Dw seed iU [UInt8.ofInt h] 32
def SL(seed:List UInt8)(k:Nat):List (List UInt8):=(List.range (2^k)).map fun(i:Nat)=>Ht (lsB seed k) i
def En(seed:List UInt8)(h:Int):List UInt8:=if 0<=h/\h<=3 then UInt8.ofInt h::Ld (SL seed h.toNat) else []
def Eg(seed:List UInt8)(h leaf:Int)(m:List UInt8):List UInt8 :=
 if(0<=h/\h<=3)/\0<=leaf/\leaf<(2:Int)^h.toNat then UInt8.ofInt leaf::(LZ (lsB seed h) leaf m++(Io leaf (SL seed h.toNat)).flatten) else []
def JI:Nat->List UInt8->List (List UInt8)
 | 0,_=>[]
 | k+1,s=>s.take 16::JI k (s.drop 16)
def dN(p s:List UInt8):Prop:=p.length=17/\(p.getD 0 0).toNat<=3/\s.length=561+16*(p.getD 0 0).toNat/\(s.getD 0 0).toNat<2^(p.getD 0 0).toNat
instance (p s:List UInt8):Decidable (dN p s):=by unfold dN;exact inferInstance
def yX(p m s:List UInt8):List UInt8:=Jk (P8 (s.getD 0 0).toNat m ((s.drop 1).take 560)).1 (s.getD 0 0).toNat (JI (p.getD 0 0).toNat (s.drop 561))
def Fv(p m s:List UInt8):Int×Bool:=if dN p s/\yX p m s=p.drop 1 then(((s.getD 0 0).toNat:Int),true) else(0,false)
theorem JY(seed:List UInt8)(h:Int):(lsB seed h).length=32:=Ff zaa
theorem Gu(seed:List UInt8)(k:Nat):(SL seed k).length=2^k:=by simp[SL]
theorem MI(h:k<=3):1<=2^k/\2^k<=8:=⟨Nat.one_le_two_pow,Nat.le_trans (Nat.pow_le_pow_right zaa h) zal⟩
theorem He(k:Nat):(2:Int)^k=((2^k:Nat):Int):=zam
theorem mJ{i:Int}(h:0<=i/\i<=255):(Ht seed i).length=16:=by rw[Ht,if_pos h,ZY]
theorem A3J(hk:k<=3):∀ x∈SL seed k,x.length=16:=by
 intro x hx
 have:=MI hk
 simp only[SL,List.mem_map,List.mem_range] at hx
 obtain⟨i,hi,rfl⟩:=hx
 exact mJ zaa
theorem YH(hk:k<=3):∀ x∈SL seed k,x.length<=1000000:=fun x hx=>by rw[A3J hk x hx];decide
theorem yY(hk:k<=3):(SL seed k).length<=1000:=by rw[Gu];have:=MI hk;omega
theorem YI{i:Nat}(hi:i<2^k):(SL seed k).getD i []=Ht (lsB seed k) i:=by
 rw[List.getD,List.getElem?_eq_getElem (by rw[Gu];exact hi)];simp[SL]
theorem A7F(h i:Int)(l r:List UInt8):(Lc h i l r).length=16:=by simp[Lc,A8]
theorem A3K(h:Int):∀(n:Nat) (i:Int) (ls:List (List UInt8)),ls.length<=n->∀ x∈Wp h i ls,x.length=16
 | 0,i,ls,hl=>by rw[VA _ _ _ zaa];intro x hx;cases hx
 | n+1,i,[],_|n+1,i,[_],_=>by intro x hx;cases hx
 | n+1,i,l::r::t,hl=>by
  intro x hx
  simp only[Wp,List.mem_cons] at hx
  rcases hx with rfl|hx
  ·exact A7F _ _ _ _
  ·exact A3K h n (i+1) t zbU x hx
theorem mM:∀(k:Nat) (h i:Int) (ls:List (List UInt8)),ls.length=2^k->0<=i->i<ls.length->(∀ l∈ls,l.length=16)->∀ l∈MC k h i ls,l.length=16
 | 0,h,i,ls,_,_,_,hm,l,hl=>by cases hl
 | k+1,h,i,ls,hn,h0,hi,hm,l,hl=>by
  rw[MC] at hl
  have hu:(Wp h 0 ls).length=2^k:=by rw[Nj h _ 0 ls (Nat.le_refl _),hn,Nat.pow_succ];omega
  have h2:(ls.length:Int)=2*(2^k:Nat):=by rw[hn,Nat.pow_succ];omega
  rcases List.mem_cons.1 hl with rfl|hl
  ·have hs:(ah i).toNat<ls.length:=by unfold ah;split<;>omega
   simp only[List.getD,List.getElem?_eq_getElem hs,Option.getD_some];exact hm _ (List.getElem_mem hs)
  ·exact mM k (h+1) (i/2) _ hu zaa (by rw[hu];omega) (A3K h _ 0 ls (Nat.le_refl _)) l hl
theorem YJ{i:Int}(hk:k<=3)(h0:0<=i)(hi:i<(2:Int)^k):(Io i (SL seed k)).length=k/\∀ l∈Io i (SL seed k),l.length=16:=by
 have hl:=Gu seed k
 have hh:=Ru hk hl
 rw[He] at hi
 have hp:Io i (SL seed k)=MC k 0 i (SL seed k):=by unfold Io;rw[hh,if_neg (by rw[hl];omega),Int.toNat_natCast]
 rw[hp]
 exact⟨Rt _ _ _ _,mM k 0 i _ hl h0 (by rw[hl];exact hi) (A3J hk)⟩
theorem iV(hk:k<=3):(Ld (SL seed k)).length=16:=by
 have hl:=Gu seed k
 rcases Nat.eq_zero_or_pos k with rfl|hp
 ·have hh:=Ru hk hl
  unfold Ld
  rw[hh,if_neg zaa,show((0:Nat):Int).toNat=0 from rfl,Wq,YI zam]
  exact mJ zaa
 ·exact A7E hk hl (by rw[hl];exact Nat.one_lt_two_pow zaa)
theorem VD(hh:0<=h/\h<=3):(En seed h).length=17:=by
 rw[En,if_pos hh,List.length_cons,iV zaa]
theorem yZ(seed:List UInt8)(h:Int):(En seed h).length<=17:=by
 by_cases hh:0<=h/\h<=3
 ·rw[VD hh];exact Nat.le_refl _
 ·rw[En,if_neg hh];simp
theorem dO{n:Nat}:∀ {l:List (List UInt8)},(∀ x∈l,x.length=n)->l.flatten.length=n*l.length
 | [],_=>zam
 | x::l,h=>by rw[List.flatten_cons,List.length_append,h x zam,dO (fun y hy=>h y (by simp[hy])),List.length_cons,Nat.mul_succ];omega
theorem QR(hh:0<=h/\h<=3)(hl:0<=leaf/\leaf<(2:Int)^h.toNat):(Eg seed h leaf m).length=561+16*h.toNat:=by
 have h8:=MI (k:=h.toNat) zaa
 have hi:=hl
 rw[He] at hi
 obtain⟨p1,p2⟩:=YJ (seed:=seed) (k:=h.toNat) (i:=leaf) zaa hl.1 hl.2
 rw[Eg,if_pos ⟨hh,hl⟩,List.length_cons,List.length_append,OQ zaa,dO p2,p1];omega
theorem Zg:∀(l:List (List UInt8)),(∀ x∈l,x.length=16)->JI l.length l.flatten=l
 | [],_=>rfl
 | x::l,h=>by
  have hx:=h x zam
  rw[List.length_cons,List.flatten_cons,JI,List.take_left' hx,List.drop_left' hx,Zg l (fun y hy=>h y (by simp[hy]))]
theorem JB:∀(k:Nat) (s:List UInt8),(JI k s).length=k
 | 0,_=>rfl
 | k+1,s=>by rw[JI,List.length_cons,JB k]
theorem dP:∀(k:Nat) (s:List UInt8),∀ x∈JI k s,x.length<=1000000
 | 0,_,x,hx=>by cases hx
 | k+1,s,x,hx=>by
  rw[JI] at hx
  rcases List.mem_cons.1 hx with rfl|hx
  ·rw[List.length_take];omega
  ·exact dP k _ x hx
theorem A3L(hh:0<=h/\h<=3)(hl:0<=leaf/\leaf<(2:Int)^h.toNat):
  dN (En seed h) (Eg seed h leaf m)/\(En seed h).drop 1=Ld (SL seed h.toNat)/\yX (En seed h) m (Eg seed h leaf m)=Ld (SL seed h.toNat)/\((Eg seed h leaf m).getD 0 0).toNat=leaf.toNat:=by
 obtain⟨k,rfl⟩:∃ k:Nat,h=k:=⟨h.toNat,by omega⟩
 have hk:k<=3:=zaa
 rw[Int.toNat_natCast] at *
 have h8:=MI hk
 have hp:=He k
 obtain⟨i,rfl⟩:∃ i:Nat,leaf=i:=⟨leaf.toNat,by omega⟩
 obtain⟨p1,p2⟩:=YJ (seed:=seed) (k:=k) (i:=(i:Int)) hk zaa zaa
 have e1:En seed (k:Int)=UInt8.ofInt (k:Int)::Ld (SL seed k):=by rw[En,if_pos hh,Int.toNat_natCast]
 have hs:=OQ (seed:=lsB seed k) (m:=m) (leaf:=(i:Int)) zaa
 have e2:Eg seed (k:Int) (i:Int) m=UInt8.ofInt (i:Int)::(LZ (lsB seed k) i m++(Io (i:Int) (SL seed k)).flatten):=by rw[Eg,if_pos ⟨hh,by rw[Int.toNat_natCast];exact hl⟩,Int.toNat_natCast]
 have n1:(UInt8.ofInt (k:Int)).toNat=k:=by rw[UInt8.ofInt,UInt8.toNat_ofNat'];omega
 have n2:(UInt8.ofInt (i:Int)).toNat=i:=by rw[UInt8.ofInt,UInt8.toNat_ofNat'];omega
 have g1:(En seed (k:Int)).getD 0 0=UInt8.ofInt (k:Int):=by rw[e1];rfl
 have g2:(Eg seed (k:Int) (i:Int) m).getD 0 0=UInt8.ofInt (i:Int):=by rw[e2];rfl
 have d1:((Eg seed (k:Int) (i:Int) m).drop 1).take 560=LZ (lsB seed k) i m:=by rw[e2,List.drop_one,List.tail_cons,List.take_left' hs]
 have d2:(Eg seed (k:Int) (i:Int) m).drop 561=(Io (i:Int) (SL seed k)).flatten:=by rw[e2,List.drop_succ_cons,List.drop_left' hs]
 refine⟨⟨VD hh,?_,?_,?_⟩,by rw[e1];rfl,?_,by rw[g2,n2];omega⟩
 ·rw[g1,n1];exact hk
 ·rw[g1,n1,QR hh (by rw[Int.toNat_natCast];exact hl),Int.toNat_natCast]
 ·rw[g1,g2,n1,n2];omega
 ·rw[yX,g1,g2,n1,n2,d1,d2,A5N zaa]
  have hc:=Zg _ p2
  rw[p1] at hc
  rw[hc]
  have ht:=(A8A hk (Gu seed k) (i:=(i:Int)) zaa (by rw[Gu];omega)).2
  rw[Int.toNat_natCast,YI zaa] at ht
  exact ht
theorem A0K{a b:UInt8}{p' s':List UInt8}{i:Nat}(hk:a.toNat=k)(hi:b.toNat=i)(hp:(a::p').length=17)(hk3:k<=3)(hs:(b::s').length=561+16*k)(hi2:i<2^k):
  Fv (a::p') m (b::s')=if Jk (P8 (i:Int) m (((b::s').drop 1).take 560)).1 (i:Int) (JI k ((b::s').drop 561))=p' then((i:Int),true) else(0,false):=by
 subst hk;subst hi
 have hf:dN (a::p') (b::s'):=⟨hp,hk3,hs,hi2⟩
 have hr:yX (a::p') m (b::s')=Jk (P8 (b.toNat:Int) m (((b::s').drop 1).take 560)).1 (b.toNat:Int) (JI a.toNat ((b::s').drop 561)):=rfl
 have hd:(a::p').drop 1=p':=rfl
 unfold Fv
 rw[hr,hd]
 by_cases hq:Jk (P8 (b.toNat:Int) m (((b::s').drop 1).take 560)).1 (b.toNat:Int) (JI a.toNat ((b::s').drop 561))=p'
 ·rw[if_pos ⟨hf,hq⟩,if_pos hq];rfl
 ·rw[if_neg (fun h=>hq h.2),if_neg hq]
theorem YK{p s:List UInt8}(h:¬dN p s):Fv p m s=(0,false):=by rw[Fv,if_neg (fun e=>h e.1)]
theorem A3M(hh:0<=h/\h<=3)(hl:0<=leaf/\leaf<(2:Int)^h.toNat):Fv (En seed h) m (Eg seed h leaf m)=(leaf,true):=by
 obtain⟨q1,q2,q3,q4⟩:=A3L (seed:=seed) (m:=m) hh hl
 rw[Fv,if_pos ⟨q1,by rw[q3,q2]⟩,q4]
 congr 1;omega
end Go.Ax
