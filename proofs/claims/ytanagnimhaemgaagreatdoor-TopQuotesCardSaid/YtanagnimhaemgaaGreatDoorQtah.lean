/-
  Own texts, laid together for this claim: contracts of functions of the program and its references, used by the statements of this seat.
-/
import Derived.Test.YtanagnimhaemgaaGreatDoorQtac
import Derived.Test.YtanagnimhaemgaaGreatDoorQtag
set_option linter.all false
set_option maxHeartbeats 40000000
set_option maxRecDepth 100000
namespace Go.Ax
open Go.Eng
variable (b:UInt8)(leaf:Int)(m:List UInt8)
def hiN(b:UInt8):Int:=((b.toNat/16:Nat):Int)
def loN(b:UInt8):Int:=((b.toNat%16:Nat):Int)
def NL(l:List UInt8):List Int:=l.flatMap fun b=>[hiN b,loN b]
def Je:List UInt8->Int
 | []=>0
 | b::l=>30-hiN b-loN b+Je l
def A2u(h:List UInt8):List Int:=NL h++[Je h/256,Je h/16%16,Je h%16]
def Uw(m:List UInt8):List UInt8:=(sha256 (Ag 4 [m])).take 16
def H7(m:List UInt8):List Int:=A2u (Uw m)
def Vb(leaf c p:Int)(x:List UInt8):List UInt8:=(sha256 (Ag 1 [[UInt8.ofInt leaf,UInt8.ofInt c,UInt8.ofInt p],x])).take 16
def GM:Nat->Int->Int->Int->List UInt8->List UInt8
 | 0,_,_,_,x=>x
 | n+1,leaf,c,p,x=>GM n leaf c (p+1) (Vb leaf c p x)
def Hg(seed:List UInt8)(leaf c:Int):List UInt8:=Aw seed [99,104,97,105,110] [UInt8.ofInt leaf,UInt8.ofInt c] 16
def Ux(leaf:Int)(x:List UInt8):List UInt8:=(sha256 (Ag 2 [[UInt8.ofInt leaf],x])).take 16
theorem wK:0<=hiN b/\hiN b<=15:=by have:=b.toNat_lt;unfold hiN;omega
theorem wL:0<=loN b/\loN b<=15:=by unfold loN;omega
theorem A7R:Dq (BL b (UInt64.ofNat 4).toNat)=hiN b:=by
 rw[Jn,ul];unfold u8shr0 hiN
 have:=b.toNat_lt
 rw[show min (UInt64.ofNat 4).toNat 8=4 from rfl,UInt8.toNat_ofNat']
 congr 1;omega
theorem A7S:Dq (CB .and b (UInt8.ofNat 15))=loN b:=by
 rw[Jn,A29];unfold loN
 rw[UInt8.toNat_and,show(UInt8.ofNat 15).toNat=2^4-1 from rfl,Nat.and_two_pow_sub_one_eq_mod]
theorem QM:∀ l:List UInt8,0<=Je l/\Je l<=30*l.length
 | []=>by simp[Je]
 | b::l=>by
  have h1:=wK b
  have h2:=wL b
  have h3:=QM l
  simp only[Je,List.length_cons];omega
theorem EX:∀ l:List UInt8,(NL l).length=2*l.length
 | []=>rfl
 | b::l=>by have:=EX l;simp only[NL] at *;simp[this];omega
theorem A2v(l m:List UInt8):NL (l++m)=NL l++NL m:=by simp[NL]
theorem jr:∀ l m:List UInt8,Je (l++m)=Je l+Je m
 | [],m=>by simp[Je]
 | b::l,m=>by simp only[List.cons_append,Je,jr l m];omega
theorem EI:(Uw m).length=16:=by simp[Uw,A7]
theorem E8(c p:Int)(x:List UInt8):(Vb leaf c p x).length=16:=by simp[Vb,A7]
theorem La:∀(n:Nat) (leaf c p:Int) (x:List UInt8),x.length=16->(GM n leaf c p x).length=16
 | 0,_,_,_,x,h=>h
 | n+1,leaf,c,p,x,h=>La n leaf c (p+1) _ (E8 _ _ _ _)
theorem DN(seed:List UInt8)(leaf c:Int):(Hg seed leaf c).length=16:=G5 zaa
theorem Xr(x:List UInt8):(Ux leaf x).length=16:=by simp[Ux,A7]
def Jf(leaf:Int)(st:Nat->List UInt8)(fr to:Nat->Int)(n:Nat):List UInt8:=(List.range n).flatMap fun(c:Nat)=>GM (to c-fr c).toNat leaf c (fr c) (st c)
theorem Ib(st:Nat->List UInt8)(fr to:Nat->Int)(n:Nat):Jf leaf st fr to (n+1)=Jf leaf st fr to n++GM (to n-fr n).toNat leaf n (fr n) (st n):=by
 unfold Jf;rw[List.range_succ,List.flatMap_append];simp
theorem Lc(leaf:Int)(st:Nat->List UInt8)(fr to:Nat->Int)(m:Nat)(hs:∀ c,c<m->(st c).length=16):∀ n,n<=m->(Jf leaf st fr to n).length=16*n
 | 0,_=>rfl
 | n+1,h=>by rw[Ib,List.length_append,Lc leaf st fr to m hs n zaa,La _ _ _ _ _ (hs n zaa)];omega
def Ir(seed:List UInt8)(leaf:Int):List UInt8:=if 0<=leaf/\leaf<=255 then Ux leaf (Jf leaf (fun c=>Hg seed leaf c) (fun c=>0) (fun c=>15) 35) else []
def Ob(seed:List UInt8)(leaf:Int)(m:List UInt8):List UInt8:=if 0<=leaf/\leaf<=255 then Jf leaf (fun c=>Hg seed leaf c) (fun c=>0) (fun c=>(H7 m).getD c 0) 35 else []
def OO(leaf:Int)(m sig:List UInt8):List UInt8×Bool:=if(0<=leaf/\leaf<=255)/\sig.length=560 then(Ux leaf (Jf leaf (fun c=>(sig.drop (16*c)).take 16) (fun c=>(H7 m).getD c 0) (fun c=>15) 35),true) else([],false)
theorem Xt:(H7 m).length=35:=by simp[H7,A2u,EX,EI]
theorem jv:∀(l:List UInt8),∀ x∈NL l,0<=x/\x<=15
 | [],x,h=>zaL
 | b::l,x,h=>by
  simp only[NL,List.flatMap_cons,List.mem_append,List.mem_cons,List.not_mem_nil,or_false] at h
  rcases h with(rfl|rfl)|h
  ·exact wK b
  ·exact wL b
  ·exact jv l x h
theorem Xu:∀ x∈H7 m,0<=x/\x<=15:=by
 intro x hx
 have h1:=QM (Uw m)
 rw[EI] at h1
 simp only[H7,A2u,List.mem_append,List.mem_cons,List.not_mem_nil,or_false] at hx
 rcases hx with hx|rfl|rfl|rfl
 ·exact jv _ x hx
 ·omega
 ·omega
 ·omega
theorem Xv:∀(m n:Nat) (leaf c p:Int) (x:List UInt8),GM (m+n) leaf c p x=GM n leaf c (p+m) (GM m leaf c p x)
 | 0,n,leaf,c,p,x=>by simp[GM]
 | m+1,n,leaf,c,p,x=>by
  rw[show m+1+n=(m+n)+1 from by omega,GM,Xv m n,GM]
  congr 1;omega
theorem Zj(leaf:Int)(st:Nat->List UInt8)(fr to:Nat->Int)(m:Nat)(hs:∀ c,c<m->(st c).length=16):∀ n,n<=m->∀ c,c<n->((Jf leaf st fr to n).drop (16*c)).take 16=GM (to c-fr c).toNat leaf c (fr c) (st c)
 | 0,_,c,hc=>zaa
 | n+1,hn,c,hc=>by
  have hl:=Lc leaf st fr to m hs n zaa
  rw[Ib]
  by_cases h:c=n
  ·subst h
   rw[List.drop_append,List.drop_eq_nil_of_le zaa,hl,Nat.sub_self,List.drop_zero,List.nil_append]
   exact List.take_of_length_le (by rw[La _ _ _ _ _ (hs c zaa)];omega)
  ·rw[List.drop_append_of_le_length zaa,List.take_append_of_le_length zaI]
   exact Zj leaf st fr to m hs n zaa c zaa
theorem Vd{leaf:Int}{st st':Nat->List UInt8}{fr fr' to to':Nat->Int}:∀ n,(∀ c,c<n->GM (to c-fr c).toNat leaf c (fr c) (st c)=GM (to' c-fr' c).toNat leaf c (fr' c) (st' c))->Jf leaf st fr to n=Jf leaf st' fr' to' n
 | 0,_=>rfl
 | n+1,h=>by rw[Ib,Ib,Vd n (fun c hc=>h c zaa),h n zaa]
theorem A8Y(c:Nat)(hc:c<35):0<=(H7 m).getD c 0/\(H7 m).getD c 0<=15:=by
 have hl:=Xt m
 have:=Xu m _ (List.getElem_mem (l:=H7 m) (n:=c) zaa)
 simp only[List.getD,List.getElem?_eq_getElem (show c<(H7 m).length by omega),Option.getD_some];exact this
theorem QN{seed m:List UInt8}{leaf:Int}(h:0<=leaf/\leaf<=255):(Ob seed leaf m).length=560:=by
 unfold Ob
 rw[if_pos h,Lc _ _ _ _ 35 (fun c _=>DN _ _ _) 35 (Nat.le_refl _)]
theorem A61{seed m:List UInt8}{leaf:Int}(h:0<=leaf/\leaf<=255):OO leaf m (Ob seed leaf m)=(Ir seed leaf,true):=by
 have hl:=QN (seed:=seed) (m:=m) h
 unfold OO Ir
 rw[if_pos ⟨h,hl⟩,if_pos h]
 congr 2
 refine Vd 35 fun c hc=>?_
 have hd:=A8Y m c hc
 have hg:=Zj leaf (fun c=>Hg seed leaf c) (fun c=>(0:Int)) (fun c=>(H7 m).getD c 0) 35 (fun c _=>DN _ _ _) 35 (Nat.le_refl _) c hc
 unfold Ob
 rw[if_pos h,hg]
 have:=Xv ((H7 m).getD c 0-0).toNat (15-(H7 m).getD c 0).toNat leaf c 0 (Hg seed leaf c)
 rw[show((H7 m).getD c 0-0).toNat+(15-(H7 m).getD c 0).toNat=(15-(0:Int)).toNat from by omega,show(0:Int)+(((H7 m).getD c 0-0).toNat:Int)=(H7 m).getD c 0 from by omega] at this
 exact this.symm
theorem A8Z(s:List UInt8):(OO leaf m s).1.length<=16:=by
 unfold OO;split
 ·simp only[Xr];omega
 ·simp
theorem rec_2(s:List UInt8):(OO leaf m s).2=decide ((0<=leaf/\leaf<=255)/\s.length=560):=by
 unfold OO;split
 ·rename_i h;simp only[decide_eq_true h]
 ·rename_i h;simp only[decide_eq_false h]
def di:List Int->Int
 | []=>0
 | x::l=>15-x+di l
theorem Uy:∀ l:List UInt8,di (NL l)=Je l
 | []=>rfl
 | b::l=>by
  have:=Uy l
  simp only[NL] at *
  simp only[List.flatMap_cons,List.cons_append,List.nil_append,di,Je,this];omega
theorem OQ:(NL (Uw m)).length=32:=by rw[EX,EI]
def Kq:List Int->List Int->Bool
 | a::x,b::y=>decide (b<a)||Kq x y
 | _,_=>false
theorem Xw:∀ x:List Int,Kq x x=false
 | []=>rfl
 | a::x=>by simp[Kq,Xw x]
theorem Zk:∀(x1 y1 x2 y2:List Int),x1.length=y1.length->Kq (x1++x2) (y1++y2)=(Kq x1 y1||Kq x2 y2)
 | [],[],x2,y2,_=>by simp[Kq]
 | a::x1,b::y1,x2,y2,h=>by simp only[List.cons_append,Kq,Zk x1 y1 x2 y2 zaN,Bool.or_assoc]
 | [],b::y1,x2,y2,h|a::x1,[],x2,y2,h=>za7
theorem A2w:∀(x y:List Int),x.length=y.length->Kq x y=false->di y<=di x/\(di x=di y->x=y)
 | [],[],_,_=>by simp[di]
 | a::x,b::y,h,hg=>by
  simp only[Kq,Bool.or_eq_false_iff,decide_eq_false_iff_not] at hg
  obtain⟨h1,h2⟩:=A2w x y zaN hg.2
  simp only[di]
  refine⟨by omega,fun e=>?_⟩
  obtain rfl:a=b:=zaa
  rw[h2 zaa]
 | [],b::y,h,_|a::x,[],h,_=>za7
theorem A2x(a b:List UInt8)(h:Kq (H7 a) (H7 b)=false):H7 a=H7 b:=by
 unfold H7 A2u at h
 rw[Zk _ _ _ _ (by rw[OQ,OQ]),Bool.or_eq_false_iff] at h
 obtain⟨h1,h2⟩:=h
 obtain⟨h3,h4⟩:=A2w _ _ (by rw[OQ,OQ]) h1
 rw[Uy,Uy] at h3 h4
 simp only[Kq,Bool.or_eq_false_iff,decide_eq_false_iff_not] at h2
 have e:Je (Uw a)=Je (Uw b):=zaa
 unfold H7 A2u
 rw[h4 e,e]
theorem cross(a b:List UInt8):(Kq (H7 a) (H7 b)==Kq (H7 b) (H7 a))=true/\(Kq (H7 a) (H7 b) != decide (H7 a=H7 b))=true:=by
 by_cases h:H7 a=H7 b
 ·rw[h,Xw];simp
 ·cases h1:Kq (H7 a) (H7 b)
  ·exact absurd (A2x a b h1) h
  ·cases h2:Kq (H7 b) (H7 a)
   ·exact absurd (A2x b a h2).symm h
   ·simp[h]
end Go.Ax
