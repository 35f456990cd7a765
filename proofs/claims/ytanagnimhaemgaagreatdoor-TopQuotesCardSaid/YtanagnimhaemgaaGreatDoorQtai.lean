/-
  Own texts, laid together for this claim: contracts of functions of the program and its references, used by the statements of this seat.
-/
import Derived.Test.YtanagnimhaemgaaGreatDoorQtac
set_option linter.all false
set_option maxHeartbeats 40000000
set_option maxRecDepth 100000
namespace Go.Ax
open Go.Eng
variable {K:Nat}{α:Type}(h i:Int)
def L8(h i:Int)(l r:List UInt8):List UInt8:=(sha256 (Ag 3 [[UInt8.ofInt h,UInt8.ofInt i],l,r])).take 16
theorem Xx(tag:Int)(a b c:List UInt8):(Ag tag [a,b,c]).length=13+a.length+b.length+c.length:=by
 simp[Ag,fieldsB,Gw];omega
def Yg(h i:Int):List (List UInt8)->List (List UInt8)
 | l::r::t=>L8 h i l r::Yg h (i+1) t
 | _=>[]
def GH(n:Int):Int:=if n=1 then 0 else if n=2 then 1 else if n=4 then 2 else if n=8 then 3 else -1
def OT(h i:Int)(x:List UInt8):List (List UInt8)->List UInt8
 | []=>x
 | s::p=>OT (h+1) (i/2) (if i%2=1 then L8 h (i/2) s x else L8 h (i/2) x s) p
def JG(x:List UInt8)(i:Int)(p:List (List UInt8)):List UInt8:=if 3<p.length\/i<0\/(2:Int)^p.length<=i then [] else OT 0 i x p
theorem QO(l r:List UInt8):(L8 h i l r).length<=16:=by simp[L8];omega
theorem drop2{ls:List α}{i:Nat}(h:2*i+1<ls.length):ls.drop (2*i)=ls[2*i]::ls[2*i+1]::ls.drop (2*(i+1)):=by
 rw[List.drop_eq_getElem_cons zaa,List.drop_eq_getElem_cons (i:=2*i+1) zaa];rfl
theorem WV(ls:List (List UInt8))(hl:ls.length<=1):Yg h i ls=[]:=by
 match ls with
 | []|[_]=>rfl
 | _::_::_=>simp at hl
theorem Td(h:Int):∀(n:Nat) (i:Int) (ls:List (List UInt8)),ls.length<=n->(Yg h i ls).length=ls.length/2
 | 0,i,ls,hl=>by rw[WV _ _ _ zaa,List.length_nil];omega
 | n+1,i,[],_=>rfl
 | n+1,i,[_],_=>by simp[Yg]
 | n+1,i,l::r::t,hl=>by
  simp only[Yg,List.length_cons,Td h n (i+1) t zbm]
  simp only[List.length_cons] at hl;omega
theorem dm(h:Int):∀(n:Nat) (i:Int) (ls:List (List UInt8)),ls.length<=n->∀ x∈Yg h i ls,x.length<=1000000
 | 0,i,ls,hl=>by rw[WV _ _ _ zaa];intro x hx;cases hx
 | n+1,i,[],_|n+1,i,[_],_=>by intro x hx;cases hx
 | n+1,i,l::r::t,hl=>by
  intro x hx
  simp only[Yg,List.mem_cons] at hx
  rcases hx with rfl|hx
  ·have:=QO h i l r;omega
  ·exact dm h n (i+1) t zbm x hx
def QZ:Nat->Int->List (List UInt8)->List (List (List UInt8))
 | 0,h,ls=>[ls]
 | k+1,h,ls=>ls::QZ k (h+1) (Yg h 0 ls)
def Xy:Nat->Int->List (List UInt8)->List (List UInt8)
 | 0,h,ls=>ls
 | j+1,h,ls=>Xy j (h+1) (Yg h 0 ls)
def Me(ls:List (List UInt8)):List UInt8:=if GH ls.length<0 then [] else(Xy (GH ls.length).toNat 0 ls).getD 0 []
def wM(i:Int):Int:=if i%2=0 then i+1 else i-1
def Ns:Nat->Int->Int->List (List UInt8)->List (List UInt8)
 | 0,h,i,ls=>[]
 | k+1,h,i,ls=>ls.getD (wM i).toNat []::Ns k (h+1) (i/2) (Yg h 0 ls)
def Ji(i:Int)(ls:List (List UInt8)):List (List UInt8):=if GH ls.length<0\/i<0\/(ls.length:Int)<=i then [] else Ns (GH ls.length).toNat 0 i ls
theorem Xz:∀(j:Nat) (h:Int) (ls:List (List UInt8)),Xy (j+1) h ls=Yg (h+j) 0 (Xy j h ls)
 | 0,h,ls=>by simp[Xy]
 | j+1,h,ls=>by
  rw[Xy,Xz j (h+1),Xy]
  congr 1;omega
theorem Y0 : ∀ (k : Nat) (h : Int) (ls : List (List UInt8)) (j : Nat), j <= k -> (QZ k h ls)[j]? = some (Xy j h ls)
  | 0, h, ls, j, hj => by obtain rfl : j = 0 := by omega
                          rfl
  | k + 1, h, ls, 0, _ => rfl
  | k + 1, h, ls, j + 1, hj => by rw [QZ, List.getElem?_cons_succ, Y0 k (h + 1) _ j zaa, Xy]
theorem YA:∀(k:Nat) (h:Int) (ls:List (List UInt8)),(QZ k h ls).length=k+1
 | 0,h,ls=>rfl
 | k+1,h,ls=>by rw[QZ,List.length_cons,YA k]
theorem WW:∀(j:Nat) (h:Int) (ls:List (List UInt8)) (k:Nat),ls.length=2^(j+k)->(Xy j h ls).length=2^k
 | 0,h,ls,k,hl=>by rw[Xy,hl,Nat.zero_add]
 | j+1,h,ls,k,hl=>by
  rw[Xy]
  refine WW j (h+1) _ k ?_
  rw[Td h _ _ _ (Nat.le_refl _),hl,show j+1+k=(j+k)+1 from by omega,Nat.pow_succ];omega
theorem dn:∀(j:Nat) (h:Int) (ls:List (List UInt8)),(∀ x∈ls,x.length<=1000000)->∀ x∈Xy j h ls,x.length<=1000000
 | 0,h,ls,hm=>hm
 | j+1,h,ls,hm=>dn j (h+1) _ (dm h _ 0 ls (Nat.le_refl _))
theorem YB(n:Nat)(h:¬GH n<0):∃ k:Nat,k<=3/\GH n=(k:Int)/\n=2^k:=by
 unfold GH at h ⊢
 by_cases h1:(n:Int)=1
 ·exact⟨0,by omega,by rw[if_pos h1];rfl,by simp;omega⟩
 rw[if_neg h1] at h ⊢
 by_cases h2:(n:Int)=2
 ·exact⟨1,by omega,by rw[if_pos h2];rfl,by simp;omega⟩
 rw[if_neg h2] at h ⊢
 by_cases h4:(n:Int)=4
 ·exact⟨2,by omega,by rw[if_pos h4];rfl,by simp;omega⟩
 rw[if_neg h4] at h ⊢
 by_cases h8:(n:Int)=8
 ·exact⟨3,by omega,by rw[if_pos h8];rfl,by simp;omega⟩
 rw[if_neg h8] at h
 exact absurd h zad
theorem Zl(pre:List α)(x:α)(h:Int)(hh:(pre.length:Int)=h):Ai (pre++[x]) h=some x:=by
 subst hh;rw[DD];simp
theorem A62{i:Int}(h:0<=i/\i<1024):Ar .xor i 1=wM i:=by
 rw[NF]
 have:∀ j:Fin 1024,ibit0 .xor (j.val:Int) 1=wM (j.val:Int):=zaA
 have h1:=this ⟨i.toNat,by omega⟩
 simp only[Int.toNat_of_nonneg h.1] at h1
 exact h1
def pnd(h i:Int)(s x:List UInt8):List UInt8:=if i%2=1 then L8 h (i/2) s x else L8 h (i/2) x s
def A9w(ls:List (List UInt8)):Prop:=(∀ l∈ls,l.length<=60)/\ls.length<20
instance (ls:List (List UInt8)):Decidable (A9w ls):=by unfold A9w;infer_instance
theorem A63(l r:List UInt8):(pnd h i l r).length<=16:=by unfold pnd;split<;>exact QO _ _ _ _
theorem drop_one{l:List α}{j:Nat}(h:j<l.length):l.drop j=l[j]::l.drop (j+1):=List.drop_eq_getElem_cons h
theorem YC(h:Int):∀(j:Nat) (i:Int) (ls:List (List UInt8)),2*j+1<ls.length->(Yg h i ls).getD j []=L8 h (i+j) (ls.getD (2*j) []) (ls.getD (2*j+1) [])
 | 0,i,l::r::t,_=>by simp[Yg]
 | j+1,i,l::r::t,hl=>by
  simp only[Yg,List.getD_cons_succ]
  rw[YC h j (i+1) t zbm]
  rw[show 2*(j+1)=2*j+1+1 from by omega]
  simp only[List.getD_cons_succ]
  congr 1;omega
 | 0,i,[_],hl|j+1,i,[_],hl|_,i,[],hl=>by simp at hl
theorem Ve(x s:List UInt8)(p:List (List UInt8)):OT h i x (s::p)=OT (h+1) (i/2) (pnd h i s x) p:=rfl
theorem trip:∀(k:Nat) (h i:Int) (ls:List (List UInt8)),ls.length=2^k->0<=i->i<ls.length->OT h i (ls.getD i.toNat []) (Ns k h i ls)=(Xy k h ls).getD 0 []
 | 0,h,i,ls,hl,h0,hi=>by
  obtain rfl:i=0:=zbm
  rfl
 | k+1,h,i,ls,hl,h0,hi=>by
  have hl2:ls.length=2*2^k:=by rw[hl,Nat.pow_succ];omega
  have hul:(Yg h 0 ls).length=2^k:=by rw[Td _ _ _ _ (Nat.le_refl _)];omega
  rw[Ns,Ve,Xy,<-trip k (h+1) (i/2) (Yg h 0 ls) hul zaa zaa]
  congr 1
  rw[YC h (i/2).toNat 0 ls zaa]
  unfold pnd wM
  by_cases hc:i%2=1
  ·rw[if_pos hc,if_neg zaa,show(0:Int)+((i/2).toNat:Int)=i/2 from by omega,show 2*(i/2).toNat=(i-1).toNat from by omega,show(i-1).toNat+1=i.toNat from by omega]
  ·rw[if_neg hc,if_pos zaa,show(0:Int)+((i/2).toNat:Int)=i/2 from by omega,show 2*(i/2).toNat=i.toNat from by omega,show(i+1).toNat=i.toNat+1 from by omega]
theorem QP:∀(k:Nat) (h i:Int) (ls:List (List UInt8)),(Ns k h i ls).length=k
 | 0,h,i,ls=>rfl
 | k+1,h,i,ls=>by rw[Ns,List.length_cons,QP k]
theorem Zm:∀(p:List (List UInt8)) (h i:Int) (x:List UInt8),x.length<=1000000->(OT h i x p).length<=1000000
 | [],h,i,x,hx=>hx
 | s::p,h,i,x,hx=>by
  rw[Ve];exact Zm p _ _ _ (by have:=A63 h i s x;omega)
theorem A2y{x:List UInt8}{i:Int}{p:List (List UInt8)}(hx:x.length<=1000000):(JG x i p).length<=4294967296:=by
 unfold JG
 split
 ·simp
 ·have:=Zm p 0 i x hx;omega
theorem QQ{n:Nat}(hK:K<=3)(hn:n=2^K):GH n=K:=by
 subst hn
 have:∀ K:Fin 4,GH ((2^K.val:Nat):Int)=((K.val:Nat):Int):=zad
 exact this ⟨K,by omega⟩
theorem A9x{l:List (List UInt8)}(hK:K<=3)(hl:l.length=2^K){i:Int}(h0:0<=i)(hi:i<l.length):(Ji i l).length=K/\JG (l.getD i.toNat []) i (Ji i l)=Me l:=by
 have hh:=QQ hK hl
 have hp:Ji i l=Ns K 0 i l:=by unfold Ji;rw[hh,if_neg zaa,Int.toNat_natCast]
 rw[hp]
 refine⟨QP _ _ _ _,?_⟩
 unfold JG Me
 have hc:¬(3<K\/i<0\/(2:Int)^K<=i):=by
  intro h
  have:(l.length:Int)=(2:Int)^K:=by rw[hl];simp
  omega
 rw[QP,hh,if_neg hc,if_neg zaa,Int.toNat_natCast]
 exact trip K 0 i l hl h0 hi
theorem A8a{l:List (List UInt8)}(hK:K<=3)(hl:l.length=2^K)(h1:1<l.length):(Me l).length=16:=by
 have hh:=QQ hK hl
 unfold Me
 rw[hh,if_neg zaa,Int.toNat_natCast]
 cases K with
 | zero=>simp at hl;omega
 | succ k =>
  have h2:=WW k 0 l 1 hl
  rw[Xz,YC _ 0 0 _ zaa]
  simp[L8,A7]
end Go.Ax
namespace Go.Ax
open Go Go.Eng Go.RowKit
variable {α:Type}
abbrev RY(E:Env)(q:Rq)(R:Option Rsp->Prop):Prop:=R (Y E q)
theorem rF{E:Env}{q:Rq}{R:Option Rsp->Prop}(h:∀ P:Option Rsp->Prop,(∀ r,R r->P r)->P (Y E q)):RY E q R:=h R fun _ h=>h
structure MS where
 sd:List (List UInt8)
 au:List (List UInt8)
 en:List UInt8
 ac:Int
 re:Int
 rs:Int
 ck:Int
 od:Bool
 sb:List (List (List UInt8))
 su:Int
 mc:Int
 ix:List (El AL)
 l1:Int
 l2:Int
 l3:Int
 l4:Int
 l5:Int
 l6:Int
 ks:List (El BR)
 st:Bool
 sp:Bool
 rb:List (List (List UInt8))
 ru:Int
 vc:Int
 sf:Bool
 dr:Int
 ss:List (El sesT)
 ob:List (El objT)
 rl:List Int
 wl:List Int
@[reducible] def cv (s:MS):List AV:=[.sl (.sl .u8) s.sd,.sl (.sl .u8) s.au,.sl .u8 s.en,.i s.ac,.i s.re,.i s.rs,.i s.ck,.b s.od,.sl (.sl (.sl .u8)) s.sb,.i s.su,.i s.mc,.sl AL s.ix,.i s.l1,.i s.l2,.i s.l3,.i s.l4,.i s.l5,.i s.l6,.sl BR s.ks,.b s.st,.b s.sp,.sl (.sl (.sl .u8)) s.rb,.i s.ru,.i s.vc,.b s.sf,.i s.dr,.sl sesT s.ss,.sl objT s.ob,.sl .i64 s.rl,.sl .i64 s.wl]
@[reducible] def av (s:MS):AV:=.agg (cv s)
@[reducible] def rq (c:Int) (hs:List Int) (az:List (El AQ)) (is:List Int) (bs:List (List UInt8)):AV:=.agg [.i c,.sl .i64 hs,.sl AQ az,.sl .i64 is,.sl (.sl .u8) bs]
@[reducible] def rp (e:Int) (is:List Int) (bs ns:List (List UInt8)):AV:=.agg [.i e,.sl .i64 is,.sl (.sl .u8) bs,.sl (.sl .u8) ns]
@[reducible] def ixA (n k a z:Int) (p u:List UInt8) (w:Bool) (d:List UInt8):AV:=.agg [.i n,.i k,.i a,.i z,.sl .u8 p,.sl .u8 u,.b w,.sl .u8 d]
@[reducible] def zH (k:Int) (n d:List UInt8) (u l c e:Int) (b:Bool):AV:=.agg [.i k,.sl .u8 n,.sl .u8 d,.i u,.i l,.i c,.i e,.b b]
@[reducible] def obA (k a h:Int) (p u x y z:List UInt8) (r:Int):AV:=.agg [.i k,.i a,.i h,.sl .u8 p,.sl .u8 u,.sl .u8 x,.sl .u8 y,.sl .u8 z,.i r]
def kP(l1 l2 l3 l4 l5 l6:Int):Prop:=0<=l1/\l1<=1000/\0<=l2/\l2<=1000/\0<=l3/\l3<=2000000/\0<=l4/\l4<=1125899906842624/\0<=l5/\l5<=4503599627370496/\0<=l6/\l6<=2000000
def AA5(n k:Int)(p u d:List UInt8):Prop:=0<=n/\n<=255/\p.length<=32/\u.length<=32/\d.length<=128/\(k≠3\/d.length=8)
def NQ(x:El AL):Prop:=AA5 x.1 x.2.1 x.2.2.2.2.1 x.2.2.2.2.2.1 x.2.2.2.2.2.2.2
def AA6(u:List UInt8)(n:Int):Prop:=u.length<=32/\0<=n/\n<=1000
def eH(x:El BR):Prop:=AA6 x.1 x.2
def AA7(n d:List UInt8)(l:Int):Prop:=n.length<=32/\d.length<=32
def AA8(x:El sesT):Prop:=AA7 x.2.1 x.2.2.1 x.2.2.2.2.1
def AA9(p u e s d:List UInt8)(t:Int):Prop:=p.length<=32/\u.length<=32/\e.length<=32/\s.length<=32/\d.length<=128/\0<=t/\t<=3
def AAA(x:El objT):Prop:=AA9 x.1.2.2.2.1 x.1.2.2.2.2 x.2.1.1 x.2.1.2.1 x.2.1.2.2 x.1.2.2.1
def EF(n:Nat)(b:List (List UInt8)):Prop:=b.length=16/\∀ x∈b,x.length=n
def A67(a:Int)(rb:List (List (List UInt8))):Prop:=rb=[]\/∃ b0 b1,rb=[b0,b1]/\(b0=[]\/EF 20 b0)/\(b1=[]\/EF 32 b1)/\(a/2%2=1->EF 32 b1)
structure Kp (a k:Int) (s:MS):Prop where
 sdl:s.sd.length=3
 sdm:∀ x∈s.sd,x.length=32
 aul:s.au.length=4
 aum:∀ x∈s.au,x.length<=32
 en:s.en.length=32
 ac:s.ac=a/\0<=a/\a<=3
 kk:0<=k/\k<=1000
 re:0<=s.re/\s.re<=k
 rs:0<=s.rs/\s.rs<=k
 ck:0<=s.ck/\s.ck<=1099511627776
 sb:A67 a s.sb
 su:0<=s.su/\s.su<=k
 ixl:s.ix.length<=6
 ixm:∀ x∈s.ix,NQ x
 lk:kP s.l1 s.l2 s.l3 s.l4 s.l5 s.l6
 ksl:s.ks.length<=8
 ksm:∀ x∈s.ks,eH x
 rb:A67 a s.rb
 st:s.st=true->a/2%2=1->s.rb≠[]
 ru:0<=s.ru/\s.ru<=k
 vc:0<=s.vc/\s.vc<=1099511627776
 dr:0<=s.dr/\s.dr<=k
 ssl:s.ss.length=3
 ssm:∀ x∈s.ss,AA8 x
 obl:s.ob.length=3
 obm:∀ x∈s.ob,AAA x
 rl:(s.rl.length:Int)<=k
 wl:(s.wl.length:Int)<=k
theorem Kp.up{a k k':Int}{s:MS}(h:Kp a k s)(hk:k<=k'/\k'<=1000):Kp a k' s:=by
 obtain⟨h1,h2,h3,h4,h5,h6,h7,h8,h9,h10,h11,h12,h13,h14,h15,h16,h17,h18,h19,h20,h21,h22,h23,h24,h25,h26,h27,h28⟩:=h
 exact⟨h1,h2,h3,h4,h5,h6,by omega,by omega,by omega,h10,h11,by omega,h13,h14,h15,h16,h17,h18,h19,by omega,h21,by omega,h23,h24,h25,h26,by omega,by omega⟩
theorem Gp{l:List α}{i:Int}(h:0<=i/\i<l.length):∃ x,x∈l/\Ai l i=some x:=⟨l[i.toNat]'zaa,List.getElem_mem _,D8 h⟩
theorem AAB{l:List α}{i:Int}{x:α}{p:α->Prop}(h:∀ y∈l,p y)(hx:p x):(BH l i x).length=l.length/\∀ y∈BH l i x,p y:=by
 rw[Ea]
 refine⟨by simp,fun y hy=>?_⟩
 rcases List.mem_or_eq_of_mem_set hy with hy|rfl
 ·exact h y hy
 ·exact hx
theorem A7X{n:Int}{x:α}{p:α->Prop}(hn:0<=n)(hx:p x):((Ba n x).length:Int)=n/\∀ y∈Ba n x,p y:=by
 rw[FY]
 refine⟨by simp;omega,fun y hy=>?_⟩
 rw[List.eq_of_mem_replicate hy];exact hx
def shp(c:Int):Option (Nat×Nat×Nat×Int) :=
 if c=1 then some (0,0,1,0) else if c=2 then some (0,0,1,0) else if c=4 then some (0,0,0,0) else if c=5 then some (0,0,2,0) else if c=6 then some (0,0,1,2) else if c=7 then some (0,0,1,1)
 else if c=8 then some (0,0,1,0) else if c=9 then some (1,1,3,3) else if c=10 then some (1,1,3,3) else if c=11 then some (1,1,0,2) else if c=12 then some (0,0,1,0) else if c=13 then some (1,1,0,0)
 else if c=14 then some (1,1,0,1) else if c=15 then some (1,1,2,1) else if c=16 then some (0,0,1,0) else if c=17 then some (0,0,6,-1) else if c=18 then some (1,1,2,1) else if c=19 then some (0,0,1,3)
 else if c=20 then some (0,0,1,0) else if c=21 then some (1,1,4,2) else if c=22 then some (1,1,1,0) else if c=23 then some (2,1,1,1) else if c=24 then some (2,1,2,0) else if c=25 then some (2,1,0,0)
 else if c=26 then some (2,1,0,1) else if c=27 then some (2,1,0,1) else if c=28 then some (2,1,0,0) else if c=29 then some (2,1,0,0) else if c=30 then some (1,1,0,1) else if c=31 then some (1,1,0,0)
 else if c=32 then some (1,1,0,0) else if c=33 then some (1,1,3,0) else none
structure Few (hs:List Int) (az:List (El AQ)) (is:List Int) (bs:List (List UInt8)):Prop where
 hl:hs.length<=10
 al:az.length<=10
 am:∀ x∈az,x.2.1.length<=1000/\x.2.2.length<=1000
 il:is.length<=10
 bl:bs.length<=10
 bm:∀ x∈bs,x.length<=2000
structure Rok (c:Int) (hs:List Int) (az:List (El AQ)) (is:List Int) (bs:List (List UInt8)):Prop where
 few:Few hs az is bs
 sh:∃ n,shp c=some (hs.length,az.length,is.length,n)/\((bs.length:Int)=n\/n = -1/\bs.length<=8)
 hm:∀ x∈hs,0<=x/\x<=65535
 am:∀ x∈az,0<=x.1/\x.1<=65535
 im:∀ x∈is,0<=x/\x<=1099511627776
 bm:∀ x∈bs,x.length<=1024
end Go.Ax
