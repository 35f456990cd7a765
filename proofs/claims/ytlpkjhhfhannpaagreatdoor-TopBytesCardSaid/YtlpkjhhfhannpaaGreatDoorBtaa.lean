/- Own texts of this claim: contracts of functions. -/
import Derived.Test.YtlpkjhhfhannpaaGreatDoorProg
import Derived.Lib.MakeNoZero
import Derived.Laws.Externs
import Derived.JoinedCond
import Derived.Test.YtlpkjhhfhannpaaGreatDoorBgd
set_option linter.all false
set_option maxHeartbeats 40000000
set_option maxRecDepth 100000
namespace Go.Ax
def A6q(C:CT):FT->Bool
 | []=>true
 | (f,_)::r=>(match cfk f C with|some fn => !(fn.name == "runtime.NumGoroutine")&&fn.body.isSome|none=>false)&&A6q C r
theorem yG{P:Program}{C:CT}(hc:CTok P C):∀ {G:FT},A6q C G=true->EntL P G
 | [],_=>.nil
 | (f,v)::r,h=>by
  simp only[A6q,Bool.and_eq_true] at h
  refine .cons ?_ (yG hc h.2)
  have h1:=h.1
  split at h1
  ·rename_i fn hf
   simp only[Bool.and_eq_true,Bool.not_eq_true'] at h1
   obtain⟨c,hb⟩:=Option.isSome_iff_exists.1 h1.2
   exact Go.Eng.Ent.mk (hc.get _ _ hf) h1.1 hb
  ·cases h1
theorem A3A{P:Program}{C:CT}{G:FT}(hc:CTok P C)(h:A6q C G=true):gK P G:=A6g (yG hc h)
end Go.Ax
namespace Go.Ax
open Go Go.Eng Go.RowKit
def glB(g0:Nat)(tab:List UInt32):TT->Bool
 | []=>true
 | (_,i)::r=>(match i.gl with|[]=>true|(g,l)::[]=>Nat.beq g g0&&decide (l=tab)|_=>false)&&glB g0 tab r
def A9n:Value->Value->Bool
 | .int .i64 a,.int .i64 b|.int .u8 a,.int .u8 b=>decide (a=b)
 | _,_=>false
def A6r:List Value->List Value->Bool
 | [],[]=>true
 | a::l,b::m=>A9n a b&&A6r l m
 | _,_=>false
theorem A6s{a b:Value}(h:A9n a b=true):a=b:=by
 unfold A9n at h
 split at h
 ·rw[of_decide_eq_true h]
 ·rw[of_decide_eq_true h]
 ·cases h
theorem yI:∀ {l m:List Value},A6r l m=true->l=m
 | [],[],_=>rfl
 | a::l,b::m,h=>by simp only[A6r,Bool.and_eq_true] at h;rw[A6s h.1,yI h.2]
 | [],_::_,h|_::_,[],h=>za0
def A6t(g:Nat)(us:List Value):List (Nat×List Value)->Bool
 | []=>false
 | (d,v)::r=>(Nat.beq g d&&A6r us v)||A6t g us r
theorem yJ{g:Nat}{us:List Value}:∀ {L:List (Nat×List Value)},A6t g us L=true->(g,us)∈L
 | [],h=>za0
 | (d,v)::r,h=>by
  simp only[A6t,Bool.or_eq_true,Bool.and_eq_true] at h
  rcases h with⟨h1,h2⟩|h
  ·rw[FX h1,yI h2];exact List.mem_cons_self ..
  ·exact List.mem_cons_of_mem _ (yJ h)
def gaB(L:List (Nat×List Value)):TT->Bool
 | []=>true
 | (_,i)::r=>(match i.ga with|[]=>true|(g,us)::[]=>A6t g us L|_=>false)&&gaB L r
theorem A3B{L:List (Nat×List Value)}:∀ {T:TT},gaB L T=true->∀ t i,Me t T=some i->i.ga=[]\/∃ p,p∈L/\i.ga=[p]
 | [],_,t,i,h=>za0
 | (d,v)::r,h,t,i,h1=>by
  simp only[gaB,Bool.and_eq_true] at h
  simp only[Me] at h1
  cases hb:Nat.beq t d with
  | false=>rw[hb] at h1;exact A3B h.2 t i h1
  | true =>
   rw[hb] at h1
   obtain rfl:=Option.some.inj h1
   have h3:=h.1
   split at h3
   ·rename_i e;exact .inl e
   ·rename_i g us e;exact .inr ⟨_,yJ h3,e⟩
   ·cases h3
theorem A3C{g0:Nat}{tab:List UInt32}:∀ {T:TT},glB g0 tab T=true->∀ t i g l,Me t T=some i->glk g i.gl=some l->g=g0/\l=tab
 | [],_,t,i,g,l,h,_=>za0
 | (d,v)::r,h,t,i,g,l,h1,h2=>by
  simp only[glB,Bool.and_eq_true] at h
  simp only[Me] at h1
  cases hb:Nat.beq t d with
  | false=>rw[hb] at h1;exact A3C h.2 t i g l h1 h2
  | true =>
   rw[hb] at h1
   obtain rfl:=Option.some.inj h1
   have h3:=h.1
   split at h3
   ·rename_i e;rw[e] at h2;cases h2
   ·rename_i g' l' e
    rw[e] at h2
    simp only[Bool.and_eq_true,decide_eq_true_eq] at h3
    simp only[glk] at h2
    cases hg:Nat.beq g g' with
    | false=>rw[hg] at h2;cases h2
    | true=>rw[hg] at h2;exact⟨(FX hg).trans (FX h3.1),(Option.some.inj h2).symm.trans h3.2⟩
   ·cases h3
end Go.Ax
namespace Go.Ax
open Go Go.Eng
def Hz(ws:List UInt32):Nat->Nat->List UInt32->List UInt32
 | 0,_,s=>s
 | k+1,t,s=>Hz ws k (t+1) (eP (JP.getD t 0) (ws.getD t 0) s)
theorem YY(ws s:List UInt32):∀(k t:Nat),Hz ws k t (OQ ws s t)=OQ ws s (t+k)
 | 0,t=>rfl
 | k+1,t=>by rw[show t+(k+1)=t+1+k from by omega,<-YY ws s k (t+1)];rfl
theorem A3Z{t:Nat}(h:t<64):Ap JP (t:Int)=some (JP.getD t 0):=by
 rw[Bv ⟨by omega,by show(t:Int)<64;omega⟩];simp[List.getD,show t<JP.length from h]
def F7(ws:List UInt32):Nat->Nat->S5->S5
 | 0,_,s=>s
 | k+1,t,s=>F7 ws k (t+1) (WY t (ws.getD t 0) s)
theorem aQ(ws:List UInt32)(s:S5):∀(k t:Nat),F7 ws k t (jq ws s t)=jq ws s (t+k)
 | 0,t=>rfl
 | k+1,t=>by rw[show t+(k+1)=t+1+k from by omega,<-aQ ws s k (t+1)];rfl
theorem A7E(t:Nat)(w a b c d e f q:UInt32)(hf:f=f1 t b c d)(hq:q=k1 t):WY t w ⟨a,b,c,d,e⟩=⟨zi a 5+f+e+q+w,a,zi b 30,c,d⟩:=by subst hf hq;rfl
theorem A8k(x:UInt32):[BJ (AY x 24),BJ (AY x 16),BJ (AY x 8),BJ x]=wb x:=by
 rw[I9 zaj,I9 zaj,I9 zaj];simp only[eu];rfl
theorem UF{ws:List UInt32}{j:Nat}(h:j<ws.length):IM (ws.drop j)=wb (ws.getD j 0)++IM (ws.drop (j+1)):=by
 rw[List.drop_eq_getElem_cons h];simp only[IM,List.flatMap_cons,List.getD,List.getElem?_eq_getElem h,Option.getD_some]
theorem Pn{ws:List UInt32}{j:Nat}(h:j<ws.length):Ap ws (j:Int)=some (ws.getD j 0):=by
 rw[Bv ⟨by omega,by omega⟩];simp[List.getD,h]
end Go.Ax
namespace Go.Ax
open Go.Eng
def O6(h i:Int)(l r:List UInt8):List UInt8:=(sha256 (Az 3 [[UInt8.ofInt h,UInt8.ofInt i],l,r])).take 16
theorem Yd(tag:Int)(a b c:List UInt8):(Az tag [a,b,c]).length=13+a.length+b.length+c.length:=by
 simp[Az,fieldsB,Hu];omega
def Wq(h i:Int):List (List UInt8)->List (List UInt8)
 | l::r::t=>O6 h i l r::Wq h (i+1) t
 | _=>[]
def F8(n:Int):Int:=if n=1 then 0 else if n=2 then 1 else if n=4 then 2 else if n=8 then 3 else -1
def A3r(h i:Int)(x:List UInt8):List (List UInt8)->List UInt8
 | []=>x
 | s::p=>A3r (h+1) (i/2) (if i%2=1 then O6 h (i/2) s x else O6 h (i/2) x s) p
def A3s(x:List UInt8)(i:Int)(p:List (List UInt8)):List UInt8:=if 3<p.length\/i<0\/(2:Int)^p.length<=i then [] else A3r 0 i x p
theorem A0Z(h i:Int)(l r:List UInt8):(O6 h i l r).length<=16:=by simp[O6];omega
theorem drop2{α:Type}{ls:List α}{i:Nat}(h:2*i+1<ls.length):ls.drop (2*i)=ls[2*i]::ls[2*i+1]::ls.drop (2*(i+1)):=by
 rw[List.drop_eq_getElem_cons zaa,List.drop_eq_getElem_cons (i:=2*i+1) zaa];rfl
theorem UK(h i:Int)(ls:List (List UInt8))(hl:ls.length<=1):Wq h i ls=[]:=by
 match ls with
 | []|[_]=>rfl
 | _::_::_=>simp at hl
theorem Oj(h:Int):∀(n:Nat) (i:Int) (ls:List (List UInt8)),ls.length<=n->(Wq h i ls).length=ls.length/2
 | 0,i,ls,hl=>by rw[UK _ _ _ zaa,List.length_nil];omega
 | n+1,i,[],_=>rfl
 | n+1,i,[_],_=>by simp[Wq]
 | n+1,i,l::r::t,hl=>by
  simp only[Wq,List.length_cons,Oj h n (i+1) t zbH]
  simp only[List.length_cons] at hl;omega
theorem UL(h:Int):∀(n:Nat) (i:Int) (ls:List (List UInt8)),ls.length<=n->∀ x∈Wq h i ls,x.length<=1000000
 | 0,i,ls,hl=>by rw[UK _ _ _ zaa];intro x hx;cases hx
 | n+1,i,[],_|n+1,i,[_],_=>by intro x hx;cases hx
 | n+1,i,l::r::t,hl=>by
  intro x hx
  simp only[Wq,List.mem_cons] at hx
  rcases hx with rfl|hx
  ·have:=A0Z h i l r;omega
  ·exact UL h n (i+1) t zbH x hx
def mQ:Nat->Int->List (List UInt8)->List (List (List UInt8))
 | 0,h,ls=>[ls]
 | k+1,h,ls=>ls::mQ k (h+1) (Wq h 0 ls)
def aZ:Nat->Int->List (List UInt8)->List (List UInt8)
 | 0,h,ls=>ls
 | j+1,h,ls=>aZ j (h+1) (Wq h 0 ls)
def Ov(ls:List (List UInt8)):List UInt8:=if F8 ls.length<0 then [] else(aZ (F8 ls.length).toNat 0 ls).getD 0 []
def sib(i:Int):Int:=if i%2=0 then i+1 else i-1
def RQ:Nat->Int->Int->List (List UInt8)->List (List UInt8)
 | 0,h,i,ls=>[]
 | k+1,h,i,ls=>ls.getD (sib i).toNat []::RQ k (h+1) (i/2) (Wq h 0 ls)
def Ox(i:Int)(ls:List (List UInt8)):List (List UInt8):=if F8 ls.length<0\/i<0\/(ls.length:Int)<=i then [] else RQ (F8 ls.length).toNat 0 i ls
theorem mV:∀(j:Nat) (h:Int) (ls:List (List UInt8)),aZ (j+1) h ls=Wq (h+j) 0 (aZ j h ls)
 | 0,h,ls=>by simp[aZ]
 | j+1,h,ls=>by
  rw[aZ,mV j (h+1),aZ]
  congr 1;omega
theorem mW : ∀ (k : Nat) (h : Int) (ls : List (List UInt8)) (j : Nat), j <= k -> (mQ k h ls)[j]? = some (aZ j h ls)
  | 0, h, ls, j, hj => by obtain rfl : j = 0 := by omega
                          rfl
  | k + 1, h, ls, 0, _ => rfl
  | k + 1, h, ls, j + 1, hj => by rw [mQ, List.getElem?_cons_succ, mW k (h + 1) _ j zaa, aZ]
theorem XE:∀(j:Nat) (h:Int) (ls:List (List UInt8)) (k:Nat),ls.length=2^(j+k)->(aZ j h ls).length=2^k
 | 0,h,ls,k,hl=>by rw[aZ,hl,Nat.zero_add]
 | j+1,h,ls,k,hl=>by
  rw[aZ]
  refine XE j (h+1) _ k ?_
  rw[Oj h _ _ _ (Nat.le_refl _),hl,show j+1+k=(j+k)+1 from by omega,Nat.pow_succ];omega
theorem iH:∀(j:Nat) (h:Int) (ls:List (List UInt8)),(∀ x∈ls,x.length<=1000000)->∀ x∈aZ j h ls,x.length<=1000000
 | 0,h,ls,hm=>hm
 | j+1,h,ls,hm=>iH j (h+1) _ (UL h _ 0 ls (Nat.le_refl _))
theorem Sv(n:Nat)(h:¬F8 n<0):∃ k:Nat,k<=3/\F8 n=(k:Int)/\n=2^k:=by
 unfold F8 at h ⊢
 by_cases h1:(n:Int)=1
 ·exact⟨0,by omega,by rw[if_pos h1];rfl,by simp;omega⟩
 rw[if_neg h1] at h ⊢
 by_cases h2:(n:Int)=2
 ·exact⟨1,by omega,by rw[if_pos h2];rfl,by simp;omega⟩
 rw[if_neg h2] at h ⊢
 by_cases h4:(n:Int)=4
 ·exact⟨2,by omega,by rw[if_pos h4];rfl,by simp;omega⟩
 rw[if_neg h4] at h ⊢
 by_cases h8:(n:Int)=8
 ·exact⟨3,by omega,by rw[if_pos h8];rfl,by simp;omega⟩
 rw[if_neg h8] at h
 exact absurd h zaj
theorem ae{α:Type}(pre:List α)(x:α)(h:Int)(hh:(pre.length:Int)=h):Ap (pre++[x]) h=some x:=by
 subst hh;rw[DU];simp
theorem A7J{i:Int}(h:0<=i/\i<1024):BC .xor i 1=sib i:=by
 rw[NP]
 have:∀ j:Fin 1024,ibit0 .xor (j.val:Int) 1=sib (j.val:Int):=zaQ
 have h1:=this ⟨i.toNat,by omega⟩
 simp only[Int.toNat_of_nonneg h.1] at h1
 exact h1
def ABs(ls:List (List UInt8)):Prop:=(∀ l∈ls,l.length<=60)/\ls.length<20
instance (ls:List (List UInt8)):Decidable (ABs ls):=by unfold ABs;infer_instance
theorem mX(h:Int):∀(j:Nat) (i:Int) (ls:List (List UInt8)),2*j+1<ls.length->(Wq h i ls).getD j []=O6 h (i+j) (ls.getD (2*j) []) (ls.getD (2*j+1) [])
 | 0,i,l::r::t,_=>by simp[Wq]
 | j+1,i,l::r::t,hl=>by
  simp only[Wq,List.getD_cons_succ]
  rw[mX h j (i+1) t zbH]
  rw[show 2*(j+1)=2*j+1+1 from by omega]
  simp only[List.getD_cons_succ]
  congr 1;omega
 | 0,i,[_],hl|j+1,i,[_],hl|_,i,[],hl=>by simp at hl
theorem ag:∀(k:Nat) (h i:Int) (ls:List (List UInt8)),(RQ k h i ls).length=k
 | 0,h,i,ls=>rfl
 | k+1,h,i,ls=>by rw[RQ,List.length_cons,ag k]
theorem VS{n K:Nat}(hK:K<=3)(hn:n=2^K):F8 n=K:=by
 subst hn
 have:∀ K:Fin 4,F8 ((2^K.val:Nat):Int)=((K.val:Nat):Int):=zaj
 exact this ⟨K,by omega⟩
theorem AAC{l:List (List UInt8)}{K:Nat}(hK:K<=3)(hl:l.length=2^K)(h1:1<l.length):(Ov l).length=16:=by
 have hh:=VS hK hl
 unfold Ov
 rw[hh,if_neg zaa,Int.toNat_natCast]
 cases K with
 | zero=>simp at hl;omega
 | succ k =>
  have h2:=XE k 0 l 1 hl
  rw[mV,mX _ 0 0 _ zaa]
  simp[O6,A7]
end Go.Ax
namespace Go.Ax
def DY(b:List UInt8):List UInt8:=b.take 32++(List.replicate 32 0).drop b.length
theorem Be(b:List UInt8):(DY b).length=32:=by simp[DY];omega
end Go.Ax
namespace Go.Ax
open Go Go.Eng Go.RowKit
variable {m:Int}(tag:Int)(a b:List UInt8)
theorem Aq(op:BinOp)(a b:Int):BC op a b=bits op .i64 a b:=by rw[NP];rfl
theorem BH:(Az tag [a]).length=5+a.length:=by
 simp[Az,fieldsB,Hu];omega
theorem Aw:(Az tag [a,b]).length=9+a.length+b.length:=by
 simp[Az,fieldsB,Hu];omega
theorem BA(c:List UInt8):(Az tag [a,b,c]).length=13+a.length+b.length+c.length:=by
 simp[Az,fieldsB,Hu];omega
theorem XF(n:Int)(h:1<=m): -m<CQ n m/\CQ n m<m:=by
 rw[eX]
 exact⟨Int.lt_tmod_of_pos n zaa,Int.tmod_lt_of_pos n zaa⟩
theorem mr(n:Int)(h:1<=m):n%m=CQ n m%m:=by
 rw[eX]
 show n%m=n.tmod m%m
 rw[Int.tmod_def,Int.sub_mul_emod_self_left]
theorem nC{n:Int}(h:1<=m)(h0:0<=CQ n m):CQ n m=n%m:=by
 rw[mr n h,Int.emod_eq_of_lt h0 (XF n h).2]
theorem nD{n:Int}(h:1<=m)(h0:CQ n m<0):CQ n m+m=n%m:=by
 have hb:=XF n h
 rw[mr n h,<-Int.add_emod_right,Int.emod_eq_of_lt zaa zaa]
theorem XG(x:Int):Sm 1 (UInt64.ofInt x)=[UInt8.ofInt x]:=by
 have h:(UInt64.ofInt x).toUInt8=UInt8.ofInt x:=by
  apply UInt8.toNat_inj.1
  rw[UInt64.toNat_toUInt8,UInt64.ofInt,UInt8.ofInt,UInt64.toNat_ofNat',UInt8.toNat_ofNat']
  omega
 have h2:(UInt64.ofInt x)>>>UInt64.ofNat (8*0)=UInt64.ofInt x:=by
  apply UInt64.toNat_inj.1
  rw[UInt64.toNat_shiftRight];simp
 rw[Sm,h2,h];rfl
structure Pub where
 kind:Int
 attr:Int
 height:Int
 policy:List UInt8
 unique:List UInt8
deriving DecidableEq
def Yg:Pub:=⟨0,0,0,[],[]⟩
def uniq(k:Int):Int:=if k=2 then 17 else 32
theorem iM(k:Int):17<=uniq k/\uniq k<=32:=by unfold uniq;split<;>omega
def DI(p:Pub):Int :=
 if p.kind<1\/3<p.kind then 19
 else if p.attr<0\/7<p.attr\/(bits .and .i64 p.attr 4≠0/\p.kind≠2)\/(bits .and .i64 p.attr 1=0/\p.policy.length=0) then 20
 else if p.height<0\/3<p.height\/(p.height≠0/\p.kind≠2)\/(p.policy.length≠0/\p.policy.length≠32)\/(p.unique.length:Int)≠uniq p.kind then 1 else 0
def Eh(p:Pub):List UInt8:=Hy (Hy [UInt8.ofInt p.kind,UInt8.ofInt p.attr,UInt8.ofInt p.height] p.policy) p.unique
def Fh(b:List UInt8):Pub×Int :=
 let k:=Dt b 0 0 1
 let a:=Dt b k.2.1 k.2.2 1
 let h:=Dt b a.2.1 a.2.2 1
 let o:=Fg b h.2.1 h.2.2 32
 let u:=Fg b o.2.1 o.2.2 32
 let e:=PI b u.2.1 u.2.2
 if e≠0 then(Yg,e) else if DI ⟨k.1,a.1,h.1,o.1,u.1⟩≠0 then(Yg,DI ⟨k.1,a.1,h.1,o.1,u.1⟩) else(⟨k.1,a.1,h.1,o.1,u.1⟩,0)
structure OkP (p:Pub):Prop where
 kind:1<=p.kind/\p.kind<=3
 attr:0<=p.attr/\p.attr<=7
 height:0<=p.height/\p.height<=3
 policy:p.policy.length<=32
 unique:p.unique.length<=32
theorem AAE{p:Pub}(h:DI p=0):OkP p:=by
 unfold DI at h
 split at h
 ·simp at h
 rename_i h1
 split at h
 ·simp at h
 rename_i h2
 split at h
 ·simp at h
 rename_i h3
 have hu:uniq p.kind=17\/uniq p.kind=32:=by unfold uniq;split;exact .inl rfl;exact .inr rfl
 refine⟨by omega,by omega,by omega,by omega,by omega⟩
def A41(p:Pub):List UInt8 :=
 Sm 1 (UInt64.ofInt p.kind)++(Sm 1 (UInt64.ofInt p.attr)++(Sm 1 (UInt64.ofInt p.height)++(Wl p.policy.length++p.policy++(Wl p.unique.length++p.unique++[]))))
theorem A0d{p:Pub}(hp:p.policy.length<=65535)(hu:p.unique.length<=65535):Eh p=A41 p:=by
 unfold Eh A41
 rw[Ph hp,Ph hu,XG,XG,XG]
 simp only[List.append_assoc,List.append_nil,List.cons_append,List.nil_append]
theorem Js{p:Pub}(hp:p.policy.length<=65535)(hu:p.unique.length<=65535):(Eh p).length=7+p.policy.length+p.unique.length:=by
 rw[A0d hp hu]
 simp only[A41,List.length_append,J4,Pe,List.length_nil];omega
theorem iO{b v3 v4:List UInt8}{v0 v1 v2 er0 er1 er2 er3 er4:Int}{p0 p1 p2 p3 p4:Nat}
  (g0:Dt b 0 0 1=(v0,p0,er0)) (g1:Dt b p0 er0 1=(v1,p1,er1)) (g2:Dt b p1 er1 1=(v2,p2,er2)) (g3:Fg b p2 er2 32=(v3,p3,er3)) (g4:Fg b p3 er3 32=(v4,p4,er4)) :
  Fh b=if PI b p4 er4≠0 then(Yg,PI b p4 er4) else if DI ⟨v0,v1,v2,v3,v4⟩≠0 then(Yg,DI ⟨v0,v1,v2,v3,v4⟩) else(⟨v0,v1,v2,v3,v4⟩,0):=by
 simp only[Fh,g0,g1,g2,g3,g4]
structure Evi where
 machine:Int
 attest:List UInt8
 sig:List UInt8
 log:List UInt8
deriving DecidableEq
def ABu(x:Evi):Prop:=1<=x.machine/\x.machine<=4/\x.attest.length<=1024/\x.sig.length<=1024/\x.log.length<=8192
instance (x:Evi):Decidable (ABu x):=by unfold ABu;infer_instance
def A42(n:Nat)(b:List UInt8):List UInt8:=b.take n++(List.replicate n 0).drop b.length
theorem DT(n:Nat)(b:List UInt8):(A42 n b).length=n:=by simp[A42];omega
def ABv(k a:Int)(pol:Bool):Int :=
 let x:=if k=2 then a else bits .andNot .i64 a 4
 if pol then x else bits .or .i64 x 1
def A43(p:Pub):Pub :=
  ⟨1+p.kind%3,ABv (1+p.kind%3) (p.attr%8) (decide (0<p.policy.length)),if 1+p.kind%3=2 then p.height%2 else 0,
   if 0<p.policy.length then DY p.policy else [],A42 (uniq (1+p.kind%3)).toNat p.unique⟩
def A44(p:Pub):Bool:=decide ((p.policy.length:Int)<=60)&&decide ((p.unique.length:Int)<=60)
def A8s(p q:Pub):Bool:=decide (p.kind=q.kind)&&(decide (p.attr=q.attr)&&(decide (p.height=q.height)&&(decide (p.policy=q.policy)&&decide (p.unique=q.unique))))
structure Idx where
 n:Int
 kind:Int
 attr:Int
 size:Int
 policy:List UInt8
 auth:List UInt8
 written:Bool
 data:List UInt8
def A7L(x:Idx):List UInt8:=Bg [UInt8.ofInt x.n,UInt8.ofInt x.kind,UInt8.ofInt x.attr] 2 x.size++[if x.written then 1 else 0]
def nameB(p:Pub):List UInt8:=sha256 (Az 6 [Eh p])
def Yh(x:Idx):List UInt8:=sha256 (Az 7 [A7L x,x.policy])
def MW(h:Int):List UInt8:=if h<0\/3<h then [] else sha256 (Az 11 [[UInt8.ofInt h]])
theorem Dh(x:Idx):(A7L x).length=6:=by rw[A7L,List.length_append,A8];rfl
end Go.Ax
namespace Go.Proofs.YtlpkjhhfhannpaaGreatDoor
open Go Go.RowKit Go.Eng Go.Ax
def magicV:List Value:=[.int .u8 83,.int .u8 87]
def formsV:List Value:=([1,0,0,1,0,2,0,0,1,0,4,0,0,0,0,5,0,0,2,0,6,0,0,1,2,7,0,0,1,1,8,0,0,1,0,9,1,1,3,3,10,1,1,3,3,11,1,1,0,2,12,0,0,1,0,13,1,1,0,0,14,1,1,0,1,15,1,1,2,1,16,0,0,1,0,17,0,0,6,-1,18,1,1,2,1,19,0,0,1,3,20,0,0,1,0,21,1,1,4,2,22,1,1,1,0,23,2,1,1,1,24,2,1,2,0,25,2,1,0,0,26,2,1,0,1,27,2,1,0,1,28,2,1,0,0,29,2,1,0,0,30,1,1,0,1,31,1,1,0,0,32,1,1,0,0,33,1,1,3,0]:List Int).map fun n=>.int .i64 n
abbrev N0:Plc:=⟨some [],[],none,false⟩
abbrev N1:Plc:=⟨none,[],none,false⟩
abbrev tyM:Ty:=.pair (.sl (.sl (.sl .u8))) .i64
abbrev jY:Ty:=.pair .i64 (.pair .i64 (.pair .i64 (.pair .i64 (.pair (.sl .u8) (.pair (.sl .u8) (.pair .bool (.sl .u8)))))))
abbrev ZW:Ty:=.pair .i64 (.pair .i64 (.pair .i64 (.pair .i64 (.pair .i64 .i64))))
abbrev tyI:Ty:=.pair (.sl (.sl .u8)) (.pair (.sl (.sl .u8)) (.pair (.sl .u8) (.pair .i64 (.pair .i64 (.pair .i64 (.pair .i64 (.pair .bool (.pair tyM (.pair .i64 (.pair (.sl jY) (.pair ZW (.sl (.pair (.sl .u8) .i64)))))))))))))
abbrev jZ:Ty:=.pair .i64 (.pair (.sl .u8) (.pair (.sl .u8) (.pair .i64 (.pair .i64 (.pair .i64 (.pair .i64 .bool))))))
abbrev XB:Ty:=.pair .i64 (.pair .i64 (.pair .i64 (.pair (.sl .u8) (.sl .u8))))
abbrev ZZ:Ty:=.pair (.sl .u8) (.pair (.sl .u8) (.sl .u8))
abbrev Fz:Ty:=.pair tyI (.pair .bool (.pair .bool (.pair tyM (.pair .i64 (.pair .bool (.pair .i64 (.pair (.sl jZ) (.pair (.sl (.pair XB (.pair ZZ .i64))) (.pair (.sl .i64) (.sl .i64))))))))))
abbrev NC:Ty:=.pair .i64 (.pair (.sl .i64) (.pair (.sl (.pair .i64 (.pair (.sl .u8) (.sl .u8)))) (.pair (.sl .i64) (.sl (.sl .u8)))))
abbrev yH:Ty:=.pair (.sl (.sl .u8)) (.pair .i64 (.pair .i64 (.pair .i64 .bool)))
abbrev uP:Ty:=.pair .i64 (.pair (.pair .i64 .i64) (.pair (.sl .u8) (.pair .i64 (.pair .i64 (.pair (.sl .u8) (.pair (.sl .u8) (.pair (.sl .u8) (.sl (.sl .u8)))))))))
abbrev aO:Ty:=.pair .i64 (.pair (.sl .i64) (.pair (.sl (.sl .u8)) (.sl (.sl .u8))))
abbrev Wp:Ty:=.pair yH (.pair Fz (.pair .bool .i64))
abbrev tyN:Ty:=.pair Fz (.pair NC (.pair (.pair .i64 (.pair (.sl .u8) (.sl .u8))) .i64))
abbrev T0(u:Und)(a b:Nat)(z:List AV)(t:Option Ty):TI:=⟨u,a,b,z,t,false,0,[],[]⟩
def TT0:TT:=[
 (22,T0 (.sl 5) 1 24 [.nil] (some (.sl .u8))),
 (3,T0 .i64 1 8 [.i 0] (some .i64)),
 (5,T0 .u8 1 1 [.u8 0] (some .u8)),
 (4,T0 .bool 1 1 [.b false] (some .bool)),
 (44,T0 (.fld [(0,5),(5,30),(35,1),(36,1)] [false,false,true,true]) 37 480 [.nil,.i 0,.i 0,.i 0,.b false,.nil,.nil,.nil,.i 0,.i 0,.i 0,.i 0,.b false,.nil,.i 0,.i 0,.nil,.i 0,.i 0,.i 0,.i 0,.i 0,.i 0,.nil,.b false,.b false,.nil,.i 0,.i 0,.b false,.i 0,.nil,.nil,.nil,.nil,.b false,.i 0] (some Wp)),
 (42,T0 (.fld [(0,19),(19,11)] [false,false]) 30 408 [.nil,.nil,.nil,.i 0,.i 0,.i 0,.i 0,.b false,.nil,.i 0,.i 0,.nil,.i 0,.i 0,.i 0,.i 0,.i 0,.i 0,.nil,.b false,.b false,.nil,.i 0,.i 0,.b false,.i 0,.nil,.nil,.nil,.nil] (some Fz)),
 (53,T0 (.fld [(0,1),(1,1),(2,1),(3,1),(4,1)] [true,true,true,true,true]) 5 104 [.i 0,.nil,.nil,.nil,.nil] (some NC)),
 (24,T0 (.sl 22) 1 24 [.nil] (some (.sl (.sl .u8)))),
 (58,T0 (.fld [(0,1),(1,1),(2,1),(3,1)] [true,true,true,true]) 4 80 [.i 0,.nil,.nil,.nil] (some aO)),
 (48,T0 .i64 1 8 [.i 0] (some .i64)),
 (65,⟨(.arr 2 3),2,16,[.i 0,.i 0],some (.pair .i64 .i64),true,0,[],[]⟩),
 (29,T0 (.fld [(0,1),(1,1)] [true,true]) 2 32 [.nil,.i 0] (some tyM)),
 (70,T0 (.fld [(0,1),(1,2),(3,1),(4,1),(5,1),(6,1),(7,1),(8,1),(9,1)] [true,false,true,true,true,true,true,true,true]) 10 160 [.i 0,.i 0,.i 0,.nil,.i 0,.i 0,.nil,.nil,.nil,.nil] (some uP)),
 (71,T0 (.sl 70) 1 24 [.nil] (some (.sl uP))),
 (38,T0 (.sl 3) 1 24 [.nil] (some (.sl .i64))),
 (40,T0 (.fld [(0,1),(1,1),(2,2),(4,1),(5,1),(6,1),(7,1),(8,1),(9,1),(10,1)] [true,true,false,true,true,true,true,true,true,true]) 11 160 [.b false,.b false,.nil,.i 0,.i 0,.b false,.i 0,.nil,.nil,.nil,.nil] (some (.pair .bool (.pair .bool (.pair tyM (.pair .i64 (.pair .bool (.pair .i64 (.pair (.sl jZ) (.pair (.sl (.pair XB (.pair ZZ .i64))) (.pair (.sl .i64) (.sl .i64)))))))))))),
 (37,T0 (.sl 140) 1 24 [.nil] (some (.sl (.pair XB (.pair ZZ .i64))))),
 (36,T0 (.sl 146) 1 24 [.nil] (some (.sl jZ))),
 (35,T0 (.fld [(0,1),(1,1),(2,1),(3,1),(4,1),(5,1),(6,1),(7,1),(8,2),(10,1),(11,1),(12,6),(18,1)] [true,true,true,true,true,true,true,true,false,true,true,false,true]) 19 248 [.nil,.nil,.nil,.i 0,.i 0,.i 0,.i 0,.b false,.nil,.i 0,.i 0,.nil,.i 0,.i 0,.i 0,.i 0,.i 0,.i 0,.nil] (some tyI)),
 (101,T0 (.ptr 105) 1 8 [.un] none),
 (105,T0 (.fld [(0,1),(1,1),(2,1)] [true,true,true]) 3 40 [.nil,.i 0,.i 0] (some (.pair (.sl .u8) (.pair .i64 .i64)))),
 (109,T0 (.arr 4 3) 4 32 [.i 0,.i 0,.i 0,.i 0] (some (.pair .i64 (.pair .i64 (.pair .i64 .i64))))),
 (113,T0 (.fld [(0,1),(1,1),(2,1)] [true,true,true]) 3 56 [.i 0,.nil,.nil] (some (.pair .i64 (.pair (.sl .u8) (.sl .u8))))),
 (51,T0 (.sl 113) 1 24 [.nil] (some (.sl (.pair .i64 (.pair (.sl .u8) (.sl .u8)))))),
 (116,T0 .u64 1 8 [.u64 0] (some .u64)),
 (27,T0 (.sl 24) 1 24 [.nil] (some (.sl (.sl (.sl .u8))))),
 (26,T0 (.fld [(0,1),(1,1),(2,1),(3,1),(4,1)] [true,true,true,true,true]) 5 56 [.nil,.i 0,.i 0,.i 0,.b false] (some yH)),
 (140,T0 (.fld [(0,5),(5,3),(8,1)] [false,false,true]) 9 152 [.i 0,.i 0,.i 0,.nil,.nil,.nil,.nil,.nil,.i 0] (some (.pair XB (.pair ZZ .i64)))),
 (136,T0 (.fld [(0,1),(1,1),(2,1),(3,1),(4,1)] [true,true,true,true,true]) 5 72 [.i 0,.i 0,.i 0,.nil,.nil] (some XB)),
 (138,T0 (.fld [(0,1),(1,1),(2,1)] [true,true,true]) 3 72 [.nil,.nil,.nil] (some ZZ)),
 (146,T0 (.fld [(0,1),(1,1),(2,1),(3,1),(4,1),(5,1),(6,1),(7,1)] [true,true,true,true,true,true,true,true]) 8 96 [.i 0,.nil,.nil,.i 0,.i 0,.i 0,.i 0,.b false] (some jZ)),
 (30,T0 (.sl 152) 1 24 [.nil] (some (.sl jY))),
 (152,T0 (.fld [(0,1),(1,1),(2,1),(3,1),(4,1),(5,1),(6,1),(7,1)] [true,true,true,true,true,true,true,true]) 8 112 [.i 0,.i 0,.i 0,.i 0,.nil,.nil,.b false,.nil] (some jY)),
 (9,T0 .str 1 16 [.str []] (some .str)),
 (161,T0 .u64 1 8 [.u64 0] (some .u64)),
 (163,T0 (.arr 34 109) 136 1088 [.i 0,.i 0,.i 0,.i 0,.i 0,.i 0,.i 0,.i 0,.i 0,.i 0,.i 0,.i 0,.i 0,.i 0,.i 0,.i 0,.i 0,.i 0,.i 0,.i 0,.i 0,.i 0,.i 0,.i 0,.i 0,.i 0,.i 0,.i 0,.i 0,.i 0,.i 0,.i 0,.i 0,.i 0,.i 0,.i 0,.i 0,.i 0,.i 0,.i 0,.i 0,.i 0,.i 0,.i 0,.i 0,.i 0,.i 0,.i 0,.i 0,.i 0,.i 0,.i 0,.i 0,.i 0,.i 0,.i 0,.i 0,.i 0,.i 0,.i 0,.i 0,.i 0,.i 0,.i 0,.i 0,.i 0,.i 0,.i 0,.i 0,.i 0,.i 0,.i 0,.i 0,.i 0,.i 0,.i 0,.i 0,.i 0,.i 0,.i 0,.i 0,.i 0,.i 0,.i 0,.i 0,.i 0,.i 0,.i 0,.i 0,.i 0,.i 0,.i 0,.i 0,.i 0,.i 0,.i 0,.i 0,.i 0,.i 0,.i 0,.i 0,.i 0,.i 0,.i 0,.i 0,.i 0,.i 0,.i 0,.i 0,.i 0,.i 0,.i 0,.i 0,.i 0,.i 0,.i 0,.i 0,.i 0,.i 0,.i 0,.i 0,.i 0,.i 0,.i 0,.i 0,.i 0,.i 0,.i 0,.i 0,.i 0,.i 0,.i 0,.i 0,.i 0,.i 0,.i 0] none),
 (32,⟨(.fld [(0,1),(1,1),(2,1),(3,1),(4,1),(5,1)] [true,true,true,true,true,true]),6,48,[.i 0,.i 0,.i 0,.i 0,.i 0,.i 0],some ZW,false,6,[],[]⟩),
 (33,T0 (.sl 177) 1 24 [.nil] (some (.sl (.pair (.sl .u8) .i64)))),
 (177,T0 (.fld [(0,1),(1,1)] [true,true]) 2 32 [.nil,.i 0] (some (.pair (.sl .u8) .i64))),
 (193,T0 (.ptr 235) 1 8 [.un] none),
 (203,⟨(.arr 64 202),64,256,[.u32 0,.u32 0,.u32 0,.u32 0,.u32 0,.u32 0,.u32 0,.u32 0,.u32 0,.u32 0,.u32 0,.u32 0,.u32 0,.u32 0,.u32 0,.u32 0,.u32 0,.u32 0,.u32 0,.u32 0,.u32 0,.u32 0,.u32 0,.u32 0,.u32 0,.u32 0,.u32 0,.u32 0,.u32 0,.u32 0,.u32 0,.u32 0,.u32 0,.u32 0,.u32 0,.u32 0,.u32 0,.u32 0,.u32 0,.u32 0,.u32 0,.u32 0,.u32 0,.u32 0,.u32 0,.u32 0,.u32 0,.u32 0,.u32 0,.u32 0,.u32 0,.u32 0,.u32 0,.u32 0,.u32 0,.u32 0,.u32 0,.u32 0,.u32 0,.u32 0,.u32 0,.u32 0,.u32 0,.u32 0],none,false,0,[(2,JP)],[]⟩),
 (205,T0 (.sl 202) 1 24 [.nil] (some (.sl .u32))),
 (202,T0 .u32 1 4 [.u32 0] (some .u32)),
 (86,T0 .oth 1 8 [.un] none),
 (214,T0 (.arr 2 22) 2 48 [.nil,.nil] (some (.pair (.sl .u8) (.sl .u8)))),
 (220,T0 (.fld [(0,1),(1,1)] [true,true]) 2 16 [.un,.i 0] none),
 (218,T0 (.ptr 220) 1 8 [.un] none),
 (226,T0 (.sl 225) 1 24 [.nil] none),
 (225,T0 (.ptr 3) 1 8 [.un] none),
 (230,⟨(.arr 2 5),2,2,[.u8 0,.u8 0],some (.pair .u8 .u8),false,0,[],[(0,magicV)]⟩),
 (233,⟨(.arr 32 232),160,1280,[.i 0,.i 0,.i 0,.i 0,.i 0,.i 0,.i 0,.i 0,.i 0,.i 0,.i 0,.i 0,.i 0,.i 0,.i 0,.i 0,.i 0,.i 0,.i 0,.i 0,.i 0,.i 0,.i 0,.i 0,.i 0,.i 0,.i 0,.i 0,.i 0,.i 0,.i 0,.i 0,.i 0,.i 0,.i 0,.i 0,.i 0,.i 0,.i 0,.i 0,.i 0,.i 0,.i 0,.i 0,.i 0,.i 0,.i 0,.i 0,.i 0,.i 0,.i 0,.i 0,.i 0,.i 0,.i 0,.i 0,.i 0,.i 0,.i 0,.i 0,.i 0,.i 0,.i 0,.i 0,.i 0,.i 0,.i 0,.i 0,.i 0,.i 0,.i 0,.i 0,.i 0,.i 0,.i 0,.i 0,.i 0,.i 0,.i 0,.i 0,.i 0,.i 0,.i 0,.i 0,.i 0,.i 0,.i 0,.i 0,.i 0,.i 0,.i 0,.i 0,.i 0,.i 0,.i 0,.i 0,.i 0,.i 0,.i 0,.i 0,.i 0,.i 0,.i 0,.i 0,.i 0,.i 0,.i 0,.i 0,.i 0,.i 0,.i 0,.i 0,.i 0,.i 0,.i 0,.i 0,.i 0,.i 0,.i 0,.i 0,.i 0,.i 0,.i 0,.i 0,.i 0,.i 0,.i 0,.i 0,.i 0,.i 0,.i 0,.i 0,.i 0,.i 0,.i 0,.i 0,.i 0,.i 0,.i 0,.i 0,.i 0,.i 0,.i 0,.i 0,.i 0,.i 0,.i 0,.i 0,.i 0,.i 0,.i 0,.i 0,.i 0,.i 0,.i 0,.i 0,.i 0,.i 0,.i 0,.i 0],none,false,0,[],[(1,formsV)]⟩),
 (232,⟨(.fld [(0,1),(1,1),(2,1),(3,1),(4,1)] [true,true,true,true,true]),5,40,[.i 0,.i 0,.i 0,.i 0,.i 0],some (.pair .i64 (.pair .i64 (.pair .i64 (.pair .i64 .i64)))),false,5,[],[]⟩),
 (235,T0 (.fld [(0,1),(1,1),(2,1)] [true,true,true]) 3 40 [.nil,.i 0,.i 0] (some (.pair (.sl .u8) (.pair .i64 .i64)))),
 (248,T0 (.fld [(0,30),(30,5),(35,3),(38,1)] [false,false,false,true]) 39 576 [.nil,.nil,.nil,.i 0,.i 0,.i 0,.i 0,.b false,.nil,.i 0,.i 0,.nil,.i 0,.i 0,.i 0,.i 0,.i 0,.i 0,.nil,.b false,.b false,.nil,.i 0,.i 0,.b false,.i 0,.nil,.nil,.nil,.nil,.i 0,.nil,.nil,.nil,.nil,.i 0,.nil,.nil,.i 0] (some tyN)),
 (262,T0 (.fld [(0,1),(1,1),(2,1),(3,1)] [true,true,true,true]) 4 80 [.nil,.nil,.nil,.b false] (some (.pair (.sl .u8) (.pair (.sl .u8) (.pair (.sl .u8) .bool))))),
 (276,T0 (.sl 275) 1 24 [.nil] none),
 (275,T0 (.ptr 22) 1 8 [.un] none),
 (301,T0 .oth 1 8 [.un] none),
 (316,T0 (.arr 5 202) 5 20 [.u32 0,.u32 0,.u32 0,.u32 0,.u32 0] (some (.pair .u32 (.pair .u32 (.pair .u32 (.pair .u32 .u32)))))),
 (318,T0 (.ptr 316) 1 8 [.un] none),
 (319,T0 (.arr 8 202) 8 32 [.u32 0,.u32 0,.u32 0,.u32 0,.u32 0,.u32 0,.u32 0,.u32 0] (some (.pair .u32 (.pair .u32 (.pair .u32 (.pair .u32 (.pair .u32 (.pair .u32 (.pair .u32 .u32))))))))),
 (321,T0 (.ptr 319) 1 8 [.un] none),
 (131,T0 .oth 1 8 [.un] none),
 (346,T0 (.arr 80 202) 80 320 [.u32 0,.u32 0,.u32 0,.u32 0,.u32 0,.u32 0,.u32 0,.u32 0,.u32 0,.u32 0,.u32 0,.u32 0,.u32 0,.u32 0,.u32 0,.u32 0,.u32 0,.u32 0,.u32 0,.u32 0,.u32 0,.u32 0,.u32 0,.u32 0,.u32 0,.u32 0,.u32 0,.u32 0,.u32 0,.u32 0,.u32 0,.u32 0,.u32 0,.u32 0,.u32 0,.u32 0,.u32 0,.u32 0,.u32 0,.u32 0,.u32 0,.u32 0,.u32 0,.u32 0,.u32 0,.u32 0,.u32 0,.u32 0,.u32 0,.u32 0,.u32 0,.u32 0,.u32 0,.u32 0,.u32 0,.u32 0,.u32 0,.u32 0,.u32 0,.u32 0,.u32 0,.u32 0,.u32 0,.u32 0,.u32 0,.u32 0,.u32 0,.u32 0,.u32 0,.u32 0,.u32 0,.u32 0,.u32 0,.u32 0,.u32 0,.u32 0,.u32 0,.u32 0,.u32 0,.u32 0] none),
 (351,T0 .oth 1 8 [.un] none),
 (356,T0 .oth 1 8 [.un] none),
 (106,T0 .oth 1 8 [.un] none),
 (103,T0 .oth 1 8 [.un] none)]
abbrev P0(l:List Nat):Plc:=⟨some [],[],some l,false⟩
abbrev P1(l:List Nat):Plc:=⟨some [],[],some l,true⟩
abbrev P2(a:List Nat)(b:List (Nat×Nat×Ty))(l:List Nat):Plc:=⟨some a,b,some l,false⟩
abbrev P3(a:List Nat)(b:List (Nat×Nat×Ty)):Plc:=⟨some a,b,none,false⟩
abbrev F0(a b:List (Option Ty))(c:List (Plc×Plc))(d:List (Nat×Plc)):FI:=⟨a,b,false,false,c,d,N1,false⟩
abbrev Q5:Ty:=.sl .u8
abbrev Q4:Option Ty:=some (.sl Q5)
abbrev Q2:Option Ty:=some Q5
abbrev Q1:Option Ty:=some .i64
abbrev Q3:Option Ty:=some .bool
def FT0:FT:=[
 (3,F0 [Q2,Q2,Q2,Q1,Q1,Q1,Q1,some .u8] [Q3] [((P2 [999999] [] [17,82,83,84]),(P2 [999999] [] [16]))] [(1,(P3 [999999] [])),(5,(P3 [999999] [])),(8,(P3 [999999] [])),(11,(P3 [999999] [])),(14,⟨some [999999],[],some [2,17,19],true⟩),(17,(P3 [999999] [])),(18,(P3 [999999] [])),(19,(P3 [999999] []))]),
 (4,F0 [] [Q3] [] [(1,N0),(5,N0),(6,N0),(7,N0),(10,N0),(13,N0),(16,N0)]),
 (5,F0 [Q1] [some Wp,Q3] [] [(1,N0),(4,N0)]),
 (6,F0 [some Wp,Q2] [some Wp,Q3] [((P0 [1,2,4,6]),(P0 [2,4,5]))] [(4,N0)]),
 (8,F0 [some Fz,Q1,Q1,Q1,Q2] [some NC] [] [(2,N0),(3,N0),(17,N0),(29,N0),(31,N0),(32,N0),(36,N0),(37,N0),(39,N0),(42,N0),(45,N0),(48,N0),(58,N0),(60,N0),(63,N0),(65,N0),(69,N0),(71,N0),(80,N0),(82,N0),(89,(P1 [3,4,5,10,11,12])),(90,N0),(91,(P1 [10,11]))]),
 (7,⟨[some NC],[none,none],true,false,[],[(1,N0),(4,N0)],⟨none,[(2,5,.u8)],none,false⟩,false⟩),
 (9,F0 [some Wp,Q1,Q2] [some Wp,Q2,Q1] [] [(1,N0),(2,N0),(3,N0),(4,N0)]),
 (10,F0 [Q2] [some aO,Q1] [((P2 [] [(1005001,3,.i64)] [2,4,5,6,7]),(P0 [2,4,5])),((P2 [] [(1005002,22,Q5)] [2,4,5,6,8]),(P0 [2,4,5])),((P2 [] [(1005003,22,Q5)] [2,4,5,6,9]),(P0 [2,4,5]))] [(1,N0),(2,N0),(4,N0),(8,N0),(9,N0),(13,N0),(14,N0),(18,N0),(19,(P1 [2,4,5]))]),
 (11,F0 [Q2] [some NC,Q1] [((P2 [] [(1007001,3,.i64)] [2,4,7,8,10]),(P0 [2,4,7,8])),((P2 [] [(1007002,113,(.pair .i64 (.pair Q5 Q5)))] [2,4,7,8,11]),(P0 [2,4,7,8])),((P2 [] [(1007003,3,.i64)] [2,4,7,8,13]),(P0 [2,4,7,8])),((P2 [] [(1007004,22,Q5)] [2,4,6,7,15]),(P0 [2,4,7]))] [(3,N0),(4,N0),(5,N0),(6,N0),(7,N0),(8,N0),(9,N0),(10,N0),(11,N0),(12,N0),(16,N0),(21,N0),(22,N0),(23,N0),(28,N0),(29,N0),(31,N0),(32,N0),(36,N0),(37,N0)]),
 (13,⟨[Q1],[some tyM],false,false,[((P0 [0,2,3,4]),(P0 [2,3])),((P2 [5] [(5,22,Q5)] [0,2,3,4,5,6]),(P2 [5] [(5,22,Q5)] [0,2,3,4,5]))],[(11,(P3 [5] [(5,22,Q5)]))],(P3 [999999] []),false⟩),
 (12,F0 [some tyM,some (.pair .i64 .i64)] [Q2,Q1] [((P0 [2,3,6]),(P0 [2,3,4,5])),((P2 [7] [(7,5,.u8)] [2,3,7,8]),(P0 [3,4,5,7])),((P2 [7] [(7,5,.u8)] [2,3,7,8,9]),(P2 [7] [(7,5,.u8)] [2,3,7,8]))] [(10,(P3 [7] [(7,5,.u8)])),(14,⟨some [7],[(7,5,.u8)],some [2,3,7,8,9],true⟩),(17,N0)]),
 (14,F0 [some (.sl uP)] [Q2] [((P0 [0,3,4]),(P0 [2,3]))] [(1,N0),(5,N0)]),
 (16,F0 [Q1,Q1,Q1,Q1,Q2,Q2,Q2] [some NC] [] [(1,N0)]),
 (15,F0 [some Wp,Q1,some NC,Q1,Q1] [some Wp,some aO,Q3] [] [(1,N0)]),
 (17,F0 [Q1] [some NC] [] []),
 (18,F0 [Q1,Q1,some (.pair .i64 .i64),Q1,Q1,Q4] [some NC] [] []),
 (20,F0 [Q1,Q1,Q4] [some NC] [] []),
 (19,F0 [some NC,Q1] [some NC] [] []),
 (21,F0 [Q1,Q2,Q1] [some Wp,Q1] [] [(3,N0),(6,N0),(9,N0)]),
 (22,F0 [some Wp] [some Wp,Q3] [] [(1,N0),(4,N0)]),
 (23,F0 [Q1,Q2] [some NC] [] []),
 (26,F0 [Q1,Q1] [Q1] [] [(6,(P1 [5]))]),
 (27,F0 [Q2,Q1] [Q2] [] []),
 (28,F0 [Q1,Q2] [Q4] [((P2 [5] [(5,22,Q5)] [0,1,5,6]),(P0 [5]))] [(10,⟨some [5],[(5,22,Q5)],some [0,1,5,6,7],true⟩),(4,⟨some [5],[(5,22,Q5)],some [0,1,5,6],true⟩)]),
 (29,F0 [some Fz,Q1,Q2] [some (.sl .i64),Q4] [] [(9,N0),(10,(P1 [1,2,3,8,9,10,11])),(13,(P1 [1,2,8,9,10,11,12]))]),
 (30,F0 [some Fz,Q1,Q1] [Q1] [((P0 [1,2,3,7]),(P0 [1,6]))] []),
 (31,F0 [some Fz,Q1,Q1,Q2] [Q4] [] [(1,N0),(4,N0),(5,N0),(8,N0),(11,(P1 [12,15]))]),
 (32,F0 [some Fz,Q1,Q1] [Q1] [((P0 [1,2,3,7]),(P0 [1,6]))] []),
 (33,F0 [some Fz,Q1,Q1,Q2] [some (.sl .i64),Q4] [((P0 [1,3,4,10,11]),(P0 [1,3,4,10]))] [(1,N0),(3,N0),(11,N0),(12,(P1 [1,4,10,12])),(18,N0),(23,(P1 [1,3,4,10])),(24,N0),(26,N0),(27,(P1 [10,15]))]),
 (34,F0 [some Fz,Q1] [Q1] [] [(5,N0),(6,N0)]),
 (35,F0 [some Fz,Q1,Q2] [some (.sl .i64),Q4] [] [(1,N0),(2,N0),(3,N0),(4,N0),(5,N0),(6,N0),(8,N0),(9,(P1 [8,12,13,14]))]),
 (36,F0 [some Fz,Q1,Q2] [some (.sl .i64),Q4] [] [(2,N0),(6,(P1 [1,2,8,9,10]))]),
 (37,F0 [some Fz,Q1] [Q1] [] []),
 (38,F0 [some Fz,Q1,Q1,Q2] [some NC] [] [(1,N0),(5,(P1 [1,2,3,4,8,9,10])),(6,N0),(10,(P1 [1,2,3,8,9,10,11,13])),(17,N0),(20,(P1 [8,11]))]),
 (39,F0 [some Fz,some NC,Q1,Q2] [some NC] [] [(2,(P3 [999999] [])),(9,(P3 [999999] [])),(10,(P3 [999999] [])),(12,(P3 [999999] [])),(13,(P3 [999999] [])),(18,(P3 [999999] [])),(19,⟨some [999999],[],some [5,8,11],true⟩)]),
 (24,F0 [some NC] [Q1] [((P0 [1,5]),(P0 [1,2])),((P0 [1,6]),(P0 [1,2])),((P0 [1,7]),(P0 [1,2]))] [(1,N0),(4,N0),(9,N0),(14,N0),(21,N0)]),
 (25,⟨[some NC],[none],true,false,[((P2 [3] [(3,5,.u8)] [1,3,4]),(P2 [3] [(3,5,.u8)] [1,3])),((P2 [3] [(3,5,.u8)] [1,3,5]),(P2 [3] [(3,5,.u8)] [1,3])),((P2 [3] [(3,5,.u8)] [1,3,6]),(P2 [3] [(3,5,.u8)] [1,3])),((P2 [3] [(3,5,.u8)] [1,3,7]),(P2 [3] [(3,5,.u8)] [3]))],[(5,N0),(9,N0),(13,N0),(18,N0)],⟨none,[(2,5,.u8)],none,false⟩,false⟩),
 (40,F0 [some Wp] [Q3] [] []),
 (41,F0 [some Wp] [some Wp] [] [(3,N0)]),
 (42,F0 [some Fz,Q1,Q2] [some Fz,Q2] [] [(1,N0),(3,N0),(4,N0),(5,N0)]),
 (43,F0 [some Wp,some Fz] [some Wp,Q1] [] [(1,N0),(2,N0),(3,N0),(6,N0),(8,(P1 [2,3,4]))]),
 (44,F0 [Q2] [none] [] []),
 (45,F0 [none,Q1] [Q1] [((P0 [0,1,5,6]),(P0 [0,1,5]))] [(3,(P1 [0,1]))]),
 (46,F0 [none,Q1] [Q2] [] [(1,N0),(7,N0)]),
 (47,F0 [none] [Q1] [] [(1,N0)]),
 (48,F0 [none,Q3,Q1] [] [] []),
 (49,F0 [Q1] [some (.pair .i64 (.pair .i64 (.pair .i64 .i64))),Q3] [] [(1,N0)]),
 (50,F0 [Q1,Q1] [Q3] [] []),
 (54,F0 [Q1,Q1] [Q2] [] [(2,N0),(3,N0)]),
 (51,F0 [some tyM,Q1] [Q3] [] []),
 (53,⟨[Q2,Q1,Q1],[none],true,false,[((P2 [7] [(7,5,.u8)] [2,7,8]),(P2 [7] [(7,5,.u8)] [7]))],[],⟨none,[(6,5,.u8)],none,false⟩,false⟩),
 (52,F0 [Q1,Q4] [Q2] [] [(1,N0)]),
 (55,F0 [] [Q2] [] []),
 (56,F0 [Q2,some uP] [Q2] [] [(1,N0),(3,N0)]),
 (58,F0 [some NC,Q2] [some NC] [] []),
 (57,F0 [some Wp,Q1,some NC] [some Wp,some aO,Q3] [] [(1,N0),(4,N0),(5,N0)]),
 (59,F0 [Q2,Q1] [some tyI,Q1] [((P0 [0,4,6,24]),(P0 [0,4,6]))] [(3,N0),(7,N0),(9,N0)]),
 (61,F0 [Q1] [some yH] [] []),
 (62,F0 [some tyI] [Q2] [((P0 [1,3,16]),(P0 [1,3])),((P0 [1,3,26]),(P0 [1,3])),((P0 [1,3,6,74,75,76]),(P0 [1,3,6])),((P0 [3,137,138,139]),(P0 [3]))] [(5,N0),(10,N0),(12,N0),(14,N0),(15,N0),(16,N0),(17,N0),(22,N0),(23,N0),(24,N0),(27,N0),(32,N0)]),
 (60,F0 [some yH,Q1,Q1,Q2] [some yH,Q1] [] [(1,N0),(5,N0),(6,(P3 [10] [(10,5,.u8)]))]),
 (64,F0 [some Wp] [some Wp] [] [(1,N0)]),
 (63,F0 [some Wp] [some Wp,Q1] [] [(1,N0),(3,N0),(4,N0),(7,N0),(10,N0)]),
 (65,F0 [Q1] [some NC] [] []),
 (69,F0 [some Fz,Q1,Q2] [Q2] [] [(5,N0),(7,N0),(10,(P1 []))]),
 (70,F0 [some Fz,Q1] [Q1] [((P0 [1,2,5]),(P0 [4]))] []),
 (71,F0 [Q2,some XB,Q2,Q2] [some XB,some ZZ,Q1] [] [(2,N0),(3,N0),(9,(P1 [0,2,3,8,9,11,12])),(11,N0),(12,N0)]),
 (72,⟨[some ZZ,some XB,some ZZ],[none],true,false,[],[(1,N0),(2,N0),(3,N0)],⟨none,[(6,5,.u8)],none,false⟩,false⟩),
 (73,⟨[some XB],[none],true,false,[],[(1,N0)],⟨none,[(2,5,.u8)],none,false⟩,false⟩),
 (74,F0 [Q2] [Q2] [] []),
 (75,F0 [some Fz,Q1] [some jZ,Q1] [] [(1,N0)]),
 (76,⟨[Q2,Q1],[none],true,false,[],[(3,N0)],⟨none,[(4,5,.u8)],none,false⟩,false⟩),
 (78,F0 [Q2,Q2] [Q2] [] [(1,N0)]),
 (77,⟨[Q2,Q1,Q1,Q2],[none],true,false,[((P2 [9] [(9,5,.u8)] [9,10,11]),(P2 [9] [(9,5,.u8)] [9]))],[(3,N0),(4,(P3 [9] [(9,5,.u8)]))],⟨none,[(8,5,.u8)],none,false⟩,false⟩),
 (79,F0 [some Fz,Q1] [Q1] [((P0 [1,2,5]),(P0 [4]))] []),
 (80,F0 [some Fz,Q1] [Q2] [] [(1,N0),(4,N0)]),
 (83,F0 [some Fz,some NC] [Q4] [] [(1,N0)]),
 (82,F0 [Q4,some NC] [Q2] [((P2 [5] [(5,5,.u8)] [0,3,5,6,7]),(P0 [3,5,6])),((P0 [3,5,6,8]),(P0 [3,5,6]))] [(9,N0),(11,N0)]),
 (81,F0 [Q2,Q2,Q2,Q2] [Q2] [] [(1,N0)]),
 (66,F0 [Q1] [Q3] [] []),
 (67,F0 [some NC] [Q3] [((P0 [1,3]),(P0 [1,2])),((P0 [1,4]),(P0 [1,2]))] [(11,N0)]),
 (68,⟨[Q2,Q2],[none],true,false,[],[(3,(P1 [0,1]))],⟨none,[(4,5,.u8)],none,false⟩,false⟩),
 (84,F0 [some yH] [some yH] [] []),
 (85,F0 [Q2] [some NC,Q1] [((P2 [] [(1012001,3,.i64)] [2,7,8,9,11,12,42,43]),(P0 [2,7,8,9,11,12])),((P2 [] [(1012002,113,(.pair .i64 (.pair Q5 Q5)))] [2,8,9,11,12,53,54]),(P0 [2,8,9,11,12])),((P2 [] [(1012003,3,.i64)] [2,9,11,12,72,73]),(P0 [2,3,9,11,12])),((P2 [] [(1012004,22,Q5)] [2,11,12,104,105]),(P0 [2,11,12]))] [(1,N0),(4,N0),(7,N0),(11,N0),(15,N0),(16,N0),(17,N0),(22,N0),(23,N0),(27,N0),(28,N0),(32,N0),(34,N0)]),
 (86,F0 [some aO] [Q2] [((P2 [3] [(3,5,.u8)] [1,3,26,27,28]),(P2 [3] [(3,5,.u8)] [1,3])),((P2 [3] [(3,5,.u8)] [3,40,41,42]),(P0 [3])),((P2 [3] [(3,5,.u8)] [3,40,41,42,52,53,54]),(P2 [3] [(3,5,.u8)] [3,40,41,42]))] [(8,N0),(17,N0)]),
 (87,F0 [some Fz,Q1,some NC] [some Fz,some aO] [] [(1,N0),(3,N0),(5,N0),(7,N0),(8,N0),(9,N0),(11,N0),(12,N0),(14,N0),(15,N0),(17,N0),(18,N0)]),
 (88,F0 [none,Q1] [Q3] [] [(3,(P1 [0]))]),
 (89,F0 [none] [Q1] [] []),
 (90,F0 [] [none] [] []),
 (94,F0 [Q1] [Q1] [] []),
 (93,F0 [Q1,some .u8] [Q2] [((P2 [5] [(5,5,.u8)] [0,1,5,6]),(P0 [5]))] []),
 (92,F0 [Q1,Q4] [Q2] [((P2 [5] [(5,5,.u8)] [1,5,6]),(P0 [5]))] []),
 (91,F0 [Q2] [Q2] [((P2 [4] [(4,202,.u32)] [3,4,5,6]),(P0 [4])),((P2 [4,7] [(4,202,.u32)] [3,4,5,6,7,8]),(P2 [4] [(4,202,.u32)] [3,4,5,6,7])),((P2 [4] [(4,202,.u32)] [3,4,5,6,7,11,12]),(P2 [4] [(4,202,.u32)] [3,4,5,6,11])),((P2 [4] [(4,202,.u32)] [3,4,5,6,11,17]),(P2 [4] [(4,202,.u32)] [3,4,5,6]))] [(1,N0),(3,(P3 [4] [(4,202,.u32)])),(12,(P3 [4,7] [(4,202,.u32)])),(13,(P3 [4,7] [(4,202,.u32)])),(14,(P3 [4,7] [(4,202,.u32)])),(10,⟨some [4,7],[(4,202,.u32)],some [3,4,5,6,7,8],true⟩),(21,(P3 [4] [(4,202,.u32)])),(22,(P3 [4] [(4,202,.u32)])),(28,N0)]),
 (95,F0 [some uP] [Q1] [] [(5,N0),(13,N0),(18,N0),(21,N0),(22,(P1 [3]))]),
 (96,F0 [Q2,some uP] [Q2] [] [(4,(P3 [5] [(5,22,Q5)])),(11,(P3 [5] [(5,22,Q5)])),(20,(P1 [5]))]),
 (97,F0 [] [some ZW] [] []),
 (98,F0 [Q2,some .str,Q2,Q1] [Q2] [((P2 [10] [(10,5,.u8)] [0,3,9,10,11]),(P0 [3,10]))] [(4,(P3 [9] [(9,5,.u8)])),(9,(P3 [10] [(10,5,.u8)]))]),
 (104,F0 [Q4,Q1] [Q2] [] []),
 (103,⟨[Q2,Q2],[none],true,false,[],[(2,N0)],⟨none,[(4,5,.u8)],none,false⟩,false⟩),
 (105,⟨[some (.sl .i64)],[],true,false,[((P0 [1,5,6,7]),(P0 []))],[(3,N0)],N1,false⟩),
 (106,F0 [Q3] [some .u8] [] []),
 (107,F0 [some tyM] [Q2] [((P2 [3] [(3,5,.u8)] [1,3,16,17]),(P0 [3])),((P2 [3] [(3,5,.u8)] [1,3,16,17,24,25,26]),(P2 [3] [(3,5,.u8)] [1,3,16,17]))] [(1,N0)]),
 (100,⟨[Q2,Q1,Q1],[none],true,false,[((P2 [7] [(7,5,.u8)] [2,7,8]),(P2 [7] [(7,5,.u8)] [7]))],[],⟨none,[(6,5,.u8)],none,false⟩,false⟩),
 (99,F0 [Q1] [Q3] [] []),
 (101,F0 [Q1,Q2] [Q2] [] [(1,N0)]),
 (102,F0 [some yH,Q1,Q2] [some yH,Q1] [] [(2,N0)]),
 (108,F0 [some yH] [some yH] [] []),
 (109,F0 [some yH,Q1] [Q2,Q1,Q1] [((P2 [7] [] [1,2,4,5,7,18]),(P0 [4,5,6,7])),((P0 [4,5,9,35,36]),(P0 [4,5,9]))] [(1,N0),(7,(P3 [7] [])),(15,N0),(18,(P1 [4,5,9,35,36]))]),
 (110,F0 [Q2] [some tyI,Q1] [((P0 [2,4,6,62,63]),(P0 [2,4,6])),((P0 [2,4,6,92,93,94]),(P0 [2,4,6])),((P0 [2,4,6,104,105]),(P0 [2,4,6]))] [(1,N0),(2,N0),(5,(P1 [2,4])),(7,N0),(8,N0),(9,N0),(10,N0),(11,N0),(12,N0),(13,N0),(14,N0),(15,N0),(16,N0),(18,N0),(24,N0),(26,N0),(28,N0),(29,N0),(33,N0),(34,(P1 [2,4,6]))]),
 (111,F0 [some tyI] [some Fz] [] []),
 (112,F0 [Q1] [Q1] [] []),
 (113,F0 [some XB] [Q1] [] [(5,N0)]),
 (114,F0 [Q2,some .str,Q2,Q1] [Q2] [((P2 [9] [(9,5,.u8)] [0,1,2,3,9,10]),(P0 [3,9]))] [(7,(P3 [9] [(9,5,.u8)])),(8,(P3 [9,11] [(9,5,.u8),(11,5,.u8)])),(9,(P3 [9] [(9,5,.u8)]))]),
 (115,F0 [some ZZ,Q1,Q1] [Q2] [] [(2,N0),(3,N0)]),
 (116,F0 [some XB] [Q2] [] [(1,N0)]),
 (118,F0 [some ZZ,Q2] [Q2] [] [(1,N0)]),
 (117,⟨[Q2,Q2,Q2,Q2],[none],true,false,[],[(3,N0),(4,N0)],⟨none,[(8,5,.u8)],none,false⟩,false⟩),
 (119,F0 [some Fz,Q1] [Q1] [] []),
 (121,F0 [Q2,Q1] [Q4] [((P2 [5] [(5,22,Q5)] [1,5,6,7]),(P0 [5]))] [(2,(P3 [5] [(5,22,Q5)])),(6,(P3 [5] [(5,22,Q5)]))]),
 (120,F0 [Q4] [Q2] [((P0 [3,4]),(P0 [3]))] [(1,N0),(7,N0),(8,N0)]),
 (123,F0 [Q2,Q1] [Q2] [] [(1,N0)]),
 (122,⟨[Q2,Q1,Q2],[none],true,false,[((P2 [8] [(8,5,.u8)] [0,1,7,8,9]),(P2 [8] [(8,5,.u8)] [8]))],[(3,N0),(8,(P3 [8] [(8,5,.u8)]))],⟨none,[(6,5,.u8)],none,false⟩,false⟩),
 (124,F0 [Q1,Q4] [Q4] [((P2 [5] [(5,22,Q5)] [0,5,6,7]),(P0 [5]))] [(1,N0),(8,(P3 [5] [(5,22,Q5)])),(9,(P3 [5] [(5,22,Q5)]))]),
 (126,F0 [some Fz,some NC] [Q4] [((P2 [5] [(5,22,Q5)] [2,3,5,6]),(P0 [5]))] [(5,(P3 [5] [(5,22,Q5)]))]),
 (125,F0 [Q2,Q2] [Q2] [((P2 [5,6] [(5,5,.u8),(6,5,.u8)] [0,1,5,6,7]),(P2 [5,6] [(5,5,.u8),(6,5,.u8)] [1,5,6]))] [(2,N0),(3,(P1 [0,1])),(10,⟨some [5,6],[(5,5,.u8),(6,5,.u8)],some [0,1,5,6,7,8],true⟩),(11,(P3 [5,6] [(5,5,.u8),(6,5,.u8)]))]),
 (127,F0 [Q2] [Q1,Q1] [] []),
 (128,F0 [Q1] [Q1,Q1,Q1,Q1,Q3] [((P0 [0,9,10]),(P0 [2,3,4,5,6]))] []),
 (129,F0 [Q2] [none] [] []),
 (130,F0 [none,Q1] [Q1] [((P0 [0,1,7,38,39,40]),(P0 [0,1,7]))] [(4,N0),(6,N0),(8,N0),(17,N0)]),
 (131,F0 [none,Q1] [Q2] [] [(4,N0),(6,N0),(10,N0),(12,N0),(14,N0)]),
 (132,F0 [none] [Q1] [] []),
 (133,F0 [Q1,Q1] [Q3] [] []),
 (134,F0 [none] [Q1] [] [(1,N0)]),
 (135,F0 [some NC] [Q1] [((P0 [1,8,57,58,59]),(P0 [1,8])),((P0 [1,8,70,71,72]),(P0 [1,8])),((P0 [1,8,84,85,86]),(P0 [1,8])),((P0 [1,8,103,104,105]),(P0 [1,8])),((P0 [1,8,124,125,126]),(P0 [1,8]))] [(1,N0),(4,N0),(8,N0),(13,N0),(32,N0)]),
 (136,F0 [some Fz,Q1] [some Fz,some aO] [] []),
 (137,F0 [some Fz,some NC] [Q3] [((P0 [2,3,15,16,17]),(P0 [2,3,4]))] [(4,N0),(19,N0),(31,N0),(40,(P1 []))]),
 (138,F0 [some Fz,Q1,some NC] [some Fz,some aO] [] [(3,N0),(4,N0),(6,N0),(7,N0),(12,(P1 [3,6,7,12])),(17,N0),(19,N0),(21,N0),(23,N0),(25,N0),(27,N0),(28,N0),(29,N0),(31,N0),(33,N0),(35,(P1 [3,6,7]))]),
 (139,F0 [some Fz,Q1,some NC] [some Fz,Q1] [] [(5,N0),(6,N0),(10,N0),(12,N0)]),
 (140,F0 [some Fz,some NC] [some Fz,some aO] [] [(3,N0),(5,N0),(7,N0),(9,N0),(11,N0),(13,N0),(16,N0),(17,N0),(18,N0),(19,N0),(21,N0),(23,N0),(28,N0),(29,(P1 [2,3,4,5]))]),
 (141,F0 [some Fz,some NC] [some Fz,Q4] [] [(4,N0),(8,N0),(10,N0),(14,N0),(15,(P1 [2,4]))]),
 (142,F0 [] [none] [] []),
 (143,F0 [Q2] [Q2] [((P2 [3] [(3,5,.u8)] [0,3]),(P2 [3] [(3,5,.u8)] [0,3])),((P2 [3] [(3,5,.u8)] [3,4,5]),(P0 [3]))] []),
 (144,F0 [Q2,Q1] [some .u32] [] []),
 (145,F0 [some .u32,some .u64] [some .u32] [] []),
 (146,F0 [some (.sl .u32)] [Q2] [((P2 [3] [(3,5,.u8)] [0,3,4]),(P0 [3]))] []),
 (147,F0 [some (.pair .i64 .i64)] [Q3] [] []),
 (148,F0 [Q2,Q2] [Q1] [] []),
 (149,F0 [Q4] [Q3] [((P0 [0,3]),(P0 [2]))] []),
 (150,⟨[Q1],[none],true,false,[],[],⟨none,[(2,5,.u8)],none,false⟩,false⟩),
 (151,F0 [Q2,Q2] [Q2] [] [(2,N0),(3,(P1 [1,2])),(4,N0),(5,N0)]),
 (155,F0 [some tyM] [Q1] [((P0 [1,3,7,8]),(P0 [3]))] [(7,(P1 [1,3,7,8]))]),
 (152,F0 [Q1,Q4] [Q2] [] [(1,N0)]),
 (154,F0 [Q2,Q1] [Q2] [] [(4,(P1 [7]))]),
 (153,F0 [some yH,Q1,Q2,none] [some yH,Q1] [((P2 [12] [(12,22,Q5)] [1,3,4,8,10,11,12,51,52]),(P2 [12] [(12,22,Q5)] [1,3,4,8,10,11,12]))] [(3,N0),(14,(P1 [1,3,4,8,10,11])),(20,(P3 [12] [(12,22,Q5)]))]),
 (156,F0 [some yH,Q1] [Q2,Q1] [] [(3,N0)]),
 (157,F0 [Q2,Q1] [Q2,Q1,Q3] [] [(1,N0),(2,N0),(3,N0),(4,N0),(5,N0)]),
 (158,F0 [none,Q1] [Q1] [] [(1,N0)]),
 (159,F0 [none,Q1,Q1] [Q1] [] [(3,N0),(4,N0),(7,(P1 [0,7]))]),
 (160,F0 [Q1] [Q4] [((P2 [3] [(3,22,Q5)] [1,3,4,5]),(P0 [3]))] [(3,(P3 [3] [(3,22,Q5)]))]),
 (161,F0 [none] [Q2] [] [(3,N0),(4,N0)]),
 (162,F0 [none] [Q3] [] [(1,N0)]),
 (163,F0 [none] [some tyM] [] [(1,N0),(4,N0)]),
 (164,F0 [none] [some jY] [] [(1,N0),(2,N0),(3,N0),(4,N0),(5,N0),(6,N0),(7,N0),(8,N0)]),
 (165,⟨[Q1],[none],true,false,[],[],⟨none,[(2,5,.u8)],none,false⟩,false⟩),
 (166,F0 [Q2,Q2,Q2] [Q2] [((P2 [8] [(8,5,.u8)] [2,7,8,9]),(P0 [8]))] [(1,N0)]),
 (167,F0 [Q2,Q2,Q2,Q2] [Q2] [] [(1,N0),(2,N0)]),
 (171,F0 [Q2,Q1] [Q2] [((P2 [5] [(5,5,.u8)] [0,1,5,6]),(P0 [1,5]))] [(7,(P3 [5] [(5,5,.u8)])),(8,N0)]),
 (168,F0 [Q1] [Q3] [] []),
 (169,F0 [Q1,Q4] [Q4] [((P2 [5] [(5,22,Q5)] [0,1,5,6]),(P0 [5]))] [(5,(P3 [5] [(5,22,Q5)]))]),
 (170,⟨[Q2],[none],true,false,[],[],⟨none,[(2,5,.u8)],none,false⟩,false⟩),
 (172,F0 [Q2] [some (.sl .i64)] [((P2 [4] [(4,3,.i64)] [3,4,5,6]),(P2 [4] [(4,3,.i64)] [4,5]))] [(1,N0)]),
 (174,F0 [Q2,Q1,Q1] [Q2] [] [(1,N0)]),
 (173,F0 [Q1,Q1,Q1,Q1,Q2] [Q2] [((P0 [0,1,3,4,11]),(P0 [4]))] [(4,N0)]),
 (175,F0 [some Fz,Q1] [Q2] [] [(1,N0),(3,N0),(4,N0),(6,N0),(7,N0)]),
 (176,F0 [none,Q1] [] [] []),
 (177,F0 [none,Q1,Q1] [Q2,Q1] [] []),
 (178,F0 [none] [Q1] [] []),
 (179,F0 [Q1] [Q3] [] []),
 (180,F0 [some NC] [Q2] [((P2 [3] [(3,5,.u8)] [1,3,20,21,22]),(P2 [3] [(3,5,.u8)] [1,3])),((P2 [3] [(3,5,.u8)] [1,3,31,32,33]),(P2 [3] [(3,5,.u8)] [1,3])),((P2 [3] [(3,5,.u8)] [1,3,49,50,51]),(P2 [3] [(3,5,.u8)] [1,3])),((P2 [3] [(3,5,.u8)] [3,67,68,69]),(P2 [3] [(3,5,.u8)] [3]))] [(5,N0),(10,N0),(15,N0),(21,N0),(23,(P3 [3] [(3,5,.u8)]))]),
 (181,F0 [some Fz,Q1] [Q2,Q1] [] [(1,N0)]),
 (182,F0 [some Fz,Q1] [some (.pair XB (.pair ZZ .i64)),Q1] [] []),
 (183,F0 [some Fz,Q1] [Q1,Q1] [((P0 [1,10,11,12]),(P0 [4,5]))] []),
 (184,⟨[some Fz,Q1],[some Fz,Q1],false,false,[],[(11,N0),(13,N0),(14,(P1 [4,6,7]))],(P3 [999999] []),false⟩),
 (185,F0 [some Fz,some Fz,Q1] [some Fz,some aO] [] [(2,N0)]),
 (186,F0 [some Fz,Q1] [some Fz,Q1] [] [(11,(P1 [4,6]))]),
 (187,F0 [some Fz,Q1,some NC] [some Fz,some aO] [((P0 [1,3,5,6,7,8,10,77]),(P0 [1,3,5,6,7,8,10]))] [(7,N0),(9,N0),(12,N0),(18,N0),(20,N0),(21,(P1 [1,3,5,6,7,8,10,14,77])),(23,N0),(5,N0),(24,(P1 [3,6,7,8,9,10])),(25,N0)]),
 (188,F0 [some Fz,some NC] [some Fz,some aO] [] [(1,N0),(2,N0),(5,N0),(7,N0),(8,N0)]),
 (189,F0 [some Fz,some NC] [some Fz,some aO] [] [(1,N0),(3,N0),(4,N0)]),
 (190,F0 [some Fz,some NC] [some Fz,some aO] [] [(8,N0),(4,N0),(11,(P1 [2,3,4,5,6])),(15,N0),(17,N0),(18,N0),(19,(P1 [2,3,4,5,6])),(20,N0)]),
 (191,F0 [Q2] [some XB,Q1] [((P0 [2,4,5,17,18,19]),(P0 [2,4,5])),((P0 [2,4,5,30,31,32]),(P0 [2,4,5]))] [(1,N0),(6,N0),(11,N0),(13,N0),(16,N0)]),
 (192,F0 [some Fz,Q1,some XB,Q2,Q2] [some Fz,Q1] [] [(1,N0),(4,N0),(12,N0),(15,(P1 [3,5,7,10,12,13]))]),
 (193,F0 [some Fz,Q1] [some jZ,Q1] [] [(1,N0)]),
 (194,F0 [some tyN,some jZ] [some Fz,Q1] [((P2 [8] [(8,22,Q5)] [2,3,4,6,8,44,45,46]),(P0 [2,3,4,6,8]))] [(1,N0),(3,N0),(5,N0),(7,N0),(12,(P3 [8] [(8,22,Q5)])),(15,N0)]),
 (195,F0 [some tyN,some jZ,Q1] [some Fz,Q1] [] [(1,N0),(2,N0),(5,N0),(9,N0),(21,N0),(23,N0),(24,N0)]),
 (196,F0 [some Fz,some NC] [some Fz,some aO] [] [(1,N0),(3,N0),(4,N0),(5,N0),(6,N0),(7,N0),(8,N0),(10,N0),(11,N0),(13,N0),(14,N0)]),
 (199,F0 [some Fz,some NC] [some Fz,some aO] [] [(1,N0),(3,N0),(5,N0)]),
 (200,F0 [some Fz,some NC] [some Fz,some aO] [] [(1,N0),(3,N0),(4,N0),(6,N0)]),
 (202,F0 [some Fz,Q1,Q2,Q2,Q1] [some Fz,Q1] [] [(1,N0),(7,N0),(13,(P1 [5,10,12,13,15]))]),
 (203,F0 [some Fz,some NC] [some Fz,some aO] [] [(1,N0),(3,N0),(4,N0),(5,N0),(7,N0),(8,N0)]),
 (204,F0 [some Fz,Q1] [some Fz,some aO] [] [(1,N0),(3,N0),(5,N0),(6,N0)]),
 (205,F0 [some Fz,some NC] [some Fz,some aO] [] [(5,N0),(6,N0),(8,N0),(10,N0),(11,N0),(13,N0),(18,N0),(20,N0),(22,N0),(24,(P1 [2,4,5]))]),
 (207,F0 [some Fz,Q1] [some Fz,Q2] [] [(1,N0),(2,N0)]),
 (208,⟨[some (.sl jZ)],[none],true,false,[],[],⟨none,[(2,146,jZ)],none,false⟩,false⟩),
 (209,F0 [some Fz,Q1] [some Fz,Q1] [] [(1,N0),(4,N0)]),
 (210,F0 [Q1,Q2] [Q2] [((P0 [5,6]),(P0 [5])),((P0 [7,8]),(P0 [7]))] [(4,N0),(7,N0),(8,N0),(11,N0),(14,N0),(15,N0)]),
 (211,⟨[some .u8],[none],true,false,[((P2 [4] [(4,5,.u8)] [0,4,10]),(P2 [4] [(4,5,.u8)] [4]))],[],⟨none,[(3,5,.u8)],none,false⟩,false⟩),
 (212,F0 [Q1,Q4] [Q2] [((P2 [5] [(5,5,.u8)] [5,12,13,14]),(P0 [5]))] []),
 (213,F0 [some yH,Q1] [Q3] [] []),
 (214,F0 [none,Q1] [Q2] [] [(4,N0),(6,N0),(8,N0)]),
 (215,⟨[Q2],[some tyM,Q1],false,false,[((P0 [2,4,6,29,30]),(P0 [2,4,6])),((P0 [2,4,6,7,29,30,38,39]),(P0 [2,4,6,29,30]))],[(1,N0),(2,N0),(3,N0),(5,N0),(6,N0),(13,N0),(16,N0)],(P3 [999999] []),false⟩),
 (217,F0 [Q1,Q2] [Q2] [] [(1,N0)]),
 (216,F0 [Q1,Q1,Q2,Q2] [Q2] [] [(1,N0)]),
 (218,F0 [some jY] [Q2] [] [(1,N0)]),
 (219,F0 [Q1] [Q2] [] [(3,N0)]),
 (220,F0 [some Fz,Q1] [some (.pair Q5 (.pair Q5 (.pair Q5 .bool))),Q1] [] [(1,N0),(2,N0),(4,N0),(7,(P1 [4,10])),(10,N0),(12,N0)]),
 (221,⟨[Q1],[none],true,false,[((P2 [2] [] [0,2,3,12]),(P2 [2] [] [2,3])),((P2 [2,5] [(5,22,Q5)] [0,2,3,4,5,6,12]),(P2 [2,5] [(5,22,Q5)] [0,2,3,5,12]))],[(14,⟨some [2,5],[(5,22,Q5)],some [0,2,3,4,5,6,7,12],true⟩)],N1,false⟩),
 (223,F0 [some tyM,Q1,Q1] [Q2,Q1] [] [(1,N0),(3,N0)]),
 (224,⟨[some tyM,Q1,Q1,Q4],[some tyM,Q1],false,false,[((P0 [2,3,4,8,38,39,40]),(P0 [2,3,4,8,9])),((P0 [2,3,4,8,56,57,58]),(P0 [2,3,4,8,9])),((P0 [2,3,4,8,14,79,80]),(P0 [8,14]))],[(1,N0),(3,N0),(8,N0),(14,N0),(17,N0),(21,N0),(22,N0),(23,(P1 [2,3,4,8,14,79,80]))],(P3 [999999] []),false⟩),
 (225,F0 [some tyM,Q1,Q1,Q2] [some tyM,Q1] [((P2 [10] [(10,22,Q5)] [1,2,3,4,8,10,18,19]),(P0 [1,2,4,8,10]))] [(7,(P3 [10] [(10,22,Q5)])),(8,(P3 [10] [(10,22,Q5)])),(9,⟨some [10],[(10,22,Q5)],some [1,2,3,4,8,10,18,19],true⟩),(10,N0)]),
 (226,⟨[some tyM,Q1,Q1],[some tyM,Q1],false,false,[((P0 [2,3,6,8,31,32]),(P0 [6,8]))],[(1,N0),(3,N0),(5,N0),(9,N0),(10,N0),(11,(P1 [2,3,6,8,31,32]))],(P3 [999999] []),false⟩),
 (227,F0 [some NC,Q1] [Q1] [] []),
 (228,F0 [some Fz,Q1] [some Fz,some aO] [] []),
 (229,⟨[some (.sl (.pair XB (.pair ZZ .i64)))],[none],true,false,[],[],⟨none,[(2,140,(.pair XB (.pair ZZ .i64)))],none,false⟩,false⟩),
 (230,F0 [some Fz,Q1] [some Fz,Q1,Q1] [((P0 [1,2,4,20,21,22]),(P0 [4,5,6]))] [(7,N0),(8,N0),(9,N0)]),
 (232,F0 [some Fz,Q1,some uP] [some Fz,Q1] [] [(1,N0),(8,N0),(9,(P1 [3,5,6,8,9,11])),(12,N0),(15,N0)]),
 (233,F0 [some XB] [Q1] [] [(11,N0),(13,(P1 []))]),
 (234,F0 [some Fz,Q1] [Q1,some jZ,Q3] [] [(1,N0)]),
 (238,F0 [some XB] [Q2] [] [(1,N0)]),
 (237,F0 [some Fz,Q1,some jZ,some uP] [some Fz] [] [(1,N0),(2,N0)]),
 (239,F0 [some Fz,Q1] [Q1,some jZ,Q3] [] []),
 (240,F0 [some tyN] [Q3] [] [(1,N0),(2,N0),(6,N0),(8,N0),(9,N0)]),
 (241,F0 [some tyN] [Q3] [] [(3,N0),(4,N0)]),
 (242,F0 [some Fz,Q1] [Q2,Q1] [] [(1,N0)]),
 (243,F0 [some tyN,Q2,Q2] [some Fz,Q1] [] [(1,N0),(4,N0),(5,N0),(7,N0),(8,(P1 [3,6]))]),
 (246,F0 [some Fz,Q1] [Q2,Q1] [] [(1,N0)]),
 (247,F0 [some tyN,Q1] [Q1,Q3] [] [(1,N0)]),
 (249,F0 [some tyN] [Q1] [] []),
 (250,F0 [some NC] [Q1] [] []),
 (251,F0 [some NC] [some XB] [] [(1,N0)]),
 (252,F0 [some NC,Q1] [Q2] [] []),
 (253,F0 [Q2,some XB,Q2,Q2] [some XB,some ZZ,Q1] [] [(6,(P1 [0,2,3,8,9,11,12])),(8,N0),(10,N0),(12,N0),(13,N0),(14,N0)]),
 (254,F0 [some Fz,some (.pair XB (.pair ZZ .i64))] [some Fz,Q1,Q1] [((P0 [2,3,4,11,12,13]),(P0 [2,4,5,6]))] [(5,N0)]),
 (255,F0 [some XB] [Q2] [] [(1,N0)]),
 (259,F0 [some Fz,some NC,Q3] [some (.pair XB (.pair ZZ .i64)),Q1] [] [(1,N0),(8,N0)]),
 (260,F0 [some Fz,some (.pair XB (.pair ZZ .i64)),Q2] [some Fz,Q2,Q1] [] [(1,N0),(4,N0)]),
 (263,F0 [some uP] [Q1] [((P0 [4,84,85,86]),(P0 [4]))] [(4,N0),(6,N0),(8,N0),(10,N0),(12,N0),(15,N0),(19,N0),(25,N0),(26,(P1 []))]),
 (264,F0 [Q1,Q1,Q1,Q1,Q2,Q2] [some jY,Q1] [] [(2,N0),(12,(P1 [0,1,2,3,4,5,12]))]),
 (266,F0 [some jY] [Q3] [] []),
 (265,F0 [some (.sl jY),none] [Q3] [] [(1,N0)]),
 (267,⟨[some (.sl jY)],[none],true,false,[],[],⟨none,[(2,152,jY)],none,false⟩,false⟩),
 (269,F0 [some jY] [Q3] [] []),
 (268,⟨[some (.sl jY),none],[some (.sl jY)],false,true,[((P2 [0] [(0,152,jY)] [0,1,5,6]),(P0 [0,5]))],[(1,(P3 [0] [(0,152,jY)])),(8,(P3 [0] [(0,152,jY)])),(6,⟨some [0],[(0,152,jY)],some [0,1,5,6],true⟩)],N1,false⟩),
 (270,F0 [some (.sl .i64),Q1] [some (.sl .i64)] [] [(1,N0)]),
 (271,F0 [Q4,Q1,Q2] [Q4] [] [(1,N0),(4,(P1 [7]))]),
 (272,F0 [some ZW,Q1] [some ZW] [] []),
 (273,F0 [some ZW,Q1,Q1,Q1] [some ZW,Q1] [] []),
 (281,F0 [some Fz,Q1,some jZ] [some Fz] [] [(1,N0)]),
 (282,F0 [Q2] [Q2] [((P2 [3] [(3,5,.u8)] [0,3]),(P2 [3] [(3,5,.u8)] [0,3])),((P2 [3] [(3,5,.u8)] [3,4,5]),(P0 [3]))] []),
 (283,F0 [none,Q2] [] [((P2 [4] [] [0,1,4,14]),(P0 [0,4])),((P0 [0,4,6,7,8,9,10,67]),(P0 [0,6,7,8,9,10]))] [(5,(P3 [4] [])),(6,(P3 [4] [])),(7,⟨some [4],[],some [0,1,4,14],true⟩),(21,(P1 [0,4,6,7,8,9,10,11,12,13,67]))]),
 (284,F0 [some (.sl .u32)] [Q2] [((P2 [3] [(3,5,.u8)] [3,10,11,12]),(P0 [3]))] []),
 (285,F0 [none,Q2] [] [((P2 [4] [] [0,1,4,17]),(P0 [0,4])),((P0 [0,4,10,70]),(P0 [0,10])),((P0 [0,10,152]),(P0 []))] [(5,(P3 [4] [])),(7,(P3 [4] [])),(8,(P3 [4] [])),(10,⟨some [4],[],some [0,1,4,17],true⟩),(16,N0),(17,N0)]),
 (286,F0 [Q1] [Q1] [] []),
 (287,F0 [some jY] [Q2] [] [(4,(P1 [1,3]))]),
 (288,F0 [Q1] [Q2] [] [(3,N0)]),
 (289,F0 [Q1,some .u8] [Q2] [] [(1,N0)]),
 (291,F0 [Q1] [Q3] [] []),
 (292,F0 [some tyM,Q1] [Q3] [] [(1,N0)]),
 (293,F0 [Q1,Q3] [Q1] [] []),
 (290,⟨[some tyM],[none],true,false,[((P2 [2] [] [2,3,13,14,15]),(P2 [2] [] [2,3])),((P2 [2,6] [(6,22,Q5)] [2,3,6,13,14,15,19,20,21]),(P2 [2,6] [(6,22,Q5)] [2,3,6,13,14,15]))],[],N1,false⟩),
 (294,F0 [] [Q2] [] []),
 (295,F0 [some Fz,some jZ,some uP] [some jZ,some uP,Q1] [] [(6,N0),(10,N0),(14,N0),(16,N0),(20,N0),(21,(P1 [4,5,6,7,10]))]),
 (296,F0 [Q1] [Q1] [] []),
 (300,F0 [Q2,some uP] [Q2] [] [(1,N0),(3,N0)]),
 (301,F0 [some ZW,Q1] [Q3] [] []),
 (302,F0 [some Fz,Q1] [Q3] [] [(1,N0)]),
 (303,F0 [some ZW,Q1] [Q3] [] [(1,N0)]),
 (304,F0 [Q2,Q2] [Q3] [((P0 [0,1,5,13,14]),(P0 [5]))] []),
 (305,F0 [some ZW,Q1] [some ZW] [] [(1,N0)]),
 (306,F0 [some ZW,Q1] [some ZW] [] []),
 (308,F0 [Q1] [some XB,some ZZ,Q1] [] []),
 (309,F0 [Q1,Q1,some ZZ] [Q2] [] [(2,N0),(3,N0)]),
 (313,F0 [some Fz,some (.pair XB (.pair ZZ .i64))] [some Fz,Q1,Q1] [] [(1,N0),(2,(P3 [7] [(7,177,(.pair Q5 .i64))])),(8,⟨some [7],[(7,177,(.pair Q5 .i64))],some [2,3,4,7,8],true⟩)]),
 (316,F0 [Q1,Q1,Q1] [Q3] [] []),
 (315,F0 [Q3] [Q1] [] []),
 (318,F0 [Q1,Q1] [Q3] [] [(9,(P1 []))]),
 (319,F0 [some (.sl jY),none] [Q1] [((P0 [0,1,7,8]),(P0 [4]))] [(4,N0)]),
 (321,⟨[some (.sl .i64)],[none],true,false,[],[],⟨none,[(2,3,.i64)],none,false⟩,false⟩),
 (323,⟨[Q4],[none],true,false,[],[],⟨none,[(2,22,Q5)],none,false⟩,false⟩),
 (327,F0 [Q2,Q1] [some .u32] [] []),
 (328,F0 [some .u32,Q1] [some .u32] [] []),
 (329,F0 [Q2,Q1] [Q2] [((P0 [7,8,9,10]),(P0 [9]))] [(5,(P1 [0,1])),(8,(P1 [0,6])),(16,(P1 [0,7,8]))]),
 (330,F0 [Q3] [] [] []),
 (331,F0 [some Fz,some jZ,some uP] [some jZ,some uP,Q1] [] [(5,N0),(14,(P1 [4,5,6,7,11]))]),
 (335,F0 [Q2] [Q3] [] []),
 (344,F0 [Q2,some uP] [Q4] [] [(3,N0),(10,N0),(17,(P1 [0]))]),
 (345,F0 [some ZW,Q1] [some ZW] [] [(11,(P1 [2,4]))]),
 (346,F0 [Q2,Q1] [Q2] [] [(1,N0),(3,N0)]),
 (349,⟨[some (.sl (.pair Q5 .i64))],[none],true,false,[],[],⟨none,[(2,177,(.pair Q5 .i64))],none,false⟩,false⟩),
 (357,F0 [some .u64,some .u64] [some .u64,some .u64] [] [(1,N0),(3,N0)]),
 (261,F0 [some tyM,some (.pair .i64 .i64)] [Q2,Q1] [((P2 [7] [(7,5,.u8)] [2,3,6,7,13,14]),(P2 [7] [(7,5,.u8)] [2,3,4,5,6,7])),((P2 [7] [(7,5,.u8)] [2,6,7,27,28]),(P0 [4,5,6,7])),((P2 [7] [(7,5,.u8)] [2,6,7,10,11,27,28,40]),(P2 [7] [(7,5,.u8)] [2,6,7,27,28]))] [(7,(P3 [7] [(7,5,.u8)])),(12,(P3 [7] [(7,5,.u8)])),(19,⟨some [7],[(7,5,.u8)],some [2,6,7,10,11,27,28,40],true⟩),(21,N0)]),
 (297,F0 [Q1] [Q3] [] []),
 (355,F0 [Q2,Q1] [Q4] [((P2 [6] [(6,22,Q5)] [5,6,13,14]),(P0 [6]))] [(1,N0),(6,(P3 [6] [(6,22,Q5)]))]),
 (362,F0 [Q4] [Q2] [] [(1,N0),(4,N0)]),
 (372,F0 [some .u64,some .u64] [some .u64,some .u64] [] []),
 (353,F0 [Q2,Q1] [Q2] [] [(1,N0)]),
 (370,F0 [Q2,Q1] [Q2] [] [(1,N0),(4,N0)]),
 (368,F0 [Q1] [Q1] [((P0 [0,3]),(P0 [2]))] []),
 (369,F0 [Q4] [some (.sl (.sl Q5))] [((P2 [3] [(3,24,(.sl Q5))] [3,4]),(P0 [3])),((P2 [3,5] [(3,24,(.sl Q5)),(5,22,Q5)] [3,4,5,6]),(P2 [3] [(3,24,(.sl Q5))] [3,4,5]))] [(9,(P3 [3,5] [(3,24,(.sl Q5)),(5,22,Q5)]))]),
 (336,F0 [Q1] [Q3] [] []),
 (375,F0 [Q1] [Q2] [] [(1,N0)]),
 (340,⟨[Q1,none,none,none],[Q2],false,false,[((P2 [9] [(9,5,.u8)] [0,1,2,3,9,13]),(P0 [9])),((P2 [9] [(9,5,.u8)] [0,1,2,3,9,10,11,12,13]),(P2 [9] [(9,5,.u8)] [0,1,2,3,9,11,13]))],[(5,(P3 [9] [(9,5,.u8)])),(6,(P3 [9] [(9,5,.u8)])),(7,(P3 [9] [(9,5,.u8)])),(9,(P3 [9] [(9,5,.u8)]))],N1,true⟩),
 (376,F0 [Q1] [Q1] [] []),
 (377,F0 [Q1] [Q1] [] []),
 (339,F0 [Q1,Q2] [Q2] [] [(1,N0)]),
 (343,F0 [Q1,Q1,Q2,Q2] [Q2] [] [(1,N0)]),
 (365,F0 [Q2,Q1,Q1] [Q2] [] [(1,N0)]),
 (361,F0 [Q1,Q1,Q1,Q2] [Q2] [] [(1,N0)])]
open Go.Proofs.Tryz in
noncomputable def CT0:CT:=[(3,f3),(4,f4),(5,f5),(6,f6),(8,f8),(7,f7),(9,f9),(10,f10),(11,f11),(13,f13),(12,f12),(14,f14),(16,f16),(15,f15),(17,f17),(18,f18),(20,f20),(19,f19),(21,f21),(22,f22),(23,f23),(26,f26),(27,f27),(28,f28),(29,f29),(30,f30),(31,f31),(32,f32),(33,f33),(34,f34),(35,f35),(36,f36),(37,f37),(38,f38),(39,f39),(24,f24),(25,f25),(40,f40),(41,f41),(42,f42),(43,f43),(44,f44),(45,f45),(46,f46),(47,f47),(48,f48),(49,f49),(50,f50),(54,f54),(51,f51),(53,f53),(52,f52),(55,f55),(56,f56),(58,f58),(57,f57),(59,f59),(61,f61),(62,f62),(60,f60),(64,f64),(63,f63),(65,f65),(69,f69),(70,f70),(71,f71),(72,f72),(73,f73),(74,f74),(75,f75),(76,f76),(78,f78),(77,f77),(79,f79),(80,f80),(83,f83),(82,f82),(81,f81),(66,f66),(67,f67),(68,f68),(84,f84),(85,f85),(86,f86),(87,f87),(88,f88),(89,f89),(90,f90),(94,f94),(93,f93),(92,f92),(91,f91),(95,f95),(96,f96),(97,f97),(98,f98),(104,f104),(103,f103),(105,f105),(106,f106),(107,f107),(100,f100),(99,f99),(101,f101),(102,f102),(108,f108),(109,f109),(110,f110),(111,f111),(112,f112),(113,f113),(114,f114),(115,f115),(116,f116),(118,f118),(117,f117),(119,f119),(121,f121),(120,f120),(123,f123),(122,f122),(124,f124),(126,f126),(125,f125),(127,f127),(128,f128),(129,f129),(130,f130),(131,f131),(132,f132),(133,f133),(134,f134),(135,f135),(136,f136),(137,f137),(138,f138),(139,f139),(140,f140),(141,f141),(142,f142),(143,f143),(144,f144),(145,f145),(146,f146),(147,f147),(148,f148),(149,f149),(150,f150),(151,f151),(155,f155),(152,f152),(154,f154),(153,f153),(156,f156),(157,f157),(158,f158),(159,f159),(160,f160),(161,f161),(162,f162),(163,f163),(164,f164),(165,f165),(166,f166),(167,f167),(171,f171),(168,f168),(169,f169),(170,f170),(172,f172),(174,f174),(173,f173),(175,f175),(176,f176),(177,f177),(178,f178),(179,f179),(180,f180),(181,f181),(182,f182),(183,f183),(184,f184),(185,f185),(186,f186),(187,f187),(188,f188),(189,f189),(190,f190),(191,f191),(192,f192),(193,f193),(194,f194),(195,f195),(196,f196),(199,f199),(200,f200),(202,f202),(203,f203),(204,f204),(205,f205),(207,f207),(208,f208),(209,f209),(210,f210),(211,f211),(212,f212),(213,f213),(214,f214),(215,f215),(217,f217),(216,f216),(218,f218),(219,f219),(220,f220),(221,f221),(223,f223),(224,f224),(225,f225),(226,f226),(227,f227),(228,f228),(229,f229),(230,f230),(232,f232),(233,f233),(234,f234),(238,f238),(237,f237),(239,f239),(240,f240),(241,f241),(242,f242),(243,f243),(246,f246),(247,f247),(249,f249),(250,f250),(251,f251),(252,f252),(253,f253),(254,f254),(255,f255),(259,f259),(260,f260),(263,f263),(264,f264),(266,f266),(265,f265),(267,f267),(269,f269),(268,f268),(270,f270),(271,f271),(272,f272),(273,f273),(281,f281),(282,f282),(283,f283),(284,f284),(285,f285),(286,f286),(287,f287),(288,f288),(289,f289),(291,f291),(292,f292),(293,f293),(290,f290),(294,f294),(295,f295),(296,f296),(300,f300),(301,f301),(302,f302),(303,f303),(304,f304),(305,f305),(306,f306),(308,f308),(309,f309),(313,f313),(316,f316),(315,f315),(318,f318),(319,f319),(321,f321),(323,f323),(327,f327),(328,f328),(329,f329),(330,f330),(331,f331),(335,f335),(344,f344),(345,f345),(346,f346),(349,f349),(357,f357),(261,f261),(297,f297),(355,f355),(362,f362),(372,f372),(353,f353),(370,f370),(368,f368),(369,f369),(336,f336),(375,f375),(340,f340),(376,f376),(377,f377),(339,f339),(343,f343),(365,f365),(361,f361)]
theorem ct0:CTok Tryz.prog CT0:=by unfold CT0;repeat' first|exact .nil|refine .cons zaw ?_
theorem ft0:gK Tryz.prog FT0:=A3A ct0 zaw
theorem tt0:∀ t i,Me t TT0=some i->TOK Tryz.prog t i:=A2w zaw
end Go.Proofs.YtlpkjhhfhannpaaGreatDoor
namespace Go.Proofs.YtlpkjhhfhannpaaGreatDoor
open Go Go.Ax Go.Eng Go.RowKit
attribute [local irreducible] CS Cj CP CW CQ BC Cm ED ES Dx EG CJ Bi Ce CX and' Cf CU BL Au BI BP BR Ag Ai AY Ae D5 EJ D6 DX Cb BZ BQ BM BO BJ AZ BK Aj Ak Ap D7 BB CV BU BF CO D8 Cc fits D9 Ci AC AQ Ah
theorem UC{P:Program}{I:World->Prop}{f:FuncId}{t:Ty}{l:List (El t)}{s:AV}{H:List (Option Rs)}(h1:l=[]->ZY P I f [.nil] [] s H)(h2:ZY P I f [.sn t l] [] s H):ZY P I f [.sl t l] [] s H:=by
 intro ν O w args hG hR hP
 simp only[Af,Rep] at hR
 obtain⟨u,_,rfl,hu,rfl⟩:=hR
 obtain⟨cs,hc,a,cap,rfl,h3,h4,h5,h6,h7⟩:=hu w (Stp.refl _ _)
 cases a with
 | none =>
  obtain⟨e1,e2⟩:=h6 rfl
  exact h1 (List.length_eq_zero_iff.1 e1) ν O w _ hG (by simp only[Af,Rep];exact⟨_,_,rfl,by rw[e1,e2],rfl⟩) hP
 | some p=>exact h2 ν O w _ hG (by simp only[Af,Rep];exact⟨_,_,rfl,⟨⟨p,_,_,rfl⟩,hu⟩,rfl⟩) hP
structure KT (w:World):Prop where
 kt:∀ j,j<64->w.cell? ⟨2,0+j,none⟩=some (wordV (JP.getD j 0))
 fm:∀ j u,formsV[j]?=some u->w.cell? ⟨1,j,none⟩=some u
 mg:∀ j u,magicV[j]?=some u->w.cell? ⟨0,j,none⟩=some u
theorem KT.ext{w w':World}(h:KT w)(he:Ext w w'):KT w' where
 kt j hj:=TL (h.kt j hj) he
 fm j u hu:=TL (h.fm j u hu) he
 mg j u hu:=TL (h.mg j u hu) he
abbrev I0:World->Prop:=KT
theorem tg0:TTok Tryz.prog I0 TT0 where
 tok:=tt0
 gl t i g l h1 h2 w hw j x hx:=by
  obtain⟨rfl,rfl⟩:=A3C (g0:=2) (tab:=JP) (T:=TT0) zaw _ _ _ _ h1 h2
  have hj:=(List.getElem?_eq_some_iff.1 hx).1
  have h3:=hw.kt j hj
  rw[Nat.zero_add] at h3
  rw[h3,List.getD,hx];rfl
 ga t i g us h1 h2:=by
  rcases A3B (L:=[(1,formsV),(0,magicV)]) (T:=TT0) zaw _ _ h1 with e|⟨p,hp,e⟩
  ·rw[e] at h2;cases h2
  ·rw[e] at h2
   simp only[List.mem_cons,List.not_mem_nil,or_false] at hp
   rcases hp with rfl|rfl
   ·simp only[kP] at h2
    cases hb:Nat.beq g 1 with
    | false=>rw[hb] at h2;cases h2
    | true =>
     rw[hb] at h2
     obtain rfl:=FX hb
     obtain rfl:=Option.some.inj h2
     exact⟨fun u hu=>List.all_eq_true.1 (show(formsV.all fun u=>u.oneCell')=true from by kernel_rfl) u hu,fun w hw=>hw.fm⟩
   ·simp only[kP] at h2
    cases hb:Nat.beq g 0 with
    | false=>rw[hb] at h2;cases h2
    | true =>
     rw[hb] at h2
     obtain rfl:=FX hb
     obtain rfl:=Option.some.inj h2
     exact⟨fun u hu=>List.all_eq_true.1 (show(magicV.all fun u=>u.oneCell')=true from by kernel_rfl) u hu,fun w hw=>hw.mg⟩
noncomputable def E00:Env:=⟨TT0,FT0,CT0,fun _=>none,[]⟩
theorem A6u:Y E00 (.call 229 [.nil] [])=some (.ret (.nm 0) [some (.row 140 objT [])]):=by
 rw[AL];conv=>lhs;whnf
theorem A9o(l:List (El objT))(h:l.length<=4294967296):Y E00 (.call 229 [.sn objT l] [])=some (.ret (.nm 0) [some (.row 140 objT l)]):=by
 rw[AL];conv=>lhs;whnf
 rw[Dk zaF]
 conv=>lhs;whnf
 simp only[NO];try with_reducible rfl
theorem A6v:Y E00 (.call 349 [.nil] [])=some (.ret (.nm 0) [some (.row 177 E8 [])]):=by
 rw[AL];conv=>lhs;whnf
theorem A9p(l:List (El E8))(h:l.length<=4294967296):Y E00 (.call 349 [.sn E8 l] [])=some (.ret (.nm 0) [some (.row 177 E8 l)]):=by
 rw[AL];conv=>lhs;whnf
 rw[Dk zaF]
 conv=>lhs;whnf
 simp only[NO];try with_reducible rfl
theorem A6w:Y E00 (.call 267 [.nil] [])=some (.ret (.nm 0) [some (.row 152 Bf [])]):=by
 rw[AL];conv=>lhs;whnf
theorem A9q(l:List (El Bf))(h:l.length<=4294967296):Y E00 (.call 267 [.sn Bf l] [])=some (.ret (.nm 0) [some (.row 152 Bf l)]):=by
 rw[AL];conv=>lhs;whnf
 rw[Dk zaF]
 conv=>lhs;whnf
 simp only[NO];try with_reducible rfl
theorem A6x:Y E00 (.call 323 [.nil] [])=some (.ret (.nm 0) [some (.row 22 (.sl .u8) [])]):=by
 rw[AL];conv=>lhs;whnf
theorem A9r(l:List (El (.sl .u8)))(h:l.length<=4294967296):Y E00 (.call 323 [.sn (.sl .u8) l] [])=some (.ret (.nm 0) [some (.row 22 (.sl .u8) l)]):=by
 rw[AL];conv=>lhs;whnf
 rw[Dk zaF]
 conv=>lhs;whnf
 simp only[NO];try with_reducible rfl
theorem A6y:Y E00 (.call 321 [.nil] [])=some (.ret (.nm 0) [some (.row 3 (.i64) [])]):=by
 rw[AL];conv=>lhs;whnf
theorem A9s(l:List (El (.i64)))(h:l.length<=4294967296):Y E00 (.call 321 [.sn (.i64) l] [])=some (.ret (.nm 0) [some (.row 3 (.i64) l)]):=by
 rw[AL];conv=>lhs;whnf
 rw[Dk zaF]
 conv=>lhs;whnf
 simp only[NO];try with_reducible rfl
theorem UD{α:Type}{l:List α}(h:fits l 32768=true):l.length<=4294967296:=by
 simp only[Xe,fits0,decide_eq_true_eq] at h;omega
noncomputable def ovC:Orc:=fun q=>match q with
 | .call f [.sl t l] [] =>
  bif Nat.beq f 229&&decide (t=objT)&&fits l 32768 then some (.ret (.nm 0) [some (.row 140 t l)]) else
  bif Nat.beq f 349&&decide (t=E8)&&fits l 32768 then some (.ret (.nm 0) [some (.row 177 t l)]) else
  bif Nat.beq f 267&&decide (t=Bf)&&fits l 32768 then some (.ret (.nm 0) [some (.row 152 t l)]) else
  bif Nat.beq f 323&&decide (t=(.sl .u8))&&fits l 32768 then some (.ret (.nm 0) [some (.row 22 t l)]) else
  bif Nat.beq f 321&&decide (t=(.i64))&&fits l 32768 then some (.ret (.nm 0) [some (.row 3 t l)]) else
  none
 | _=>none
theorem A9t{E:Env}:∀ q r,ovC q=some r->A6c Tryz.prog I0 E q r:=by
 have e00:EnvOK Tryz.prog I0 E00:=⟨tg0,ft0,ct0.get,by kernel_rfl,fun _ _ h=>by cases h⟩
 intro q r h
 unfold ovC at h
 split at h
 ·rename_i f t l
  cases hb0:(Nat.beq f 229&&decide (t=objT)&&fits l 32768) with
  | true =>
   rw[hb0,cond_true] at h
   simp only[Bool.and_eq_true,decide_eq_true_eq] at hb0
   obtain⟨⟨h1,rfl⟩,h3⟩:=hb0
   obtain rfl:=Nat.eq_of_beq_eq_true h1
   obtain rfl:=Option.some.inj h
   exact UC (fun e=>by subst e;exact LQ e00 A6u) (LQ e00 (A9o l (UD h3)))
  | false =>
  rw[hb0,cond_false] at h
  cases hb1:(Nat.beq f 349&&decide (t=E8)&&fits l 32768) with
  | true =>
   rw[hb1,cond_true] at h
   simp only[Bool.and_eq_true,decide_eq_true_eq] at hb1
   obtain⟨⟨h1,rfl⟩,h3⟩:=hb1
   obtain rfl:=Nat.eq_of_beq_eq_true h1
   obtain rfl:=Option.some.inj h
   exact UC (fun e=>by subst e;exact LQ e00 A6v) (LQ e00 (A9p l (UD h3)))
  | false =>
  rw[hb1,cond_false] at h
  cases hb2:(Nat.beq f 267&&decide (t=Bf)&&fits l 32768) with
  | true =>
   rw[hb2,cond_true] at h
   simp only[Bool.and_eq_true,decide_eq_true_eq] at hb2
   obtain⟨⟨h1,rfl⟩,h3⟩:=hb2
   obtain rfl:=Nat.eq_of_beq_eq_true h1
   obtain rfl:=Option.some.inj h
   exact UC (fun e=>by subst e;exact LQ e00 A6w) (LQ e00 (A9q l (UD h3)))
  | false =>
  rw[hb2,cond_false] at h
  cases hb3:(Nat.beq f 323&&decide (t=(.sl .u8))&&fits l 32768) with
  | true =>
   rw[hb3,cond_true] at h
   simp only[Bool.and_eq_true,decide_eq_true_eq] at hb3
   obtain⟨⟨h1,rfl⟩,h3⟩:=hb3
   obtain rfl:=Nat.eq_of_beq_eq_true h1
   obtain rfl:=Option.some.inj h
   exact UC (fun e=>by subst e;exact LQ e00 A6x) (LQ e00 (A9r l (UD h3)))
  | false =>
  rw[hb3,cond_false] at h
  cases hb4:(Nat.beq f 321&&decide (t=(.i64))&&fits l 32768) with
  | true =>
   rw[hb4,cond_true] at h
   simp only[Bool.and_eq_true,decide_eq_true_eq] at hb4
   obtain⟨⟨h1,rfl⟩,h3⟩:=hb4
   obtain rfl:=Nat.eq_of_beq_eq_true h1
   obtain rfl:=Option.some.inj h
   exact UC (fun e=>by subst e;exact LQ e00 A6y) (LQ e00 (A9s l (UD h3)))
  | false =>
  rw[hb4,cond_false] at h
  cases h
 ·cases h
end Go.Proofs.YtlpkjhhfhannpaaGreatDoor
namespace Go.Proofs.YtlpkjhhfhannpaaGreatDoor
open Go Go.RowKit Go.Eng Go.Ax
section
attribute [local irreducible] FW RL OP Go.Eng.DRX thn Go.Eng.blk A9J ADH Calls
theorem AE7:Y E00 (.call 372 [.u64 1,.u64 32] [])=some (.ret (.tup [.u64 0,.u64 32]) []):=by
 rw[AL];conv=>lhs;whnf
 simp only[EU,Xd];kernel_rfl
theorem ABV:Y E00 (.call 357 [.u64 1,.u64 32] [])=some (.ret (.tup [.u64 0,.u64 32]) []):=by
 rw[AL];conv=>lhs;whnf
 rw[AX,AE7]
 conv=>lhs;whnf
theorem UE{k:Nat}{R:Rs}(h:Ez k []=some R):False:=za0
theorem A3D(w:World)(hI:I0 w):Calls Tryz.prog 357 #[IL 1,IL 32] w (zW fun v w'=>v=.tuple #[IL 0,IL 32]/\Ext w w'):=by
 have e00:EnvOK Tryz.prog I0 E00:=⟨tg0,ft0,ct0.get,by kernel_rfl,fun _ _ h=>by cases h⟩
 have h:=LQ e00 ABV (fun _=>undef) (fun _=>False) w [IL 1,IL 32] ⟨fun _ h=>h.elim,fun w' hs=>hI.ext (Stp.ext (hs.mono fun _ _ h=>h))⟩ (by simp only[Af,Rep];exact⟨_,_,rfl,rfl,_,_,rfl,rfl,rfl⟩) ⟨fun k R h=>(UE h).elim,fun k k' R R' b h=>(UE h).elim,fun k h=>(Hf k h).elim⟩
 refine zW.mono h ?_
 rintro v w' ⟨ν',hok⟩
 have h1:=hok.rep
 have h2:=hok.stp
 simp only[Rep,Af] at h1
 obtain⟨us,rfl,_,_,rfl,rfl,_,_,rfl,rfl,rfl⟩:=h1
 exact⟨rfl,Stp.ext (h2.mono fun i _ ⟨k,R,hk,_⟩=>(UE hk).elim)⟩
structure Fil (w0:World) (g:Nat) (x:UInt8) (bp:Nat) (w:World):Prop where
 lo:1<=bp
 hi:bp<=32
 new:w0.heap.size<=g
 ext:Ext w0 w
 row:∃ cur,w.heap[g]?=some (.cells cur 5 (0,0))/\32<=cur.size/\cur.toList.take bp=List.replicate bp (byteV x)
theorem A3E{P:Program}{L:Lst}{w w':World}{ty:TypeId}{K:SV->World->Prop}{xs:Array Operand}{ats:Array TypeId}{f:FuncId}{ss:List SV}{s:SV}(ha:evs L xs.toList=some ss)
  (hr:(callFunc f (ss.map SV.den).toArray).run P w=.ok (.value s.den) w') (hk:K s w'):OP P L (.call {callee:=.value (.func f),args:=xs,argTypes:=ats}) ty w K:=by
 refine Jl (fun ρ he=>?_) hk
 have h1:execOp ρ ⟨none,.call {callee:=.value (.func f),args:=xs,argTypes:=ats},ty, "", #[],none⟩=(do let d<-resolve ρ {callee:=.value (.func f),args:=xs,argTypes:=ats} ty;invoke d.target d.args):=rfl
 have hargs:xs.map ρ=(ss.map SV.den).toArray:=by
  grind[xG,Array.toList_map]
 have hf:ρ (.func f)=.func (.func f) #[] #[]:=he (.func f) (.v (.func (.func f) #[] #[])) rfl
 rw[h1]
 simp only[resolve,hf,Deferred.ofValue,Sem.run_bind,Sem.run_pure,Result.andThen_ok,invoke,hargs]
 simpa using hr
theorem A3F{L:Lst}{w:World}{ty:TypeId}{K:SV->World->Prop}{x y:Operand}{g o n cap m k:Nat}{a:Addr}{cur:Array Value}{cs:List Value}(hx:RD L x=some (.v (.slice (some ⟨g,o,none⟩) n cap)))(hy:RD L y=some (.v (.slice (some a) m k)))
  (hg:w.heap[g]?=some (.cells cur 5 (0,0))) (hn:cs.length=Nat.min m n) (hsrc:∀ j v,cs[j]?=some v->w.cell? (a.add j)=some v) (hfit:o+cs.length<=cur.size) (h1:∀ v∈cs,v.oneCell'=true)
  (hk:K (.v (.int .i64 cs.length)) (w.setRow g (cur.toList.take o++cs++cur.toList.drop (o+cs.length)).toArray)):OP Tryz.prog L (.call {callee:=.builtin .copy,args := #[x,y],argTypes := #[22,22]}) ty w K:=by
 refine Jl (fun ρ he=>FD ρ _ _ _ ?_) hk
 have e1:=he x _ hx
 have e2:=he y _ hy
 simp only[SV.den] at e1 e2
 simp only[builtin,List.map_toArray,List.map_cons,List.map_nil,e1,e2,Sem.run_bind,SB w 22 22 ty 5 g o n cap a m k cur 5 (0,0) cs Tryz.underlying22 zaw hg (.inr rfl) hn hsrc hfit h1,Result.andThen_ok,Sem.run_pure]
 rfl
theorem A9u:SliceT Tryz.prog 22 5 (.int .u8 0) 1 1:=⟨Tryz.underlying22,by kernel_rfl,rfl,by decide⟩
theorem A6z{w w2:World}(h:Ext w w2){g:Nat}{cs:Array Value}(hg:w.heap.size<=g):Ext w (w2.setRow g cs):=by
 have q:=GL w2 g cs
 exact⟨q.os.trans h.os,q.tape.trans h.tape,q.output.trans h.output,Nat.le_trans h.size q.size,fun k hk=>(q.block k (Nat.lt_of_lt_of_le hk h.size) (by intro e;cases e;omega)).trans (h.block k hk)⟩
theorem A9v{P:Program}{L:Lst}{w:World}{ty:TypeId}{K:SV->World->Prop}{x y:Operand}{ats:Array TypeId}{a b c:Int}(hx:RD L x=some (.v (.int .i64 a)))(hy:RD L y=some (.v (.int .i64 b)))(h:min a b=c)(hk:K (.v (.int .i64 c)) w):OP P L (.call {callee:=.builtin .min,args := #[x,y],argTypes:=ats}) ty w K:=by
 refine Jl (fun ρ he=>FD ρ _ _ _ ?_) hk
 have h1:=he x _ hx
 have h2:=he y _ hy
 simp only[SV.den] at h1 h2
 have h3:(if b<a then b else a)=c:=zaa
 simp_all[builtin,Builtin.min_,Builtin.min2,SV.den]
section
variable {X:Rl}{P:Program}{ops:Array Oper}{w0:World}{fin:Lst->World->Prop}{d:Nat}{op:Op}{ty:TypeId}{pos:String}{af:Array Edge}{r:List Oper}{L:Lst}{F:Flx}
theorem drX{s:SV}(hf:Zk (lks op) F=true)(h:∀ w,X.r w0 w->OP P L op ty w fun s' w'=>X.r w w'/\s'.den=s.den)(hr:Go.Eng.DRX X P ops w0 fin r ((d,s)::L) F):Go.Eng.DRX X P ops w0 fin (⟨some d,op,ty,pos,af,none⟩::r) L F:=by
 unfold Go.Eng.DRX;exact⟨.rig s,Sp.stable_rig s,fun w he=>SA hf (h w he),hr⟩
theorem AE8(R:Value->World->Prop)(hst:∀ v w w',R v w->X.r w w'->R v w')(hf:Zk (lks op) F=true)(h:∀ w,X.r w0 w->OP P L op ty w fun s' w'=>X.r w w'/\R s'.den w')(hr:Go.Eng.DRX X P ops w0 fin r L ((d,R)::F)):Go.Eng.DRX X P ops w0 fin (⟨some d,op,ty,pos,af,none⟩::r) L F:=by
 unfold Go.Eng.DRX;exact⟨.flx R,hst,fun w he=>SA hf (h w he),hr⟩
theorem AE9{s:SV}(h:∀ w,X.r w0 w->Vp (lks op) w (fun Lx=>OP P Lx op ty w fun s' w'=>X.r w w'/\s'.den=s.den) F L)(hr:Go.Eng.DRX X P ops w0 fin r ((d,s)::L) F):Go.Eng.DRX X P ops w0 fin (⟨some d,op,ty,pos,af,none⟩::r) L F:=by
 unfold Go.Eng.DRX;exact⟨.rig s,Sp.stable_rig s,h,hr⟩
theorem A3G{t:Nat}{R:Value->World->Prop}(h:∀ w,X.r w0 w->∀ v,R v w->fin ((t,.v v)::L) w):Go.Eng.DRX X P ops w0 fin [] L [(t,R)]:=by
 unfold Go.Eng.DRX;exact h
end
theorem A0Q(w:World)(hI:I0 w)(v:Value)(x:UInt8)(hv:Bytes w v [x]):Calls Tryz.prog 329 #[v,.int .i64 32] w (zW fun r w'=>∃ g,r=.slice (some ⟨g,0,none⟩) 32 32/\Fil w g x 32 w'):=by
 refine jb [.v v,.v (.int .i64 32)] Tryz.func329 rfl Tryz.ntmps329 rfl rfl ?_
 repeat(first|(first|refine IZ ?_|refine Ep ?_|refine Ib ?_|refine Gi ?_|refine Gg ?_|refine FY ?_|refine Gh ?_|refine Ia ?_|refine Gj ?_|refine Gl ?_|refine Gm ?_|refine Gn ?_|refine Gp rfl ?_|refine Gq ?_)|(refine st ?_ rfl;(first|refine G6 rfl ?_|refine Iq rfl ?_|refine S9 rfl rfl rfl rfl rfl ?_ )))
 refine QJ rfl (fun h=>absurd h zaj) (fun h=>?_)
 clear h
 repeat(first|(first|refine IZ ?_|refine Ep ?_|refine Ib ?_|refine Gi ?_|refine Gg ?_|refine FY ?_|refine Gh ?_|refine Ia ?_|refine Gj ?_|refine Gl ?_|refine Gm ?_|refine Gn ?_|refine Gp rfl ?_|refine Gq ?_)|(refine st ?_ rfl;(first|refine G6 rfl ?_|refine S9 rfl rfl rfl rfl rfl ?_ )))
 refine QJ rfl (fun h=>absurd h zaj) (fun h=>?_)
 clear h
 repeat(first|(first|refine IZ ?_|refine Ep ?_|refine Ib ?_|refine Gi ?_|refine Gg ?_|refine FY ?_|refine Gh ?_|refine Ia ?_|refine Gj ?_|refine Gl ?_|refine Gm ?_|refine Gn ?_|refine Gp rfl ?_|refine Gq ?_)|(refine st ?_ rfl;(first|refine G6 rfl ?_|refine A9M (src:=3) (dst:=116) Tryz.underlying3 Tryz.underlying116 rfl zaa ?_|refine A9L (src:=3) (dst:=116) Tryz.underlying3 Tryz.underlying116 rfl ?_|refine A1l (t:=22) Tryz.underlying22 rfl zbd ?_ )))
 refine st (A6A (ss:=[.u64 1,.v (.int .u64 32)]) (Ent.mk Tryz.func357 zaw rfl) rfl (A3D w hI) ?_) rfl
 rintro _ w1 ⟨rfl,he1⟩
 have hI1:=hI.ext he1
 have hv1:=hv.ext he1
 repeat(first|(first|refine IZ ?_|refine Ep ?_|refine Ib ?_|refine Gi ?_|refine Gg ?_|refine FY ?_|refine Gh ?_|refine Ia ?_|refine Gj ?_|refine Gl ?_|refine Gm ?_|refine Gn ?_|refine Gp rfl ?_|refine Gq ?_)|(refine st ?_ rfl;(first|refine G6 rfl ?_|refine Iq rfl ?_|refine S9 rfl rfl rfl rfl rfl ?_|refine sQ rfl rfl ?_ )))
 refine ABE rfl rfl (G6 rfl ?_) rfl rfl
 refine ABE rfl rfl (S9 rfl rfl rfl rfl rfl ?_) rfl rfl
 refine st (A1r rfl rfl ?_) rfl
 repeat(first|(first|refine IZ ?_|refine Ep ?_|refine Ib ?_|refine Gi ?_|refine Gg ?_|refine FY ?_|refine Gh ?_|refine Ia ?_|refine Gj ?_|refine Gl ?_|refine Gm ?_|refine Gn ?_|refine Gp rfl ?_|refine Gq ?_)|(refine st ?_ rfl;(first|fail )))
 refine QJ rfl (fun h=>absurd h zaj) (fun h=>?_)
 clear h
 repeat(first|(first|refine IZ ?_|refine Ep ?_|refine Ib ?_|refine Gi ?_|refine Gg ?_|refine FY ?_|refine Gh ?_|refine Ia ?_|refine Gj ?_|refine Gl ?_|refine Gm ?_|refine Gn ?_|refine Gp rfl ?_|refine Gq ?_)|(refine st ?_ rfl;(first|refine G6 rfl ?_ )))
 refine st (di (s:=.v (.int .i64 32)) (k:=.u64) (a:=32) Tryz.underlying116 Tryz.underlying3 rfl rfl rfl ?_) rfl
 repeat(first|(first|refine IZ ?_|refine Ep ?_|refine Ib ?_|refine Gi ?_|refine Gg ?_|refine FY ?_|refine Gh ?_|refine Ia ?_|refine Gj ?_|refine Gl ?_|refine Gm ?_|refine Gn ?_|refine Gp rfl ?_|refine Gq ?_)|(refine st ?_ rfl;(first|refine G6 rfl ?_|refine Iq rfl ?_|refine S9 rfl rfl rfl rfl rfl ?_|refine A1l (t:=22) Tryz.underlying22 rfl zbd ?_ )))
 refine QJ rfl (fun h=>absurd h (show ¬WW BinOp.eql 1 0=true by decide)) (fun h=>?_)
 clear h
 repeat(first|(first|refine IZ ?_|refine Ep ?_|refine Ib ?_|refine Gi ?_|refine Gg ?_|refine FY ?_|refine Gh ?_|refine Ia ?_|refine Gj ?_|refine Gl ?_|refine Gm ?_|refine Gn ?_|refine Gp rfl ?_|refine Gq ?_)|(refine st ?_ rfl;(first|refine G6 rfl ?_|refine Iq rfl ?_|refine S9 rfl rfl rfl rfl rfl ?_ )))
 refine QJ rfl (fun h=>absurd h zaj) (fun h=>?_)
 clear h
 repeat(first|(first|refine IZ ?_|refine Ep ?_|refine Ib ?_|refine Gi ?_|refine Gg ?_|refine FY ?_|refine Gh ?_|refine Ia ?_|refine Gj ?_|refine Gl ?_|refine Gm ?_|refine Gn ?_|refine Gp rfl ?_|refine Gq ?_)|(refine st ?_ rfl;(first|refine G6 rfl ?_ )))
 obtain⟨cs,hrun,hle,hmx⟩:=Lib.run_makeNoZero (P:=Tryz.prog) w1 #[3] 22 5 Tryz.underlying22 32 zaj
 have hcall:(callFunc 358 #[.int .i64 32]).run Tryz.prog w1=.ok (.value (.slice (some ⟨w1.heap.size,0,none⟩) 32 cs.size)) (w1.drew.drew.alloc (.cells cs 5)):=by
  rw[run_callFunc_extern Tryz.func358 zaw zaw zaw (e:=Extern.BytealgMakeNoZero.makeNoZero #[3] #[22]) zaw]
  have h2:(Extern.BytealgMakeNoZero.makeNoZero #[3] #[22] #[.int .i64 32]).run Tryz.prog w1=_:=hrun
  rw[h2]
  rfl
 have he2:Ext w1 (w1.drew.drew.alloc (.cells cs 5)):=Below.alloc (B:=w1.heap.size) (a:=w1) (w:=w1.drew.drew) ((Ext.drew w1).trans (Ext.drew w1.drew)) (Nat.le_refl _) _
 have hg2:(w1.drew.drew.alloc (.cells cs 5)).heap[w1.heap.size]?=some (.cells cs 5 (0,0)):=by
  show(w1.heap.push _)[w1.heap.size]?=_
  exact Array.getElem?_push_size
 generalize hw2:w1.drew.drew.alloc (.cells cs 5)=w2 at *
 clear hw2 hrun
 have hv2:=hv1.ext he2
 have hnew:w.heap.size<=w1.heap.size:=he1.size
 generalize hg0:w1.heap.size=g at *
 refine st (A3E (ss:=[.v (.int .i64 32)]) (s:=.v (.slice (some ⟨g,0,none⟩) 32 cs.size)) rfl hcall ?_) rfl
 repeat(first|(first|refine IZ ?_|refine Ep ?_|refine Ib ?_|refine Gi ?_|refine Gg ?_|refine FY ?_|refine Gh ?_|refine Ia ?_|refine Gj ?_|refine Gl ?_|refine Gm ?_|refine Gn ?_|refine Gp rfl ?_|refine Gq ?_)|(refine st ?_ rfl;(first|refine G6 rfl ?_ )))
 refine st (Jl (w':=w2) (s:=.v (.slice (some ⟨g,0,none⟩) 32 32)) (fun ρ he=>?_) ?_) rfl
 ·have e1:=he (.tmp 54) _ rfl
  have e2:=he (.tmp 55) _ rfl
  have e3:=he (.tmp 56) _ rfl
  simp only[SV.den] at e1 e2 e3
  exact Hg (l:=0) (h:=32) (mx:=32) A9u e1 (by
   simp only[Instr.sliceBounds,Option.map_some,Option.map_none,e2,e3,Sem.run_bind,Sem.run_pure,Result.andThen_ok,Option.isSome_some,if_true,Ic _ _ _ _ (show(0:Int)<=32 by omega) (show(32:Int)<=(cs.size:Int) by omega),Ic _ _ _ _ (show(0:Int)<=32 by omega) (show(32:Int)<=(((32:Int).toNat:Nat):Int) by omega)];rfl)
 repeat(first|(first|refine IZ ?_|refine Ep ?_|refine Ib ?_|refine Gi ?_|refine Gg ?_|refine FY ?_|refine Gh ?_|refine Ia ?_|refine Gj ?_|refine Gl ?_|refine Gm ?_|refine Gn ?_|refine Gp rfl ?_|refine Gq ?_)|(refine st ?_ rfl;(first|refine G6 rfl ?_|refine Iq rfl ?_ )))
 obtain⟨a,cap,rfl,-,-,-,hnil,hcell⟩:=hv2
 cases a with
 | none=>exact absurd (hnil rfl).1 zat
 | some p =>
 have hc0:=hcell p rfl
 refine st (A3F (cs:=[byteV x]) rfl rfl hg2 rfl (fun j v hj=>hc0 j v hj) zaD (by intro v hv;simp at hv;subst hv;rfl) ?_) rfl
 repeat(first|(first|refine IZ ?_|refine Ep ?_|refine Ib ?_|refine Gi ?_|refine Gg ?_|refine FY ?_|refine Gh ?_|refine Ia ?_|refine Gj ?_|refine Gl ?_|refine Gm ?_|refine Gn ?_|refine Gp rfl ?_|refine Gq ?_)|(refine st ?_ rfl;(first|refine Iq rfl ?_ )))
 refine A67 (fun bp:Nat=>[(10,.v (.int .i64 bp)),(7,.v (.int .i64 32)),(8,.v (.int .i64 32)),(9,.v (.slice (some ⟨g,0,none⟩) 32 32))]) (fun bp w'=>Fil w g x bp w') (fun bp=>32-bp) 1 ⟨rfl,rfl,rfl,rfl,trivial⟩ ?_ ?_
 ·refine⟨by omega,by omega,hnew,A6z (he1.trans he2) hnew,_,setRow_heap w2 g cs _ 5 _ hg2,?_,?_⟩
  ·simp;omega
  ·rfl
 intro bp w' hF
 repeat(first|(first|refine IZ ?_|refine Ep ?_|refine Ib ?_|refine Gi ?_|refine Gg ?_|refine FY ?_|refine Gh ?_|refine Ia ?_|refine Gj ?_|refine Gl ?_|refine Gm ?_|refine Gn ?_|refine Gp rfl ?_|refine Gq ?_)|(refine st ?_ rfl;(first|refine G6 rfl ?_|refine S9 rfl rfl rfl rfl rfl ?_ )))
 refine QJ rfl (fun h=>?_) (fun h=>?_)
 ·have hlt:bp<32:=by
   have:(bp:Int)<32:=by simpa [WW] using h
   omega
  obtain⟨q1,q2,q3,q4,cur,q5,q6,q7⟩:=hF
  repeat(first|(first|refine IZ ?_|refine Ep ?_|refine Ib ?_|refine Gi ?_|refine Gg ?_|refine FY ?_|refine Gh ?_|refine Ia ?_|refine Gj ?_|refine Gl ?_|refine Gm ?_|refine Gn ?_|refine Gp rfl ?_|refine Gq ?_)|(refine st ?_ rfl;(first|refine G6 rfl ?_ )))
  refine st (A9v (c:=bp) rfl rfl zaa ?_) rfl
  repeat(first|(first|refine IZ ?_|refine Ep ?_|refine Ib ?_|refine Gi ?_|refine Gg ?_|refine FY ?_|refine Gh ?_|refine Ia ?_|refine Gj ?_|refine Gl ?_|refine Gm ?_|refine Gn ?_|refine Gp rfl ?_|refine Gq ?_)|(refine st ?_ rfl;(first|refine Iq rfl ?_ )))
  have hbn:(List.replicate bp (byteV x)).length=bp:=List.length_replicate
  have hcl:cur.toList.length=cur.size:=Array.length_toList
  -- how many are copied, and the row behind it
  obtain⟨k,hk⟩:∃ k,k=min bp (32-bp):=⟨_,rfl⟩
  have hcs1:(cur.toList.take k)=List.replicate k (byteV x):=by
   have e1:cur.toList.take k=(cur.toList.take bp).take k:=zbA
   rw[e1,q7,List.take_replicate];congr 1;omega
  obtain⟨c1,hc1⟩:∃ c1:Array Value,c1=(cur.toList.take bp++List.replicate k (byteV x)++cur.toList.drop (bp+k)).toArray:=⟨_,rfl⟩
  have hl1:c1.toList.length=cur.size:=by
   rw[hc1,List.toList_toArray,List.length_append,List.length_append,List.length_replicate,List.length_take,List.length_drop,hcl];omega
  have ht1:c1.toList.take (bp+k)=List.replicate (bp+k) (byteV x):=by
   rw[hc1,List.toList_toArray,q7,List.replicate_append_replicate,List.take_left' List.length_replicate]
  have hd1:c1.toList.drop (bp+k)=cur.toList.drop (bp+k):=by
   rw[hc1,List.toList_toArray,q7,List.replicate_append_replicate,List.drop_left' List.length_replicate]
  have hid:(c1.toList.take bp++List.replicate k (byteV x)++c1.toList.drop (bp+k)).toArray=c1:=by
   have e1:c1.toList.take bp=List.replicate bp (byteV x):=by
    have:c1.toList.take bp=(c1.toList.take (bp+k)).take bp:=zbA
    rw[this,ht1,List.take_replicate];congr 1;omega
   rw[e1,hd1]
   conv=>rhs;rw[hc1,q7]
  have hcs2:(c1.toList.take k)=List.replicate k (byteV x):=by
   have e1:c1.toList.take k=(c1.toList.take (bp+k)).take k:=zbA
   rw[e1,ht1,List.take_replicate];congr 1;omega
  let Q1:World->Prop:=fun w=>w.heap[g]?=some (.cells c1 5 (0,0))
  let P1:World->Prop:=fun w=>w.heap[g]?=some (.cells cur 5 (0,0))\/Q1 w
  let X:Rl:=⟨fun a b=>Below g a b/\(P1 a->P1 b)/\(Q1 a->Q1 b),fun a=>⟨Below.refl _ _,id,id⟩,fun h1 h2=>⟨Below.trans h1.1 h2.1,fun h=>h2.2.1 (h1.2.1 h),fun h=>h2.2.2 (h1.2.2 h)⟩,fun a=>⟨(Below.refl _ _).drew,id,id⟩⟩
  have hX:∀ a,X.r a a:=X.refl
  refine A1m X zaw 9 zaw ?_
  refine drX rfl (fun w_ he_=>G6 rfl ⟨hX _,rfl⟩) ?_
  refine drX rfl (fun w_ he_=>G6 rfl ⟨hX _,rfl⟩) ?_
  refine drX rfl (fun w_ he_=>G6 rfl ⟨hX _,rfl⟩) ?_
  refine drX (s:=.v (.slice (some ⟨g,bp,none⟩) (32-bp) (32-bp))) rfl (fun w_ he_=>Jl (w':=w_) (s:=.v (.slice (some ⟨g,bp,none⟩) (32-bp) (32-bp))) (fun ρ he=>?_) ⟨hX _,rfl⟩) ?_
  ·have e1:=he (.tmp 68) _ rfl
   have e2:=he (.tmp 69) _ rfl
   simp only[SV.den] at e1 e2
   have e3:=Hg (P:=Tryz.prog) (ty:=22) (x:=.tmp 68) (olo:=some (.tmp 69)) (ohi:=none) (omx:=none) (w:=w_) (l:=bp) (h:=32) (mx:=32) A9u e1 (sb0 (isS:=true) (lo:=(bp:Int)) (by exact⟨_,e2⟩) zaa zaa)
   rw[if_neg zaa] at e3
   simp only[SV.den]
   rw[show(some (Addr.mk g bp none))=(some (Addr.mk g 0 none)).map (·.add (bp*1)) by simp[Addr.add];omega]
   exact e3
  refine drX rfl (fun w_ he_=>G6 rfl ⟨hX _,rfl⟩) ?_
  refine drX rfl (fun w_ he_=>G6 rfl ⟨hX _,rfl⟩) ?_
  refine drX (s:=.v (.slice (some ⟨g,0,none⟩) bp 32)) rfl (fun w_ he_=>Jl (w':=w_) (s:=.v (.slice (some ⟨g,0,none⟩) bp 32)) (fun ρ he=>?_) ⟨hX _,rfl⟩) ?_
  ·have e1:=he (.tmp 71) _ rfl
   have e2:=he (.tmp 72) _ rfl
   simp only[SV.den] at e1 e2
   have e3:=Hg (P:=Tryz.prog) (ty:=22) (x:=.tmp 71) (olo:=none) (ohi:=some (.tmp 72)) (omx:=none) (w:=w_) (l:=0) (h:=bp) (mx:=32) A9u e1 (sb1 (isS:=true) (lo:=0) (hi:=(bp:Int)) rfl e2 zaa zaa zaa)
   rw[if_neg zaa] at e3
   simp only[SV.den]
   rw[show(some (Addr.mk g 0 none))=(some (Addr.mk g 0 none)).map (·.add (0*1)) by simp[Addr.add]]
   exact e3
  refine AE8 (fun v w=>v=.int .i64 (k:Int)/\Q1 w) (fun v a b h hx=>⟨h.1,hx.2.2 h.2⟩) rfl (fun w_ he_=>?_) ?_
  ·obtain⟨c,h1,h2,h3,h4⟩:∃ c:Array Value,w_.heap[g]?=some (.cells c 5 (0,0))/\(c.toList.take bp++List.replicate k (byteV x)++c.toList.drop (bp+k)).toArray=c1/\c.toList.take k=List.replicate k (byteV x)/\c.toList.length=cur.size:=by
    rcases he_.2.1 (.inl q5) with hc|hc
    ·exact⟨cur,hc,hc1.symm,hcs1,hcl⟩
    ·exact⟨c1,hc,hid,hcs2,hl1⟩
   have hlk:(List.replicate k (byteV x)).length=k:=List.length_replicate
   refine A3F (g:=g) (o:=bp) (n:=32-bp) (cap:=32-bp) (m:=bp) (k:=32) (a:=⟨g,0,none⟩) (cur:=c) (cs:=List.replicate k (byteV x)) rfl rfl h1 (by rw[hlk,hk]) (fun j v hj=>?_) (by rw[hlk,<-Array.length_toList,h4];omega) (fun v hv=>by rw[List.eq_of_mem_replicate hv];rfl) ?_
   ·rw[<-h3] at hj
    rw[List.getElem?_take] at hj
    split at hj
    ·rw[Array.getElem?_toList] at hj
     simp[World.cell?,Addr.add_lit,h1,hj]
    ·cases hj
   ·rw[hlk,h2]
    have hq:Q1 (w_.setRow g c1):=setRow_heap w_ g c c1 _ _ h1
    have hb:Below g w_ (w_.setRow g c1):=by
     have q:=GL w_ g c1
     have hgl:g<w_.heap.size:=(Array.getElem?_eq_some_iff.1 h1).1
     exact⟨q.os,q.tape,q.output,q.size,fun k hk=>q.block k zaa (by intro e;cases e;omega)⟩
    exact⟨⟨hb,fun _=>.inr hq,fun _=>hq⟩,rfl,hq⟩
  refine AE9 (s:=.v (.int .i64 ((bp+k:Nat):Int))) (fun w_ he_=>?_) ?_
  ·rintro v ⟨rfl,hq⟩
   exact A9K rfl rfl zaa ⟨hX _,by simp only[SV.den];congr 1⟩
  refine A3G (fun w_ he_=>?_)
  rintro v ⟨rfl,hq⟩
  repeat(first|(first|refine IZ ?_|refine Ep ?_|refine Ib ?_|refine Gi ?_|refine Gg ?_|refine FY ?_|refine Gh ?_|refine Ia ?_|refine Gj ?_|refine Gl ?_|refine Gm ?_|refine Gn ?_|refine Gp rfl ?_|refine Gq ?_)|(refine st ?_ rfl;(first|refine Iq rfl ?_ )))
  refine⟨bp+k,⟨rfl,rfl,rfl,rfl,trivial⟩,⟨by omega,by omega,q3,?_,c1,hq,?_,ht1⟩,by omega⟩
  ·exact Below.trans q4 (Below.mono he_.1 q3)
  ·rw[<-Array.length_toList,hl1];exact q6
 ·repeat(first|(first|refine IZ ?_|refine Ep ?_|refine Ib ?_|refine Gi ?_|refine Gg ?_|refine FY ?_|refine Gh ?_|refine Ia ?_|refine Gj ?_|refine Gl ?_|refine Gm ?_|refine Gn ?_|refine Gp rfl ?_|refine Gq ?_)|(refine st ?_ rfl;(first|refine G6 rfl ?_|refine Iq rfl ?_ )))
  refine A69 rfl ⟨g,rfl,?_⟩
  have:bp=32:=by
   have:¬(bp:Int)<32:=by simpa [WW] using h
   have:=hF.hi
   omega
  exact this▸hF
theorem PR{w:World}:∀(l:List UInt8),Ec (fun x c=>CR .u8 x c w) l (l.map fun x=>[byteV x])
 | []=>trivial
 | x::l=>⟨by simp only[CR],PR l⟩
theorem aP{α β:Type}(f:α->β):∀(l:List α),(l.map fun x=>[f x]).flatten=l.map f
 | []=>rfl
 | x::l=>by rw[List.map_cons,List.flatten_cons,aP f l];rfl
theorem A3H(x:UInt8):ZY Tryz.prog I0 329 [.sl .u8 [x],.i 32] [] (.sl .u8 (List.replicate 32 x)) []:=by
 intro ν O w args hG hR hP
 simp only[Af,Rep] at hR
 obtain⟨v,_,rfl,hv,_,_,rfl,rfl,rfl⟩:=hR
 have hvb:Bytes w v [x]:=by
  obtain⟨cs,h1,h2⟩:=hv w (Stp.refl _ _)
  cases cs with
  | nil=>exact h1.elim
  | cons c cs =>
   obtain⟨h3,h4⟩:=h1
   cases cs with
   | cons _ _=>exact h4.elim
   | nil =>
    simp only[CR] at h3
    subst h3
    exact h2
 refine zW.mono (A0Q w (hG.inv _ (Stp.refl _ _)) v x hvb) ?_
 rintro r w' ⟨g,rfl,q1,q2,q3,q4,cur,q5,q6,q7⟩
 refine⟨ν,fun _ _=>rfl,?_,fun k R hk=>(by cases hk),fun k k' R R' b hk=>(by cases hk),Stp.of_ext q4 _⟩
 simp only[Rep]
 intro w'' hs
 have hgl:g<w'.heap.size:=(Array.getElem?_eq_some_iff.1 q5).1
 have hnot:¬((O g/\¬ER ν (Lj 0 []) g)\/ER ν (Gu id 0 []) g):=by
  rintro(h|⟨k,R,hk,_⟩)
  ·have:=hG.lt g h.1
   simp only at *;omega
  ·exact UE hk
 have h5:w''.heap[g]?=some (.cells cur 5 (0,0)):=by rw[hs.block g hgl hnot];exact q5
 refine⟨(List.replicate 32 x).map fun x=>[byteV x],PR _,?_⟩
 rw[aP]
 refine⟨some ⟨g,0,none⟩,32,by rw[List.length_replicate],by simp;rfl,by simp,by simp[maxLen],(fun h=>by cases h),fun p hp=>?_⟩
 obtain rfl:=Option.some.inj hp
 intro j u hu
 rw[List.map_replicate,<-q7,List.getElem?_take] at hu
 split at hu
 ·rw[Array.getElem?_toList] at hu
  simp[World.cell?,Addr.add_lit,h5,hu]
 ·cases hu
noncomputable def ovR:Orc:=fun q=>match q with
 | .call f args H=>bif Nat.beq f 329 then(match args,H with
   | [.sl .u8 [x],.i (.ofNat 32)],[]=>some (.ret (.sl .u8 (List.replicate 32 x)) [])
   | _,_=>none)
  else ovC (.call f args H)
 | .loop _ _ _ _ _ _=>none
theorem A9x{E:Env}:∀ q r,ovR q=some r->A6c Tryz.prog I0 E q r:=by
 intro q r h
 cases q with
 | loop f k n0 m L H=>cases h
 | call f args H =>
  simp only[ovR] at h
  cases hb:Nat.beq f 329 with
  | false=>rw[hb,cond_false] at h;exact A9t _ _ h
  | true =>
   obtain rfl:=Nat.eq_of_beq_eq_true hb
   rw[hb,cond_true] at h
   split at h
   ·obtain rfl:=Option.some.inj h
    exact A3H _
   ·cases h
end
noncomputable def E0:Env:=⟨TT0,FT0,CT0,ovR,[180,268]⟩
theorem e0:EnvOK Tryz.prog I0 E0:=⟨tg0,ft0,ct0.get,by kernel_rfl,A9x⟩
theorem AEB{f:Nat}{args:List AV}{H:List Rs}{r:Rsp}(h:E0.ov (.call f args H)=some r):Y E0 (.call f args H)=some r:=by
 rw[Y.eq_1];simp only[CZ];rw[h]
theorem A9y(l:List (El objT))(hl:l.length<=4294967296):Y E0 (.call 229 [.sl objT l] [])=some (.ret (.nm 0) [some (.row 140 objT l)]) :=
 AEB (by show(bif fits l 32768 then _ else _)=_;rw[show fits l 32768=true from Dk zaa];rfl)
end Go.Proofs.YtlpkjhhfhannpaaGreatDoor
namespace Go.Proofs.YtlpkjhhfhannpaaGreatDoor
open Go
variable (P:Program)(X:List (List Char))
def iniH:List Char:=([104,97,114,110,101,115,115]:List Nat).map Char.ofNat
def iniS:List Char:=([99,102,97,51,48,102,101,53,49,54,49,98,97,53,51,98,55,99,97,55,97,51,98,56,100,99,99,48,97,54,100,98,101,99,56,98,102,57,48,52,57,101,102,49,97,52,99,102,101,53,53,101,51,97,56,56,102,97,53,57,50,48,49,98]:List Nat).map Char.ofNat
def iniC:List Char:=([99,117,116]:List Nat).map Char.ofNat
def iniR:List Char:=([97,116,32,115,101,97,108,119,114,105,103,104,116,47,115,101,97,108,119,114,105,103,104,116,116,111,112,46,84,111,112,66,121,116,101,115]:List Nat).map Char.ofNat
def iniB:Char:=Char.ofNat 32
def iniL:List Char:=iniH++iniB::(iniS++iniB::(iniC++iniB::iniR))
theorem AEC:Tryz.prog.initOrder=String.ofList iniL:=zaw
theorem Qg:∀(w r:List Char),(w.all fun c=>c != iniB)=true->wordsSigns (w++iniB::r)=w::wordsSigns r
 | [],r,_=>rfl
 | c::w,r,h=>by
  rw[List.all_cons,Bool.and_eq_true] at h
  have ih:=Qg w r h.2
  rw[List.cons_append]
  have hc:c≠iniB:=by intro e;rw[e] at h;exact absurd h.1 zaj
  generalize wordsSigns r=g at ih ⊢
  unfold wordsSigns
  split
  ·rename_i h1;cases h1
  ·rename_i h1;cases h1;exact absurd rfl hc
  ·rename_i h1;cases h1;rw[ih]
theorem ABX:wordsSigns Tryz.prog.initOrder.toList=iniH::iniS::iniC::wordsSigns iniR:=by
 rw[AEC,String.toList_ofList,iniL,Qg _ _ zaQ,Qg _ _ zaQ,Qg _ _ zaQ]
theorem tl{s:String}(l:List Char)(h:s=String.ofList l):s.toList=l:=by rw[h];exact String.toList_ofList
theorem A9z: "gc".toList=(([103,99]:List Nat).map Char.ofNat):=tl _ zaw
theorem A3L: "spec".toList=(([115,112,101,99]:List Nat).map Char.ofNat):=tl _ zaw
theorem A3M: "carried".toList=(([99,97,114,114,105,101,100]:List Nat).map Char.ofNat):=tl _ zaw
theorem tlCut: "cut".toList=iniC:=tl _ zaw
theorem A8e: "harness".toList=iniH:=tl _ zaw
theorem ABY: "finals".toList=(([102,105,110,97,108,115]:List Nat).map Char.ofNat):=tl _ zaw
theorem AED: "reflectrows".toList=(([114,101,102,108,101,99,116,114,111,119,115]:List Nat).map Char.ofNat):=tl _ zaw
theorem AEE: "leanrows".toList=(([108,101,97,110,114,111,119,115]:List Nat).map Char.ofNat):=tl _ zaw
theorem AEF: "onebuild".toList=(([111,110,101,98,117,105,108,100]:List Nat).map Char.ofNat):=tl _ zaw
theorem AEG: "publicsums".toList=(([112,117,98,108,105,99,115,117,109,115]:List Nat).map Char.ofNat):=tl _ zaw
theorem AEH: "eqguard".toList=(([101,113,103,117,97,114,100]:List Nat).map Char.ofNat):=tl _ zaw
theorem AEI: "ownunsafe".toList=(([111,119,110,117,110,115,97,102,101]:List Nat).map Char.ofNat):=tl _ zaw
theorem AEJ: "libbeside".toList=(([108,105,98,98,101,115,105,100,101]:List Nat).map Char.ofNat):=tl _ zaw
theorem AEK: "ownbeside".toList=(([111,119,110,98,101,115,105,100,101]:List Nat).map Char.ofNat):=tl _ zaw
theorem AEL: "reflbeside".toList=(([114,101,102,108,98,101,115,105,100,101]:List Nat).map Char.ofNat):=tl _ zaw
theorem ABZ: "aliases".toList=(([97,108,105,97,115,101,115]:List Nat).map Char.ofNat):=tl _ zaw
theorem ABa: "afterinit".toList=(([97,102,116,101,114,105,110,105,116]:List Nat).map Char.ofNat):=tl _ zaw
theorem ABb: "crcplain".toList=(([99,114,99,112,108,97,105,110]:List Nat).map Char.ofNat):=tl _ zaw
theorem ABc: "roadunsafe".toList=(([114,111,97,100,117,110,115,97,102,101]:List Nat).map Char.ofNat):=tl _ zaw
theorem ABd: "fmthandon".toList=(([102,109,116,104,97,110,100,111,110]:List Nat).map Char.ofNat):=tl _ zaw
theorem GN(o:String)(os:List String)(l w:List Char)(ws:List (List Char))(h:o.toList=l)(hw:(w==l)=false):stripLifts (o::os) (w::ws)=stripLifts os (w::ws):=by
 rw[stripLifts,h,hw,if_neg zaj]
theorem A8f:stripLifts liftWords (iniC::X)=([],iniC::X):=by
 unfold liftWords
 rw[GN _ _ _ _ _ ABY zaQ]
 rw[GN _ _ _ _ _ AED zaQ]
 rw[GN _ _ _ _ _ AEE zaQ]
 rw[GN _ _ _ _ _ AEF zaQ]
 rw[GN _ _ _ _ _ AEG zaQ]
 rw[GN _ _ _ _ _ AEH zaQ]
 rw[GN _ _ _ _ _ AEI zaQ]
 rw[GN _ _ _ _ _ AEJ zaQ]
 rw[GN _ _ _ _ _ AEK zaQ]
 rw[GN _ _ _ _ _ AEL zaQ]
 rw[GN _ _ _ _ _ ABZ zaQ]
 rw[GN _ _ _ _ _ ABa zaQ]
 rw[GN _ _ _ _ _ ABb zaQ]
 rw[GN _ _ _ _ _ ABc zaQ]
 rw[GN _ _ _ _ _ ABd zaQ]
 rfl
theorem ABe:behindMainWord (iniH::iniS::iniC::X)=iniC::X:=by
 unfold behindMainWord;rw[A8e];kernel_rfl
theorem A3N:behindMainWord (wordsSigns Tryz.prog.initOrder.toList)=iniC::wordsSigns iniR:=by rw[ABX,ABe]
theorem A8g(h:behindMainWord (wordsSigns P.initOrder.toList)=iniC::X):P.headLifts=[]:=by
 unfold Program.headLifts
 simp only[h,A8f,tlCut]
 rfl
theorem ABf(h:behindMainWord (wordsSigns P.initOrder.toList)=iniC::X)(h1:P.laysLater=false)(h2:P.bearsReflect=false)(h3:P.doorFits []=true):P.mayEnter=true:=by
 unfold Program.mayEnter
 simp only[h,A8f,tlCut,A9z,A3L,A3M,h1,h2,h3]
 rfl
theorem AA0(h:behindMainWord (wordsSigns P.initOrder.toList)=iniC::X):P.make=some .cut:=by
 unfold Program.make
 simp only[h,A8g P X h,tlCut,A9z,A3L,A3M,ABY]
 rw[if_neg zaQ,if_pos (by rw[show(iniC==iniC)=true from by decide +kernel];rfl)]
theorem ABg(h:behindMainWord (wordsSigns P.initOrder.toList)=iniC::X):P.liftsFinal=false:=by
 unfold Program.liftsFinal
 simp only[h,A8g P X h,tlCut,A9z,A3M]
 rfl
theorem ABh: "cfa30fe5161ba53b7ca7a3b8dcc0a6dbec8bf9049ef1a4cfe55e3a88fa59201b".toList=iniS:=tl _ zaw
theorem AA1(h:wordsSigns P.initOrder.toList=iniH::iniS::X):P.mainIs=some (true,iniS):=by
 unfold Program.mainIs
 simp only[h,A8e]
 rw[if_neg (by rw[show isSumSigns iniS=true from by decide +kernel];decide),if_pos zaQ]
theorem AEM:Tryz.prog.mainIs=some (true, "cfa30fe5161ba53b7ca7a3b8dcc0a6dbec8bf9049ef1a4cfe55e3a88fa59201b".toList):=by rw[ABh];exact AA1 _ _ ABX
theorem AEN:Tryz.prog.mayEnter=true:=ABf _ _ A3N zaw zaw zaw
theorem AEO:Tryz.prog.liftsFinal=false:=ABg _ _ A3N
theorem AEP:Tryz.prog.make=some .cut:=AA0 _ _ A3N
end Go.Proofs.YtlpkjhhfhannpaaGreatDoor
namespace Go.Proofs.YtlpkjhhfhannpaaGreatDoor
open Go Go.Ax Go.Eng
attribute [local irreducible] CS Cj CP CW CQ BC Cm ED ES Dx EG CJ Bi Ce CX and' Cf CU BL Au BI BP BR Ag Ai AY Ae D5 EJ D6 DX Cb BZ BQ BM BO BJ AZ BK Aj Ak Ap D7 BB CV BU BF CO D8 Cc fits D9 Ci AC AQ Ah
variable (ws:List UInt32)(x:UInt32)
theorem J6(k:Int)(s:Nat)(h0:0<s/\s<32)(hk:(BI .and (BZ k) (UInt64.ofNat 31)).toNat=s):Y E0 (.call 328 [.u32 x,.i k] [])=some (.ret (.u32 (zi x s)) []):=by
 refine Bl ?_
 exact congrArg (fun q=>some (Rsp.ret (.u32 q) [])) (A9k x s h0 hk)
theorem A70:Y E0 (.call 328 [.u32 x,.i (-7)] [])=some (.ret (.u32 (Oq x 7)) []):=(J6 x (-7) 25 zaj za5).trans (by rw[KX x 25 7 rfl])
theorem A3O:Y E0 (.call 328 [.u32 x,.i (-18)] [])=some (.ret (.u32 (Oq x 18)) []):=(J6 x (-18) 14 zaj za5).trans (by rw[KX x 14 18 rfl])
theorem A3P:Y E0 (.call 328 [.u32 x,.i (-17)] [])=some (.ret (.u32 (Oq x 17)) []):=(J6 x (-17) 15 zaj za5).trans (by rw[KX x 15 17 rfl])
theorem A3Q:Y E0 (.call 328 [.u32 x,.i (-19)] [])=some (.ret (.u32 (Oq x 19)) []):=(J6 x (-19) 13 zaj za5).trans (by rw[KX x 13 19 rfl])
theorem A71:Y E0 (.call 328 [.u32 x,.i (-6)] [])=some (.ret (.u32 (Oq x 6)) []):=(J6 x (-6) 26 zaj za5).trans (by rw[KX x 26 6 rfl])
theorem A3R:Y E0 (.call 328 [.u32 x,.i (-11)] [])=some (.ret (.u32 (Oq x 11)) []):=(J6 x (-11) 21 zaj za5).trans (by rw[KX x 21 11 rfl])
theorem A3S:Y E0 (.call 328 [.u32 x,.i (-25)] [])=some (.ret (.u32 (Oq x 25)) []):=(J6 x (-25) 7 zaj za5).trans (by rw[KX x 7 25 rfl])
theorem A72:Y E0 (.call 328 [.u32 x,.i (-2)] [])=some (.ret (.u32 (Oq x 2)) []):=(J6 x (-2) 30 zaj za5).trans (by rw[KX x 30 2 rfl])
theorem A3T:Y E0 (.call 328 [.u32 x,.i (-13)] [])=some (.ret (.u32 (Oq x 13)) []):=(J6 x (-13) 19 zaj za5).trans (by rw[KX x 19 13 rfl])
theorem A3U:Y E0 (.call 328 [.u32 x,.i (-22)] [])=some (.ret (.u32 (Oq x 22)) []):=(J6 x (-22) 10 zaj za5).trans (by rw[KX x 10 22 rfl])
theorem A73:Y E0 (.call 328 [.u32 x,.i 1] [])=some (.ret (.u32 (zi x 1)) []):=J6 x 1 1 zaj za5
theorem A74:Y E0 (.call 328 [.u32 x,.i 5] [])=some (.ret (.u32 (zi x 5)) []):=J6 x 5 5 zaj za5
theorem A3V:Y E0 (.call 328 [.u32 x,.i 30] [])=some (.ret (.u32 (zi x 30)) []):=J6 x 30 30 zaj za5
theorem KY(k:UInt64)(s:Nat)(h0:0<s/\s<32)(hk:k.toNat=s):Y E0 (.call 145 [.u32 x,.u64 k] [])=some (.ret (.u32 (Oq x s)) []):=by
 refine Bl ?_
 exact congrArg (fun q=>some (Rsp.ret (.u32 q) [])) (A9l x s h0 hk)
theorem AA2:Y E0 (.call 145 [.u32 x,.u64 (UInt64.ofNat 7)] [])=some (.ret (.u32 (Oq x 7)) []):=KY x _ 7 zaj rfl
theorem A75:Y E0 (.call 145 [.u32 x,.u64 (UInt64.ofNat 18)] [])=some (.ret (.u32 (Oq x 18)) []):=KY x _ 18 zaj rfl
theorem A76:Y E0 (.call 145 [.u32 x,.u64 (UInt64.ofNat 17)] [])=some (.ret (.u32 (Oq x 17)) []):=KY x _ 17 zaj rfl
theorem A77:Y E0 (.call 145 [.u32 x,.u64 (UInt64.ofNat 19)] [])=some (.ret (.u32 (Oq x 19)) []):=KY x _ 19 zaj rfl
theorem AA3:Y E0 (.call 145 [.u32 x,.u64 (UInt64.ofNat 6)] [])=some (.ret (.u32 (Oq x 6)) []):=KY x _ 6 zaj rfl
theorem A78:Y E0 (.call 145 [.u32 x,.u64 (UInt64.ofNat 11)] [])=some (.ret (.u32 (Oq x 11)) []):=KY x _ 11 zaj rfl
theorem A79:Y E0 (.call 145 [.u32 x,.u64 (UInt64.ofNat 25)] [])=some (.ret (.u32 (Oq x 25)) []):=KY x _ 25 zaj rfl
theorem AA4:Y E0 (.call 145 [.u32 x,.u64 (UInt64.ofNat 2)] [])=some (.ret (.u32 (Oq x 2)) []):=KY x _ 2 zaj rfl
theorem A7A:Y E0 (.call 145 [.u32 x,.u64 (UInt64.ofNat 13)] [])=some (.ret (.u32 (Oq x 13)) []):=KY x _ 13 zaj rfl
theorem A7B:Y E0 (.call 145 [.u32 x,.u64 (UInt64.ofNat 22)] [])=some (.ret (.u32 (Oq x 22)) []):=KY x _ 22 zaj rfl
theorem yM(l:List UInt8)(i:Nat)(h:4*i+3<l.length)(hl:l.length<=4294967296):Y E0 (.call 327 [.sl .u8 l,.i (i:Int)] [])=some (.ret (.u32 (be32 l (4*i))) []):=by
 refine Bl ?_
 rw[Bv zaa]
 conv=>lhs;whnf
 refine Bl ?_
 rw[Bv zaa]
 conv=>lhs;whnf
 refine Bl ?_
 rw[Bv zaa]
 conv=>lhs;whnf
 refine Bl ?_
 rw[Bv zaa]
 conv=>lhs;whnf
 refine Bl ?_
 exact congrArg (fun q=>some (Rsp.ret (.u32 q) [])) (yF l (4*i) (List.getElem?_eq_some_iff.2 ⟨by omega,getElem_congr_idx zaa⟩) (List.getElem?_eq_some_iff.2 ⟨by omega,getElem_congr_idx zaa⟩) (List.getElem?_eq_some_iff.2 ⟨by omega,getElem_congr_idx zaa⟩) (List.getElem?_eq_some_iff.2 ⟨by omega,getElem_congr_idx zaa⟩))
theorem A3W(l:List UInt8)(i:Nat)(h:4*i+3<l.length)(hl:l.length<=4294967296):Y E0 (.call 144 [.sl .u8 l,.i (i:Int)] [])=some (.ret (.u32 (be32 l (4*i))) []):=by
 refine Bl ?_
 rw[Bv zaa]
 conv=>lhs;whnf
 refine Bl ?_
 rw[Bv zaa]
 conv=>lhs;whnf
 refine Bl ?_
 rw[Bv zaa]
 conv=>lhs;whnf
 refine Bl ?_
 rw[Bv zaa]
 conv=>lhs;whnf
 refine Bl ?_
 exact congrArg (fun q=>some (Rsp.ret (.u32 q) [])) (yF l (4*i) (List.getElem?_eq_some_iff.2 ⟨by omega,getElem_congr_idx zaa⟩) (List.getElem?_eq_some_iff.2 ⟨by omega,getElem_congr_idx zaa⟩) (List.getElem?_eq_some_iff.2 ⟨by omega,getElem_congr_idx zaa⟩) (List.getElem?_eq_some_iff.2 ⟨by omega,getElem_congr_idx zaa⟩))
theorem A3X:Y E0 (.call 142 [] [])=some (.ret (.agg ((List.range 64).map fun i=>AV.u32 (JP.getD i 0))) []):=by
 rw[AL];kernel_rfl
section
attribute [local irreducible] G8 JP Hz
theorem yO(ws:List UInt32)(hw:ws.length=64)(h0 h1 h2 h3 h4 h5 h6 h7:UInt32):∀(k t:Nat) (a0 a1 a2 a3 a4 a5 a6 a7:UInt32),t+k=64->Y E0 (.loop 285 1 1 3 [(0,AV.pa 0 0),(4,AV.pa 1 0),(10,AV.pa 2 0),(70,AV.i t)] [(0,some (.var [.u32 h0,.u32 h1,.u32 h2,.u32 h3,.u32 h4,.u32 h5,.u32 h6,.u32 h7])),(1,some (Rs.var (G8 ws))),(2,some (.var [.u32 a0,.u32 a1,.u32 a2,.u32 a3,.u32 a4,.u32 a5,.u32 a6,.u32 a7]))])=some (.fin (.exit 2) 2 [(0,AV.pa 0 0),(10,AV.pa 1 0)] [(0,some (.var [.u32 h0,.u32 h1,.u32 h2,.u32 h3,.u32 h4,.u32 h5,.u32 h6,.u32 h7])),(1,some (Rs.var (G8 (Hz ws k t [a0,a1,a2,a3,a4,a5,a6,a7]))))])
 | 0,t,a0,a1,a2,a3,a4,a5,a6,a7,hk=>by
  rw[AL];conv=>lhs;whnf
  refine Bl ?_
  unfold Hz G8;rfl
 | k+1,t,a0,a1,a2,a3,a4,a5,a6,a7,hk=>by
  have ih:=fun s0 s1 s2 s3 s4 s5 s6 s7=>yO ws hw h0 h1 h2 h3 h4 h5 h6 h7 k (t+1) s0 s1 s2 s3 s4 s5 s6 s7 zaa
  rw[AL];conv=>lhs;whnf
  refine Bl ?_
  rw[A71 _]
  refine Bl ?_
  rw[A3R _]
  refine Bl ?_
  rw[A3S _]
  conv=>lhs;whnf
  try dsimp -iota -beta -eta -zeta only
  rw[Fb zaa]
  conv=>lhs;whnf
  rw[Dl zaa]
  conv=>lhs;whnf
  try dsimp -iota -beta -eta -zeta only
  rw[Fb zaa]
  conv=>lhs;whnf
  rw[Dl zaa]
  conv=>lhs;whnf
  rw[A3Z zaa]
  refine Bl ?_
  rw[ET zaa]
  refine Bl ?_
  rw[A72 _]
  refine Bl ?_
  rw[A3T _]
  refine Bl ?_
  rw[A3U _]
  refine Bl ?_
  ((conv in(close _ _ _ _)=>skip);rw[E5 hw])
  refine Bl ?_
  rw[show((t:Int)+1)=((t+1:Nat):Int) from by omega];refine((congrArg (Y E0) zbF).trans (ih _ _ _ _ _ _ _ _)).trans ?_;simp only[KU,Jd,MC,show 0+(t:Int).toNat*1=t from by omega];rw[show Hz ws (k+1) t [a0,a1,a2,a3,a4,a5,a6,a7]=Hz ws k (t+1) (eP (JP.getD t 0) (ws.getD t 0) [a0,a1,a2,a3,a4,a5,a6,a7]) from by rw[Hz]];rfl
end
section
attribute [local irreducible] G8 F7 WY
theorem ABi(hw:ws.length=80)(h0 h1 h2 h3 h4:UInt32){G:S5->Option Rsp}(t:Nat)(a b c d e f q:UInt32)(ht:t<80)(hr:∀ s:S5,Y E0 (.loop 283 1 1 2 [(0,.pa 0 0),(4,.pa 1 0),(6,.u32 s.a),(7,.u32 s.b),(8,.u32 s.c),(9,.u32 s.d),(10,.u32 s.e),(67,.i (t+1:Nat))] [(0,some (.var [.u32 h0,.u32 h1,.u32 h2,.u32 h3,.u32 h4])),(1,some (.var (G8 ws)))])=G s)(hf:f=f1 t b c d)(hq:q=k1 t):Y E0 (.drw ⟨165,283,1⟩ [true,true,true,false,true,false,false,true,true,false,false,true,true,true] 0 [] [.blk 3,.seq [true,true,true,false,true,false,false,true,true,true] 2,.lup 1] 2 [(0,.pa 0 0),(4,.pa 1 0),(6,.u32 a),(7,.u32 b),(8,.u32 c),(9,.u32 d),(10,.u32 e),(11,.i t),(12,.u32 f),(13,.u32 q),(67,.i t)] [(0,some (.var [.u32 h0,.u32 h1,.u32 h2,.u32 h3,.u32 h4])),(1,some (.var (G8 ws)))])=G (WY t (ws.getD t 0) ⟨a,b,c,d,e⟩):=by
 rw[A7E t _ a b c d e f q hf hq]
 rw[AL];conv=>lhs;whnf
 refine Bl ?_
 rw[A74 _]
 refine Bl ?_
 rw[ET zaa]
 refine Bl ?_
 rw[A3V _]
 refine Bl ?_
 ((conv in(close _ _ _ _)=>skip);rw[E5 hw])
 refine Bl ?_
 rw[show((t:Int)+1)=((t+1:Nat):Int) from by omega];simp only[KU,show 0+(t:Int).toNat*1=t from by omega];exact(congrArg (Y E0) zbF).trans (hr ⟨_,_,_,_,_⟩)
theorem A8j(ws:List UInt32)(hw:ws.length=80)(h0 h1 h2 h3 h4:UInt32):∀(k t:Nat) (s:S5),t+k=80->Y E0 (.loop 283 1 1 2 [(0,.pa 0 0),(4,.pa 1 0),(6,.u32 s.a),(7,.u32 s.b),(8,.u32 s.c),(9,.u32 s.d),(10,.u32 s.e),(67,.i t)] [(0,some (.var [.u32 h0,.u32 h1,.u32 h2,.u32 h3,.u32 h4])),(1,some (.var (G8 ws)))])=some (.fin (.exit 2) 1 [(0,.pa 0 0),(6,.u32 (F7 ws k t s).a),(7,.u32 (F7 ws k t s).b),(8,.u32 (F7 ws k t s).c),(9,.u32 (F7 ws k t s).d),(10,.u32 (F7 ws k t s).e)] [(0,some (.var [.u32 h0,.u32 h1,.u32 h2,.u32 h3,.u32 h4]))])
 | 0,t,s,hk=>by
  rw[AL];conv=>lhs;whnf
  refine Bl ?_
  unfold F7;rfl
 | k+1,t,⟨a,b,c,d,e⟩,hk=>by
  have ih:=fun f q=>ABi ws hw h0 h1 h2 h3 h4 t a b c d e f q zaa (fun s=>A8j ws hw h0 h1 h2 h3 h4 k (t+1) s zaa)
  rw[show F7 ws (k+1) t ⟨a,b,c,d,e⟩=F7 ws k (t+1) (WY t (ws.getD t 0) ⟨a,b,c,d,e⟩) from by rw[F7]]
  rw[AL];conv=>lhs;whnf
  refine Bl ?_
  rcases Ar (↑t/20) 0 with hc0|hc0
  ·
   refine Bl ?_
   ((conv in(close _ _ _ _)=>skip);rw[E5 hw])
   conv=>lhs;whnf
   exact(congrArg (Y E0) zbF).trans (ih _ _ zaE zaC)
  refine Bl ?_
  rcases Ar (↑t/20) 1 with hc1|hc1
  ·
   refine Bl ?_
   ((conv in(close _ _ _ _)=>skip);rw[E5 hw])
   conv=>lhs;whnf
   exact(congrArg (Y E0) zbF).trans (ih _ _ zaE zaC)
  refine Bl ?_
  rcases Ar (↑t/20) 2 with hc2|hc2
  ·
   refine Bl ?_
   ((conv in(close _ _ _ _)=>skip);rw[E5 hw])
   conv=>lhs;whnf
   exact(congrArg (Y E0) zbF).trans (ih _ _ zaE zaC)
  refine Bl ?_
  ((conv in(close _ _ _ _)=>skip);rw[E5 hw])
  conv=>lhs;whnf
  exact(congrArg (Y E0) zbF).trans (ih _ _ zaE zaC)
end
section
attribute [local irreducible] wb IM
theorem WF(ws:List UInt32)(h:ws.length<=1000):∀(k j:Nat) (acc:List UInt8),j+k=ws.length->acc.length<=4*j->Y E0 (.loop 284 0 0 1 [(3,.nm 0),(10,.sl .u32 ws),(11,.i (Ak ws)),(12,.i j)] [(0,some (.row 5 .u8 acc))])=some (.fin (.exit 0) 0 [(3,.sl .u8 (acc++IM (ws.drop j)))] [])
 | 0,j,acc,hj,ha=>by
  rw[AL];conv=>lhs;whnf
  refine Bl ?_
  rw[List.drop_of_length_le zaa];unfold IM;simp
 | k+1,j,acc,hj,ha=>by
  have ih:=WF ws h k (j+1) (BF acc (wb (ws.getD j 0))) zaa (by rw[Ac,List.length_append];unfold wb;simp;omega)
  rw[AL];conv=>lhs;whnf
  refine toA ?_
  rw[Pn zaa]
  refine Bl ?_
  refine(congrArg (Y E0) zbo).trans (ih.trans (by rw[UF (j:=j) zaa,Ac,List.append_assoc]))
theorem aS(h:ws.length<=1000)(h0:0<ws.length):Y E0 (.call 284 [.sl .u32 ws] [])=some (.ret (.sl .u8 (IM ws)) []):=by
 have e:=WF ws h ws.length 0 [] zaa zat
 refine Bl ?_
 (erw[e])
 refine Bl ?_
 rfl
theorem YZ(ws:List UInt32)(h:ws.length<=1000):∀(k j:Nat) (acc:List UInt8),j+k=ws.length->acc.length<=4*j->Y E0 (.loop 146 0 0 1 [(0,.sl .u32 ws),(3,.nm 0),(4,.i j)] [(0,some (.row 5 .u8 acc))])=some (.fin (.exit 0) 0 [(3,.sl .u8 (acc++IM (ws.drop j)))] [])
 | 0,j,acc,hj,ha=>by
  rw[AL];conv=>lhs;whnf
  refine Bl ?_
  rw[List.drop_of_length_le zaa];unfold IM;simp
 | k+1,j,acc,hj,ha=>by
  have ih:=YZ ws h k (j+1) (BF acc (wb (ws.getD j 0))) zaa (by rw[Ac,List.length_append];unfold wb;simp;omega)
  rw[AL];conv=>lhs;whnf
  refine toA ?_
  rw[Pn zaa]
  refine toA ?_
  rw[Pn zaa]
  refine toA ?_
  rw[Pn zaa]
  refine toA ?_
  rw[Pn zaa]
  refine Bl ?_
  refine(congrArg (Y E0) zbo).trans (ih.trans (by rw[UF (j:=j) zaa,Ac,List.append_assoc]))
theorem A3b(h:ws.length<=1000):Y E0 (.call 146 [.sl .u32 ws] [])=some (.ret (.sl .u8 (IM ws)) []):=by
 have e:=YZ ws h ws.length 0 [] zaa zat
 refine Bl ?_
 (erw[e])
 refine Bl ?_
 rfl
end
end Go.Proofs.YtlpkjhhfhannpaaGreatDoor
namespace Go.Proofs.YtlpkjhhfhannpaaGreatDoor
open Go Go.Ax
attribute [local irreducible] CS Cj CP CW CQ BC Cm ED ES Dx EG CJ Bi Ce CX and' Cf CU BL Au BI BP BR Ag Ai AY Ae D5 EJ D6 DX Cb BZ BQ BM BO BJ AZ BK Aj Ak Ap D7 BB CV BU BF CO D8 Cc fits D9 Ci AC AQ Ah
variable (b:List UInt8)(p:Nat)(e n:Int)
theorem UH(n:Int):∀(k:Nat) (i:Int) (acc:List UInt8),i=(k:Int)-1->k<=8->acc.length+k<=5000000000 ->
  Y E0 (.loop 100 0 0 1 [(2,.i n),(7,.nm 0),(8,.i i)] [(0,some (.row 5 .u8 acc))])=some (.fin (.exit 0) 1 [(7,.nm 0)] [(0,some (.row 5 .u8 (acc++Sm k (UInt64.ofInt n))))])
 | 0,i,acc,hi,_,_=>by
  rw[AL];conv=>lhs;whnf
  refine Bl ?_
  simp[Sm]
 | k+1,i,acc,hi,hk,hl=>by
  rw[AL];conv=>lhs;whnf
  rw[Fb zaa]
  conv=>lhs;whnf
  rw[JL zaa]
  rw[Dk zaF]
  conv=>lhs;whnf
  try dsimp -iota -beta -eta -zeta only
  rw[DV zaa]
  rw[UH n k _ _ zac zac zac]
  refine Bl ?_
  simp only[Ac,U4,JM,Sm,List.append_assoc,List.cons_append,List.nil_append];rw[MB zaa,Qb zaa,show(8*i).toNat=8*k from by omega]
theorem Dy(size n:Int)(hb:b.length<=4294967296):Y E0 (.call 100 [.sl .u8 b,.i size,.i n] [])=some (.ret (.nm 0) [some (.row 5 .u8 (Bg b size n))]):=by
 refine Bl ?_
 rcases Bc size 1 with hc0|hc0
 ·
  refine Bl ?_
  exact zao
 refine Bl ?_
 rcases Bc 8 size with hc1|hc1
 ·
  refine Bl ?_
  exact zao
 refine Bl ?_
 rw[UH n size.toNat _ _ zac zac zac]
 refine Bl ?_
 exact zao
theorem G9(x:List UInt8)(hb:b.length<=4294900000):Y E0 (.call 103 [.sl .u8 b,.sl .u8 x] [])=some (.ret (.nm 0) [some (.row 5 .u8 (Hy b x))]):=by
 have hx:CV x 0 (min (Ak x) 65535)=some (x.take 65535):=by
  rw[LK (by rw[AP];omega)]
  congr 1
  simp only[AP,Int.toNat_zero,List.drop_zero]
  rw[List.take_eq_take_iff];omega
 have h2:(x.take 65535).length<=65535:=zaX
 have:=aK b 2 (Ak (x.take 65535))
 refine Bl ?_
 rw[hx]
 refine Bl ?_
 rw[Dy _ _ _ DJ]
 conv=>lhs;whnf
 rw[Dk zaF]
 conv=>lhs;whnf
 rw[Ac,Hy,AP]
theorem LW(hb:b.length<=4294967296):Y E0 (.call 129 [.sl .u8 b] [])=some (.ret (.pa 0 0) [some (.var [.sl .u8 b,.i 0,.i 0])]):=by
 exact Bl rfl
theorem J8(p e f:Int):Y E0 (.call 176 [.pa 0 0,.i f] [.var [.sl .u8 b,.i p,.i e]])=some (.ret (.tup []) [some (.var [.sl .u8 b,.i p,.i f])]):=by
 exact Bl rfl
theorem Qi(p n:Int)(q e:Int)(hb:b.length<=4294967296)(hp:0<=p/\p<=b.length)(hn:0<=n)(h:b.length<p+n):Y E0 (.call 177 [.pa 0 0,.i p,.i n] [.var [.sl .u8 b,.i q,.i e]])=some (.ret (.tup [.sl .u8 [],.i 2]) [some (.var [.sl .u8 b,.i q,.i e])]):=by
 rw[AL]
 conv=>lhs;whnf
 rw[DV zaF]
 rw[Dl zaF]
 conv=>lhs;whnf
theorem Qj(p n:Int)(q e:Int)(hb:b.length<=4294967296)(hp:0<=p/\p<=b.length)(hn:0<=n)(h:¬b.length<p+n):Y E0 (.call 177 [.pa 0 0,.i p,.i n] [.var [.sl .u8 b,.i q,.i e]])=some (.ret (.tup [.sl .u8 ((b.drop p.toNat).take n.toNat),.i 0]) [some (.var [.sl .u8 b,.i q,.i e])]):=by
 rw[AL]
 conv=>lhs;whnf
 rw[DV zaF]
 rw[Fv zaF]
 conv=>lhs;whnf
 rw[Bj zaa]
 rw[LK zaa]
 conv=>lhs;whnf
 rw[show p+n-p=n from by omega]
theorem A7I(hb:b.length<=4294967296)(hp:p<=b.length):Y E0 (.call 178 [.pa 0 0] [.var [.sl .u8 b,.i p,.i e]])=some (.ret (.i ((b.length-p:Nat):Int)) [some (.var [.sl .u8 b,.i p,.i e])]):=by
 rw[AL]
 conv=>lhs;whnf
 try dsimp -iota -beta -eta -zeta only
 rw[DV zaF]
 rw[drw zaw];conv=>lhs;whnf
 simp only[AP];congr 4;omega
theorem Yb(hb:b.length<=4294967296)(hp:p<=b.length)(hn:n<=4294967296):Y E0 (.call 214 [.pa 0 0,.i n] [.var [.sl .u8 b,.i p,.i e]])=some (.ret (.sl .u8 (lw b p e n).1) [some (.var [.sl .u8 b,.i (lw b p e n).2.1,.i (lw b p e n).2.2])]):=by
 by_cases h:b.length<(p:Int)+n
 ·refine Bl ?_
  rcases CE e 0 with hc0|hc0
  ·
   refine Bl ?_
   exact zaB
  subst hc0
  refine Bl ?_
  rw[Qi _ _ _ _ _ DJ DJ DJ DJ]
  refine Bl ?_
  rw[J8 ..]
  refine Bl ?_
  exact zaB
 ·refine Bl ?_
  rcases CE e 0 with hc0|hc0
  ·
   refine Bl ?_
   exact zaB
  subst hc0
  refine Bl ?_
  rcases Bc n 0 with hc1|hc1
  ·
   refine Bl ?_
   rw[J8 ..]
   refine Bl ?_
   exact zaB
  refine Bl ?_
  rw[Qj _ _ _ _ _ DJ DJ DJ DJ]
  refine Bl ?_
  rw[show(p:Int)+n=((p+n.toNat:Nat):Int) from by omega];unfold lw;(repeat(first|rw[if_pos zac]|rw[if_neg zac]));rfl
theorem Jq(p e:Int):Y E0 (.call 132 [.pa 0 0] [.var [.sl .u8 b,.i p,.i e]])=some (.ret (.i e) [some (.var [.sl .u8 b,.i p,.i e])]):=by
 rw[AL];conv=>lhs;whnf
theorem UI(hb:b.length<=4294967296)(hp:p<=b.length):Y E0 (.call 134 [.pa 0 0] [.var [.sl .u8 b,.i p,.i e]])=some (.ret (.i (PI b p e)) [some (.var [.sl .u8 b,.i p,.i e])]):=by
 refine Bl ?_
 rcases Ar e 0 with hc0|hc0
 ·
  subst hc0
  refine Bl ?_
  rw[A7I _ _ _ DJ DJ]
  refine Bl ?_
  rcases Bc 0 (↑(b.length-p)) with hc1|hc1
  ·
   refine Bl ?_
   exact zaq
  refine Bl ?_
  exact zaq
 refine Bl ?_
 exact zaq
theorem NW(l b:List UInt8)(n p e:Int)(hl:l.length<=8):∀(k:Nat) (acc:UInt64) (j:Int),j=(l.length:Int)-k->k<=l.length ->
  Y E0 (.loop 130 0 1 1 [(0,.pa 0 0),(1,.i n),(7,.u64 acc),(38,.sl .u8 l),(39,.i (Ak l)),(40,.i j)] [(0,some (.var [.sl .u8 b,.i p,.i e]))])=some (.fin (.exit 0) 1 [(0,.pa 0 0),(1,.i n),(7,.u64 ((l.drop j.toNat).foldl (fun n x=>n<<<8|||x.toUInt64) acc))] [(0,some (.var [.sl .u8 b,.i p,.i e]))])
 | 0,acc,j,hj,hk=>by
  rw[AL];conv=>lhs;whnf
  rw[Fv zaF]
  conv=>lhs;whnf
  rw[List.drop_eq_nil_of_le zaa];rfl
 | k+1,acc,j,hj,hk=>by
  have hlt:j.toNat<l.length:=zaa
  rw[AL];conv=>lhs;whnf
  rw[Dl zaF]
  conv=>lhs;whnf
  rw[Bv zaa]
  conv=>lhs;whnf
  try dsimp -iota -beta -eta -zeta only
  rw[Bj zaa]
  rw[NW l b n p e hl k _ _ zaa zaa]
  refine Bl ?_
  rw[show l.drop j.toNat=l[j.toNat]::l.drop (j+1).toNat from by rw[List.drop_eq_getElem_cons hlt,show(j+1).toNat=j.toNat+1 from by omega],List.foldl_cons,lu,lm,aJ zaj];rfl
theorem Ed(hb:b.length<=4294967296)(hp:p<=b.length):Y E0 (.call 130 [.pa 0 0,.i n] [.var [.sl .u8 b,.i p,.i e]])=some (.ret (.i (Dt b p e n).1) [some (.var [.sl .u8 b,.i (Dt b p e n).2.1,.i (Dt b p e n).2.2])]):=by
 have hv:∀ l:List UInt8,(l.drop (0:Int).toNat).foldl (fun(n:UInt64) (x:UInt8)=>n<<<8|||x.toUInt64) (UInt64.ofNat 0)=beN l:=fun _=>rfl
 by_cases h4:(b.length:Int)<(p:Int)+n
 ·refine Bl ?_
  rcases CE e 0 with hc0|hc0
  ·
   refine Bl ?_
   exact zad
  subst hc0
  refine Bl ?_
  rcases Bc 8 n with hc1|hc1
  ·
   refine Bl ?_
   rw[J8 ..]
   refine Bl ?_
   exact zad
  refine Bl ?_
  rw[Qi _ _ _ _ _ DJ DJ DJ DJ]
  refine Bl ?_
  rw[J8 ..]
  refine Bl ?_
  exact zad
 ·by_cases h5:9223372036854775807<(beN ((b.drop p).take n.toNat)).toNat
  ·refine Bl ?_
   rcases CE e 0 with hc0|hc0
   ·
    refine Bl ?_
    exact zad
   subst hc0
   refine Bl ?_
   rcases Bc n 1 with hc1|hc1
   ·
    refine Bl ?_
    rw[J8 ..]
    refine Bl ?_
    exact zad
   refine Bl ?_
   rcases Bc 8 n with hc2|hc2
   ·
    refine Bl ?_
    rw[J8 ..]
    refine Bl ?_
    exact zad
   refine Bl ?_
   rw[Qj _ _ _ _ _ DJ DJ DJ DJ]
   refine Bl ?_
   rw[NW _ b n p 0 zaD ((b.drop (p:Int).toNat).take n.toNat).length _ 0 zaa zaa,hv,Int.toNat_natCast]
   conv=>lhs;whnf
   rw[A6h (by simpa using h5)]
   refine Bl ?_
   rw[J8 ..]
   refine Bl ?_
   exact zad
  ·refine Bl ?_
   rcases CE e 0 with hc0|hc0
   ·
    refine Bl ?_
    exact zad
   subst hc0
   refine Bl ?_
   rcases Bc n 1 with hc1|hc1
   ·
    refine Bl ?_
    rw[J8 ..]
    refine Bl ?_
    exact zad
   refine Bl ?_
   rcases Bc 8 n with hc2|hc2
   ·
    refine Bl ?_
    rw[J8 ..]
    refine Bl ?_
    exact zad
   refine Bl ?_
   rw[Qj _ _ _ _ _ DJ DJ DJ DJ]
   refine Bl ?_
   rw[NW _ b n p 0 zaD ((b.drop (p:Int).toNat).take n.toNat).length _ 0 zaa zaa,hv,Int.toNat_natCast]
   conv=>lhs;whnf
   rw[A6i (by simpa using h5)]
   refine Bl ?_
   rw[show(p:Int)+n=((p+n.toNat:Nat):Int) from by omega];unfold Dt;(repeat(first|rw[if_pos zac]|rw[if_neg zac]))
theorem Jr(hb:b.length<=4294967296)(hp:p<=b.length):Y E0 (.call 131 [.pa 0 0,.i n] [.var [.sl .u8 b,.i p,.i e]])=some (.ret (.sl .u8 (Fg b p e n).1) [some (.var [.sl .u8 b,.i (Fg b p e n).2.1,.i (Fg b p e n).2.2])]):=by
 by_cases h2:(b.length:Int)<(p:Int)+2
 ·refine Bl ?_
  rcases CE e 0 with hc0|hc0
  ·
   refine Bl ?_
   exact zae
  subst hc0
  refine Bl ?_
  rw[Qi _ _ _ _ _ DJ DJ DJ DJ]
  refine Bl ?_
  rw[J8 ..]
  refine Bl ?_
  exact zae
 ·have g0:Ap ((b.drop (p:Int).toNat).take (2:Int).toNat) 0=some (b.getD p 0):=NT zaa (by simp[List.getElem?_take,List.getElem?_drop,List.getD];rw[List.getElem?_eq_getElem zaa];rfl)
  have g1:Ap ((b.drop (p:Int).toNat).take (2:Int).toNat) 1=some (b.getD (p+1) 0):=NT zaa (by simp[List.getElem?_take,List.getElem?_drop,List.getD];rw[List.getElem?_eq_getElem zaa];rfl)
  have hv:BC .or (CJ (EJ (b.getD p 0)) (UInt64.ofNat 8).toNat) (EJ (b.getD (p+1) 0))=(EH b p:Int):=by
   rw[show(UInt64.ofNat 8).toNat=8 from rfl,LP,LP,xw,iC,U5,EH]
  have hx:=(b.getD p 0).toNat_lt
  have hy:=(b.getD (p+1) 0).toNat_lt
  have hl:EH b p<=65535:=by rw[EH];omega
  by_cases h4:(b.length:Int)<(p:Int)+2+EH b p
  ·refine Bl ?_
   rcases CE e 0 with hc0|hc0
   ·
    refine Bl ?_
    exact zae
   subst hc0
   refine Bl ?_
   rw[Qj _ _ _ _ _ DJ DJ DJ DJ]
   refine Bl ?_
   rw[g0]
   refine Bl ?_
   rw[g1]
   conv=>lhs;whnf
   try dsimp -iota -beta -eta -zeta only
   rw[hv]
   refine Bl ?_
   rcases Bc n (↑(EH b p)) with hc1|hc1
   ·
    refine Bl ?_
    rw[J8 ..]
    refine Bl ?_
    exact zae
   refine Bl ?_
   rw[Qi _ _ _ _ _ DJ DJ DJ DJ]
   refine Bl ?_
   rw[J8 ..]
   refine Bl ?_
   exact zae
  ·refine Bl ?_
   rcases CE e 0 with hc0|hc0
   ·
    refine Bl ?_
    exact zae
   subst hc0
   refine Bl ?_
   rw[Qj _ _ _ _ _ DJ DJ DJ DJ]
   refine Bl ?_
   rw[g0]
   refine Bl ?_
   rw[g1]
   conv=>lhs;whnf
   try dsimp -iota -beta -eta -zeta only
   rw[hv]
   refine Bl ?_
   rcases Bc n (↑(EH b p)) with hc1|hc1
   ·
    refine Bl ?_
    rw[J8 ..]
    refine Bl ?_
    exact zae
   refine Bl ?_
   rw[Qj _ _ _ _ _ DJ DJ DJ DJ]
   conv=>lhs;whnf
   rw[FH zaa]
   conv=>lhs;whnf
   rw[Dk zaF]
   conv=>lhs;whnf
   rw[Bj (a:=2) (b:=↑(EH b p)) zaa]
   rw[Bj zaa]
   unfold Fg;(repeat(first|rw[if_pos zac]|rw[if_neg zac]));simp only[show((p:Int)+2).toNat=p+2 from by omega,show((EH b p:Nat):Int).toNat=EH b p from by omega];rw[show(p:Int)+(2+(EH b p:Int))=((p+2+EH b p:Nat):Int) from by omega]
theorem Kq:Y E0 (.call 74 [.sl .u8 b] [])=some (.ret (.sl .u8 (DY b)) []):=by
 rw[AL];conv=>lhs;whnf
 rw[LM zaa]
 conv=>lhs;whnf
 rw[Dz zaa]
 conv=>lhs;whnf
 rw[X8,Ea];rfl
theorem FU(hn:0<=n):Y E0 (.call 27 [.sl .u8 b,.i n] [])=some (.ret (.sl .u8 (b.take n.toNat)) []):=by
 rw[AL];conv=>lhs;whnf
 rcases Bool.eq_false_or_eq_true (Dx n (Ak b)) with hc0|hc0
 ·rw[hc0];replace hc0:=Ii hc0;try simp only[AP] at hc0
  conv=>lhs;whnf
  rw[NU zaa]
  conv=>lhs;whnf
 ·rw[hc0];replace hc0:=Ij hc0;try simp only[AP] at hc0
  conv=>lhs;whnf
  rw[List.take_of_length_le zaa]
end Go.Proofs.YtlpkjhhfhannpaaGreatDoor
