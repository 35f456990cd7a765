/-
  Own texts, laid together for this claim: contracts of functions of the program and its references, used by the statements of this seat.
-/
import Derived.Test.YtanagnimhaemgaaGreatDoorKtac
import Derived.Test.YtanagnimhaemgaaGreatDoorKtaf
import Derived.Test.YtanagnimhaemgaaGreatDoorKtag
import Derived.Test.YtanagnimhaemgaaGreatDoorKtah
set_option linter.all false
set_option maxHeartbeats 40000000
set_option maxRecDepth 100000
namespace Go.Ax
open Go Go.Eng Go.RowKit
variable {seed:List UInt8}{k:Nat}
def pK:List UInt8:=[115,105,103,110,101,114]
def lsB(seed:List UInt8)(h:Int):List UInt8:=BK seed pK [UInt8.ofInt h] 32
def eu(seed:List UInt8)(k:Nat):List (List UInt8):=(List.range (2^k)).map fun(i:Nat)=>Ku (lsB seed k) i
def JE(seed:List UInt8)(h:Int):List UInt8:=if 0<=h/\h<=3 then UInt8.ofInt h::SH (eu seed h.toNat) else []
def I9(seed:List UInt8)(h leaf:Int)(m:List UInt8):List UInt8 :=
 if(0<=h/\h<=3)/\0<=leaf/\leaf<(2:Int)^h.toNat then UInt8.ofInt leaf::(A42 (lsB seed h) leaf m++(A44 leaf (eu seed h.toNat)).flatten) else []
def WX:Nat->List UInt8->List (List UInt8)
 | 0,_=>[]
 | k+1,s=>s.take 16::WX k (s.drop 16)
def A07(p s:List UInt8):Prop:=p.length=17/\(p.getD 0 0).toNat<=3/\s.length=561+16*(p.getD 0 0).toNat/\(s.getD 0 0).toNat<2^(p.getD 0 0).toNat
instance (p s:List UInt8):Decidable (A07 p s):=by unfold A07;exact inferInstance
def A6G(p m s:List UInt8):List UInt8:=A06 (A6E (s.getD 0 0).toNat m ((s.drop 1).take 560)).1 (s.getD 0 0).toNat (WX (p.getD 0 0).toNat (s.drop 561))
def Ip(p m s:List UInt8):Int×Bool:=if A07 p s/\A6G p m s=p.drop 1 then(((s.getD 0 0).toNat:Int),true) else(0,false)
theorem pO(seed:List UInt8)(h:Int):(lsB seed h).length=32:=Eb zaa
theorem Pn(seed:List UInt8)(k:Nat):(eu seed k).length=2^k:=by simp[eu]
theorem Zj(h:k<=3):1<=2^k/\2^k<=8:=⟨Nat.one_le_two_pow,Nat.le_trans (Nat.pow_le_pow_right zaa h) zac⟩
theorem A2t(k:Nat):(2:Int)^k=((2^k:Nat):Int):=zan
theorem fA{i:Int}(h:0<=i/\i<=255):(Ku seed i).length=16:=by rw[Ku,if_pos h,l9]
theorem A57(hk:k<=3):∀ x∈eu seed k,x.length=16:=by
 intro x hx
 have:=Zj hk
 simp only[eu,List.mem_map,List.mem_range] at hx
 obtain⟨i,hi,rfl⟩:=hx
 exact fA zaa
theorem A2u(hk:k<=3):∀ x∈eu seed k,x.length<=1000000:=fun x hx=>by rw[A57 hk x hx];decide
theorem A6H(hk:k<=3):(eu seed k).length<=1000:=by rw[Pn];have:=Zj hk;omega
theorem pR{i:Nat}(hi:i<2^k):(eu seed k).getD i []=Ku (lsB seed k) i:=by
 rw[List.getD,List.getElem?_eq_getElem (by rw[Pn];exact hi)];simp[eu]
theorem pU(hk:k<=3):(SH (eu seed k)).length=16:=by
 have hl:=Pn seed k
 rcases Nat.eq_zero_or_pos k with rfl|hp
 ·have hh:=YL hk hl
  unfold SH
  rw[hh,if_neg zaa,show((0:Nat):Int).toNat=0 from rfl,jV,pR zan]
  exact fA zaa
 ·exact A56 hk hl (by rw[hl];exact Nat.one_lt_two_pow zaa)
theorem A08{h:Int}(hh:0<=h/\h<=3):(JE seed h).length=17:=by
 rw[JE,if_pos hh,List.length_cons,pU zaa]
theorem A2v(seed:List UInt8)(h:Int):(JE seed h).length<=17:=by
 by_cases hh:0<=h/\h<=3
 ·rw[A08 hh];exact Nat.le_refl _
 ·rw[JE,if_neg hh];simp
theorem YM:∀(k:Nat) (s:List UInt8),(WX k s).length=k
 | 0,_=>rfl
 | k+1,s=>by rw[WX,List.length_cons,YM k]
def A7x(a b:List UInt8):List UInt8:=List.zipWith (· ^^^ ·) a b
def A09:List UInt8:=[101,110,99,114,121,112,116]
def A6I:List UInt8:=[97,117,116,104,101,110,116,105,99,97,116,101]
def A58(key nonce b:List UInt8):List UInt8:=A7x b (BK key A09 nonce (b.length:Int))
def A59(key nonce ad c:List UInt8):List UInt8:=l7 (BK key A6I nonce 32) (Af 0 [ad,nonce,c])
def A6J(nonce c t:List UInt8):List UInt8:=Gy (Gy [] nonce) c++t
def pV(key nonce ad plain:List UInt8):List UInt8 :=
 if 64<nonce.length\/1024<plain.length then [] else A6J nonce (A58 key nonce plain) (A59 key nonce ad (A58 key nonce plain))
def YN(key ad b:List UInt8):List UInt8×Int :=
 let n:=MH b 0 0 64
 let c:=MH b n.2.1 n.2.2 1024
 let t:=XE b c.2.1 c.2.2 32
 let e:=aG b t.2.1 t.2.2
 if e≠0 then([],e) else if t.1≠A59 key n.1 ad c.1 then([],18) else(A58 key n.1 c.1,0)
theorem A0A(key nonce ad c:List UInt8):(A59 key nonce ad c).length=32:=Dk _ _
end Go.Ax
namespace Go.Ax
def Dl(b:List UInt8):List UInt8:=b.take 32++(List.replicate 32 0).drop b.length
theorem Fq(b:List UInt8):(Dl b).length=32:=by simp[Dl];omega
end Go.Ax
namespace Go.Ax
open Go Go.Eng Go.RowKit
variable {auth:List UInt8}{α:Type}(n:Nat)(tag x:Int)(j:Nat)(b a:List UInt8)
theorem Ba(op:BinOp)(a b:Int):Ak op a b=bits op .i64 a b:=by rw[Nl];rfl
theorem D6:(Af tag [a]).length=5+a.length:=by
 simp[Af,fieldsB,JW];omega
theorem Ce(b:List UInt8):(Af tag [a,b]).length=9+a.length+b.length:=by
 simp[Af,fieldsB,JW];omega
theorem Ci(b c:List UInt8):(Af tag [a,b,c]).length=13+a.length+b.length+c.length:=by
 simp[Af,fieldsB,JW];omega
theorem VG:Rh 1 (UInt64.ofInt x)=[UInt8.ofInt x]:=by
 have h:(UInt64.ofInt x).toUInt8=UInt8.ofInt x:=by
  apply UInt8.toNat_inj.1
  rw[UInt64.toNat_toUInt8,UInt64.ofInt,UInt8.ofInt,UInt64.toNat_ofNat',UInt8.toNat_ofNat']
  omega
 have h2:(UInt64.ofInt x)>>>UInt64.ofNat (8*0)=UInt64.ofInt x:=by
  apply UInt64.toNat_inj.1
  rw[UInt64.toNat_shiftRight];simp
 rw[Rh,h2,h];rfl
structure Pub where
 kind:Int
 attr:Int
 height:Int
 policy:List UInt8
 unique:List UInt8
deriving DecidableEq
def Zk:Pub:=⟨0,0,0,[],[]⟩
def uniq(k:Int):Int:=if k=2 then 17 else 32
theorem pW(k:Int):17<=uniq k/\uniq k<=32:=by unfold uniq;split<;>omega
def EG(p:Pub):Int :=
 if p.kind<1\/3<p.kind then 19
 else if p.attr<0\/7<p.attr\/(bits .and .i64 p.attr 4≠0/\p.kind≠2)\/(bits .and .i64 p.attr 1=0/\p.policy.length=0) then 20
 else if p.height<0\/3<p.height\/(p.height≠0/\p.kind≠2)\/(p.policy.length≠0/\p.policy.length≠32)\/(p.unique.length:Int)≠uniq p.kind then 1 else 0
def ET(p:Pub):List UInt8:=Gy (Gy [UInt8.ofInt p.kind,UInt8.ofInt p.attr,UInt8.ofInt p.height] p.policy) p.unique
def Hr(b:List UInt8):Pub×Int :=
 let k:=IZ b 0 0 1
 let a:=IZ b k.2.1 k.2.2 1
 let h:=IZ b a.2.1 a.2.2 1
 let o:=MH b h.2.1 h.2.2 32
 let u:=MH b o.2.1 o.2.2 32
 let e:=aG b u.2.1 u.2.2
 if e≠0 then(Zk,e) else if EG ⟨k.1,a.1,h.1,o.1,u.1⟩≠0 then(Zk,EG ⟨k.1,a.1,h.1,o.1,u.1⟩) else(⟨k.1,a.1,h.1,o.1,u.1⟩,0)
structure OkP (p:Pub):Prop where
 kind:1<=p.kind/\p.kind<=3
 attr:0<=p.attr/\p.attr<=7
 height:0<=p.height/\p.height<=3
 policy:p.policy.length<=32
 unique:p.unique.length<=32
def A0B(p:Pub):List UInt8 :=
 Rh 1 (UInt64.ofInt p.kind)++(Rh 1 (UInt64.ofInt p.attr)++(Rh 1 (UInt64.ofInt p.height)++(XF p.policy.length++p.policy++(XF p.unique.length++p.unique++[]))))
theorem uP{p:Pub}(hp:p.policy.length<=65535)(hu:p.unique.length<=65535):ET p=A0B p:=by
 unfold ET A0B
 rw[WN hp,WN hu,VG,VG,VG]
 simp only[List.append_assoc,List.append_nil,List.cons_append,List.nil_append]
theorem WY{p:Pub}(hp:p.policy.length<=65535)(hu:p.unique.length<=65535):(ET p).length=7+p.policy.length+p.unique.length:=by
 rw[uP hp hu]
 simp only[A0B,List.length_append,J6,Rj,List.length_nil];omega
structure Evi where
 machine:Int
 attest:List UInt8
 sig:List UInt8
 log:List UInt8
deriving DecidableEq
def A6K(x:Evi):Prop:=1<=x.machine/\x.machine<=4/\x.attest.length<=1024/\x.sig.length<=1024/\x.log.length<=8192
instance (x:Evi):Decidable (A6K x):=by unfold A6K;infer_instance
def A0C(n:Nat)(b:List UInt8):List UInt8:=b.take n++(List.replicate n 0).drop b.length
theorem Fv:(A0C n b).length=n:=by simp[A0C];omega
def A6L(k a:Int)(pol:Bool):Int :=
 let x:=if k=2 then a else bits .andNot .i64 a 4
 if pol then x else bits .or .i64 x 1
def A0D(p:Pub):Pub :=
  ⟨1+p.kind%3,A6L (1+p.kind%3) (p.attr%8) (decide (0<p.policy.length)),if 1+p.kind%3=2 then p.height%2 else 0,
   if 0<p.policy.length then Dl p.policy else [],A0C (uniq (1+p.kind%3)).toNat p.unique⟩
def A0E(p:Pub):Bool:=decide ((p.policy.length:Int)<=60)&&decide ((p.unique.length:Int)<=60)
def A45(p q:Pub):Bool:=decide (p.kind=q.kind)&&(decide (p.attr=q.attr)&&(decide (p.height=q.height)&&(decide (p.policy=q.policy)&&decide (p.unique=q.unique))))
structure Idx where
 n:Int
 kind:Int
 attr:Int
 size:Int
 policy:List UInt8
 auth:List UInt8
 written:Bool
 data:List UInt8
def A6M(x:Idx):List UInt8:=BH [UInt8.ofInt x.n,UInt8.ofInt x.kind,UInt8.ofInt x.attr] 2 x.size++[if x.written then 1 else 0]
def nameB(p:Pub):List UInt8:=sha256 (Af 6 [ET p])
def YO(h:Int):List UInt8:=if h<0\/3<h then [] else sha256 (Af 11 [[UInt8.ofInt h]])
theorem H5(x:Idx):(A6M x).length=6:=by rw[A6M,List.length_append,Ad];rfl
structure Sen where
 auth:List UInt8
 seed:List UInt8
 data:List UInt8
abbrev A5A(s:Sen):List AV:=[.sl .u8 s.auth,.sl .u8 s.seed,.sl .u8 s.data]
def XI:Sen:=⟨[],[],[]⟩
def JP:List UInt8:=[115,101,101,100]
def A6N:List UInt8:=[112,114,105,118,97,116,101]
def Dz(kind h:Int)(s:Sen):List UInt8:=if kind=2 then JE s.seed h else sha256 (Af 13 [s.seed,s.data])
def Cj(secret:List UInt8)(p:Pub)(auth data:List UInt8):Pub×Sen×Int :=
 if EG ⟨p.kind,p.attr,p.height,p.policy,List.replicate (uniq p.kind).toNat 0⟩≠0 then(Zk,XI,EG ⟨p.kind,p.attr,p.height,p.policy,List.replicate (uniq p.kind).toNat 0⟩)
 else if 32<auth.length\/128<data.length then(Zk,XI,4)
 else if 0<data.length/\p.kind≠3 then(Zk,XI,1)
 else(⟨p.kind,p.attr,p.height,p.policy,Dz p.kind p.height ⟨auth,BK secret JP [] 32,data⟩⟩,⟨auth,BK secret JP [] 32,data⟩,0)
def wkey(par:Sen)(nm:List UInt8):List UInt8:=BK par.seed A6N nm 32
def A5B(s:Sen):List UInt8:=Gy (Gy (Gy [] s.auth) s.seed) s.data
def FM(par:Sen)(p:Pub)(s:Sen):List UInt8:=pV (wkey par (nameB p)) ((nameB p).take 16) (ET p) (A5B s)
def A6O(p:Pub)(b:List UInt8):Sen×Int :=
 let a:=MH b 0 0 32
 let d:=MH b a.2.1 a.2.2 32
 let t:=MH b d.2.1 d.2.2 128
 let e:=aG b t.2.1 t.2.2
 if e≠0 then(XI,e) else if p.unique≠Dz p.kind p.height ⟨a.1,d.1,t.1⟩ then(XI,18) else(⟨a.1,d.1,t.1⟩,0)
def FC(par:Sen)(p:Pub)(b:List UInt8):Sen×Int :=
 if(YN (wkey par (nameB p)) (ET p) b).2≠0 then(XI,(YN (wkey par (nameB p)) (ET p) b).2) else A6O p (YN (wkey par (nameB p)) (ET p) b).1
def A46(a b:Sen):Bool:=decide (a.auth=b.auth)&&(decide (a.seed=b.seed)&&decide (a.data=b.data))
structure OkS (s:Sen):Prop where
 auth:s.auth.length<=32
 seed:s.seed.length=32
 data:s.data.length<=128
theorem A2w(k h:Int)(s:Sen):(Dz k h s).length<=32:=by
 unfold Dz;split
 ·have:=A2v s.seed h;omega
 ·rw[A7];exact Nat.le_refl _
theorem He(p:Pub):(nameB p).length=32:=A7 _
theorem MM(par:Sen)(nm:List UInt8):(wkey par nm).length=32:=Eb zaa
theorem A0F{secret data:List UInt8}{p:Pub}(hc:EG p=0)(ha:auth.length<=32)(hd:data.length<=128)(hk:0<data.length->p.kind=3):
  Cj secret p auth data=(⟨p.kind,p.attr,p.height,p.policy,Dz p.kind p.height ⟨auth,BK secret JP [] 32,data⟩⟩,⟨auth,BK secret JP [] 32,data⟩,0):=by
 have h0:EG ⟨p.kind,p.attr,p.height,p.policy,List.replicate (uniq p.kind).toNat 0⟩=0:=by
  have hu:=pW p.kind
  unfold EG at hc ⊢
  split at hc
  ·simp at hc
  rename_i g1
  split at hc
  ·simp at hc
  rename_i g2
  split at hc
  ·simp at hc
  rename_i g3
  rw[if_neg g1,if_neg g2,if_neg]
  rintro(q|q|q|q|q)
  ·exact g3 (.inl q)
  ·exact g3 (.inr (.inl q))
  ·exact g3 (.inr (.inr (.inl q)))
  ·exact g3 (.inr (.inr (.inr (.inl q))))
  ·simp only[List.length_replicate] at q;omega
 rw[Cj,if_neg (by rw[h0];simp),if_neg zaa,if_neg (by intro q;exact q.2 (hk q.1))]
theorem A0G{secret data:List UInt8}{p:Pub}:(Cj secret p auth data).1.unique.length<=32/\(Cj secret p auth data).1.policy.length<=p.policy.length/\(Cj secret p auth data).2.1.auth.length<=32/\(Cj secret p auth data).2.1.seed.length<=32/\(Cj secret p auth data).2.1.data.length<=128:=by
 unfold Cj
 split
 ·simp[Zk,XI]
 ·split
  ·simp[Zk,XI]
  ·split
   ·simp[Zk,XI]
   ·have h1:=A2w p.kind p.height ⟨auth,BK secret JP [] 32,data⟩
    have h2:=Eb (key:=secret) (label:=JP) (ctx:=[]) (n:=32) zaa
    refine⟨h1,Nat.le_refl _,?_,?_,?_⟩<;>simp only<;>omega
theorem wI(x:α)(l:List α):Ah (x::l) 0=some x:=by rw[KR];simp[lget0]
theorem lg1(x y:α)(l:List α):Ah (x::y::l) 1=some y:=by rw[KR];simp[lget0]
theorem lg2(x y z:α)(l:List α):Ah (x::y::z::l) 2=some z:=by rw[KR];simp[lget0]
abbrev A7y(p:Pub)(s:Sen)(h:Int):El objT:=((p.kind,p.attr,p.height,p.policy,p.unique),(s.auth,s.seed,s.data),h)
def Q4:El objT:=((0,0,0,[],[]),([],[],[]),0)
def A0H:El sesT:=(0,[],[],0,0,0,0,false)
def Fb:List (El objT)->Nat
 | []=>0
 | x::l=>if x.1.1=0 then 0 else Fb l+1
def EX(ob:List (El objT))(h:Int):Option (El objT):=if 512<=h then(match ob[(h-512).toNat]? with|some x=>if x.1.1=0 then none else some x|none=>none) else none
def Ug:List UInt8:=[112,114,105,109,97,114,121]
def A47:List UInt8:=[114,97,110,100,111,109]
def Bc:List UInt8:=[101,110,116,114,111,112,121]
noncomputable def Ef(seed:List UInt8)(k a h:Int)(o data:List UInt8):List UInt8:=BK seed Ug (Af 0 [[DT k,DT a,DT h],o,data]) 32
structure Ans where
 err:Int
 ints:List Int
 blobs:List (List UInt8)
def Ik(ob:List (El objT))(p:Pub)(s:Sen)(h:Int)(blobs:List (List UInt8)):List (El objT)×Ans :=
 if Fb ob<ob.length then(ob.set (Fb ob) (A7y p s h),⟨0,[512+(Fb ob:Int)],blobs⟩) else(ob,⟨25,[],[]⟩)
noncomputable def Ec(sd:List (List UInt8))(ob:List (El objT))(h k a t:Int)(o auth data:List UInt8):List (El objT)×Ans :=
  if 0<=h/\h<sd.length then
    (let m:=Cj (Ef (sd.getD h.toNat []) k a t o data) ⟨k,a,t,o,[]⟩ auth data
     if m.2.2≠0 then(ob,⟨m.2.2,[],[]⟩) else Ik ob m.1 m.2.1 h [ET m.1,nameB m.1])
  else(ob,⟨7,[],[]⟩)
def Je(n:Nat)(j:Nat):List (List UInt8):=(List.range j).map fun i=>List.replicate n (if 12<=i then 255 else 0)
theorem lF:Je n (j+1)=Je n j++[List.replicate n (if 12<=j then 255 else 0)]:=by simp[Je,List.range_succ]
theorem Gh:(Je n j).length=j:=by simp[Je]
def GR(n:Nat):List (List UInt8):=Je n 16
def XJ(b:Int):Int:=if b=0 then 20 else if b=1 then 32 else 0
theorem WZ(b:Int)(n j:Nat)(hn:(XJ b).toNat=n):BI (Je n j) [List.replicate (XJ b).toNat (if(12:Int)<=(j:Int) then(255:UInt8) else 0)]=Je n (j+1):=by
 rw[Ap,lF,hn]
 by_cases h:12<=j
 ·rw[if_pos zaa,if_pos h]
 ·rw[if_neg zaa,if_neg h]
theorem A2x(k:Nat)(x:UInt8):(List.replicate j x++List.replicate (k+1) 0).set j x=List.replicate (j+1) x++List.replicate k 0:=by
 rw[List.set_append_right _ _ zan]
 simp only[List.length_replicate,Nat.sub_self,List.replicate_succ,List.set_cons_zero]
 rw[<-List.replicate_succ,List.replicate_succ',List.append_assoc];rfl
def BZ(ac:Int):List (List (List UInt8)):=if ac%4=0 then [] else [if ac%2=1 then GR 20 else [],if ac/2%2=1 then GR 32 else []]
def Aq(en:List UInt8):List (List UInt8):=[BK en JP [0] 32,BK en JP [1] 32,BK en JP [2] 32]
def MN(en:List UInt8)(re rs dr n:Int):List UInt8:=BK en A47 (BH (BH (BH [] 8 re) 8 rs) 8 dr) n
def N7(par:Sen)(en:List UInt8)(re rs dr k a t:Int)(o auth data:List UInt8):Int×Ans :=
 let m:=Cj (MN en re rs dr 32) ⟨k,a,t,o,[]⟩ auth data
 if m.2.2≠0 then(dr,⟨m.2.2,[],[]⟩) else(dr+1,⟨0,[],[ET m.1,FM par m.1 m.2.1]⟩)
def N8(ob:List (El objT))(par:Sen)(hier:Int)(pub priv:List UInt8):List (El objT)×Ans :=
 if(Hr pub).2≠0 then(ob,⟨(Hr pub).2,[],[]⟩)
 else if(FC par (Hr pub).1 priv).2≠0 then(ob,⟨(FC par (Hr pub).1 priv).2,[],[]⟩)
 else Ik ob (Hr pub).1 (FC par (Hr pub).1 priv).1 hier [nameB (Hr pub).1]
def keyAt(u:List UInt8):List (El BP)->Nat
 | []=>0
 | x::l=>if x.1=u then 0 else keyAt u l+1
def Iy(ks:List (El BP))(u:List UInt8)(h:Int):List (El BP)×Int×Int :=
 if keyAt u ks<ks.length then
  (if(2:Int)^h.toNat<=(ks.getD (keyAt u ks) ([],0)).2 then(ks,0,26) else(ks.set (keyAt u ks) ((ks.getD (keyAt u ks) ([],0)).1,(ks.getD (keyAt u ks) ([],0)).2+1),(ks.getD (keyAt u ks) ([],0)).2,0))
 else if 8<=ks.length then(ks,0,25) else(ks++[(u,1)],0,0)
theorem pX{sd:List (List UInt8)}{ob:List (El objT)}{h k a t:Int}{o d:List UInt8}(hh:0<=h/\h<sd.length)(hf:Fb ob<ob.length)(hc:EG ⟨k,a,t,o,List.replicate (uniq k).toNat 0⟩=0)(ha:auth.length<=32)(hd:d.length<=128)(hk:0<d.length->k=3):
  ∃ S,S=BK (Ef (sd.getD h.toNat []) k a t o d) JP [] 32/\S.length=32/\Ec sd ob h k a t o auth d=(ob.set (Fb ob) ((k,a,t,o,Dz k t ⟨auth,S,d⟩),(auth,S,d),h),⟨0,[512+(Fb ob:Int)],[ET ⟨k,a,t,o,Dz k t ⟨auth,S,d⟩⟩,nameB ⟨k,a,t,o,Dz k t ⟨auth,S,d⟩⟩]⟩):=by
 refine⟨_,rfl,Eb (n:=32) zaa,?_⟩
 have hm:=A0F (secret:=Ef (sd.getD h.toNat []) k a t o d) hc ha hd hk
 unfold Ec
 rw[if_pos hh,show Cj (Ef (sd.getD h.toNat []) k a t o d) ⟨k,a,t,o,[]⟩ auth d=Cj (Ef (sd.getD h.toNat []) k a t o d) ⟨k,a,t,o,List.replicate (uniq k).toNat 0⟩ auth d from rfl,hm]
 simp only[ne_eq,not_true_eq_false,if_false]
 unfold Ik
 rw[if_pos hf]
theorem lG(en:List UInt8):(Aq en).length=3:=rfl
theorem uQ(en:List UInt8):∀ l∈Aq en,l.length<=1000:=by
 intro l hl
 simp only[Aq,List.mem_cons,List.not_mem_nil,or_false] at hl
 rcases hl with rfl|rfl|rfl<;>(rw[Eb zaa];decide)
abbrev A7z(a:Ans):List AV:=[.i a.err,.sl .i64 a.ints,.sl (.sl .u8) a.blobs,.sl (.sl .u8) []]
@[reducible] def sC (sd au:List (List UInt8)) (en:List UInt8) (ac re rs ck:Int) (od:Bool) (sb:List (List (List UInt8))) (su mc:Int) (ix:List (El AB)) (l1 l2 l3 l4 l5 l6:Int) (ks:List (El BP)) (st sp:Bool) (rb:List (List (List UInt8))) (ru vc:Int) (sf:Bool) (dr:Int) (ss:List (El sesT)) (ob:List (El objT)) (rl wl:List Int):List AV:=[.sl (.sl .u8) sd,.sl (.sl .u8) au,.sl .u8 en,.i ac,.i re,.i rs,.i ck,.b od,.sl (.sl (.sl .u8)) sb,.i su,.i mc,.sl AB ix,.i l1,.i l2,.i l3,.i l4,.i l5,.i l6,.sl BP ks,.b st,.b sp,.sl (.sl (.sl .u8)) rb,.i ru,.i vc,.b sf,.i dr,.sl sesT ss,.sl objT ob,.sl .i64 rl,.sl .i64 wl]
@[reducible] def sX (sd au:List (List UInt8)) (en:List UInt8) (ac re rs ck:Int) (od:Bool) (sb:List (List (List UInt8))) (su mc:Int) (ix:List (El AB)) (l1 l2 l3 l4 l5 l6:Int) (ks:List (El BP)) (st sp:Bool) (rb:List (List (List UInt8))) (ru vc:Int) (sf:Bool) (dr:Int) (ss:List (El sesT)) (ob:List (El objT)) (rl wl:List Int):AV:=.agg (sC sd au en ac re rs ck od sb su mc ix l1 l2 l3 l4 l5 l6 ks st sp rb ru vc sf dr ss ob rl wl)
theorem Am{p:Prop}(h:p:=by first|omega|decide|assumption|(simp only[Fq,A7,aZ,D6,Ce,Ci,He,MM,Bf,DF,dh,Ad,BQ,BO,Gh,Dy,DW,Dk,DY,DC,NS,Lh,Jv,JD,Fv,H5,A0A,pO,Pn,YM,LL] at *<;>omega)|(simp;omega)):p:=h
theorem twe{a b:α}(e:OH a b:=by(try rewrite[Xw]);(try rewrite[Xx]);(conv=>arg 1;whnf);(repeat first|(dsimp -iota -beta -eta -zeta only)|((first|rewrite[EF Am]|rewrite[QV Am]|rewrite[Jk Am]|rewrite[DJ]|rewrite[GZ]|rewrite[U2 Ux]|rewrite[U3 Ux]|rewrite[Xy]|rewrite[Xz]|rewrite[Y0]|rewrite[Y_go2]|rewrite[Y_go3]|rewrite[Y_go4]|rewrite[decide_eq_true Am]|rewrite[decide_eq_false Am]|rewrite[Dn Am]|rewrite[Iw Am]|rewrite[Fh Am]|rewrite[UY Am]|rewrite[Ep Am]|rewrite[JK Am]|rewrite[Ko Am]|rewrite[Jh Am]|rewrite[WG Am]|rewrite[Xq Am]|rewrite[U0 rfl]|rewrite[drw zai]|rewrite[LP rfl]|rewrite[NP]|rewrite[QX Am]|rewrite[Lc Am]|rewrite[wI]|rewrite[lg1]|rewrite[lg2]);(conv=>arg 1;whnf))|rewrite[JL]|rewrite[L9]|rewrite[LC]|rewrite[LD]|rewrite[LG]|rewrite[LH]|rewrite[Jl]|rewrite[Jm]|rewrite[Jn]|rewrite[Jo]|rewrite[Jp]|rewrite[IX]|((first|rewrite[D7 Am]|rewrite[EI Am]|rewrite[MG Am]);try dsimp -iota -beta -eta -zeta only[Int.reduceAdd,Int.reduceSub,Int.reduceMul])|rewrite[RX Am]|rewrite[O3 Am]|rewrite[RY Am]|rewrite[RZ Am]|rewrite[PY Am]|rewrite[Aj]|rewrite[Eo]);exact OH.rf _):OH a b:=e
theorem tw{P:α->Prop}{a b:α}(h:P b)(e:OH a b:=by exact twe):P a:=by rw[OH.eq e];exact h
theorem wJ{β:Type}{P:α->Prop}{a b:α}{x y:β}(z:x=y)(h:P b)(e:x=y->OH a b:=by intro z;rewrite[z];clear z;exact twe):P a:=by rw[OH.eq (e z)];exact h
theorem tqe{a b:α}(e:OH a b:=by(try rewrite[Xw]);(try rewrite[Xx]);(conv=>arg 1;whnf);(repeat first|(dsimp -iota -beta -eta -zeta only)|((first|rewrite[EF Am]|rewrite[QV Am]|rewrite[Jk Am]|rewrite[DJ]|rewrite[GZ]|rewrite[U2 Ux]|rewrite[U3 Ux]|rewrite[Xy]|rewrite[Xz]|rewrite[Y0]|rewrite[Y_go2]|rewrite[Y_go3]|rewrite[Y_go4]|rewrite[decide_eq_true Am]|rewrite[decide_eq_false Am]|rewrite[Dn Am]|rewrite[Iw Am]|rewrite[Fh Am]|rewrite[UY Am]|rewrite[Ep Am]|rewrite[JK Am]|rewrite[Ko Am]|rewrite[Jh Am]|rewrite[WG Am]|rewrite[Xq Am]|rewrite[U0 rfl]|rewrite[drw zai]|rewrite[LP rfl]|rewrite[NP]|rewrite[QX Am]|rewrite[Lc Am]|rewrite[wI]|rewrite[lg1]|rewrite[lg2]|rewrite[O4 Am]);(conv=>arg 1;whnf))|rewrite[JL]|rewrite[L9]|rewrite[LC]|rewrite[LD]|rewrite[LG]|rewrite[LH]|rewrite[Jl]|rewrite[Jm]|rewrite[Jn]|rewrite[Jo]|rewrite[Jp]|rewrite[IX]|rewrite[D7 Am]|rewrite[EI Am]|rewrite[MG Am]|rewrite[RX Am]|rewrite[O3 Am]|rewrite[RY Am]|rewrite[RZ Am]|rewrite[PY Am]|rewrite[Aj]|rewrite[Eo]);exact OH.rf _):OH a b:=e
theorem tq{a b c:α}(h:b=c)(e:OH a b:=by exact tqe):a=c:=(OH.eq e).trans h
theorem toe{a b:α}(e:OH a b:=by(try rewrite[Xw]);(try rewrite[Xx]);(conv=>arg 1;whnf);(repeat first|(dsimp -iota -beta -eta -zeta only)|((first|rewrite[EF Am]|rewrite[QV Am]|rewrite[Jk Am]|rewrite[DJ]|rewrite[GZ]|rewrite[U2 Ux]|rewrite[U3 Ux]|rewrite[Xy]|rewrite[Xz]|rewrite[Y0]|rewrite[Y_go2]|rewrite[Y_go3]|rewrite[Y_go4]|rewrite[decide_eq_true Am]|rewrite[decide_eq_false Am]|rewrite[Dn Am]|rewrite[Iw Am]|rewrite[Fh Am]|rewrite[UY Am]|rewrite[Ep Am]|rewrite[JK Am]|rewrite[Ko Am]|rewrite[Jh Am]|rewrite[WG Am]|rewrite[Xq Am]|rewrite[U0 rfl]|rewrite[drw zai]|rewrite[LP rfl]|rewrite[NP]|rewrite[QX Am]|rewrite[Lc Am]|rewrite[wI]|rewrite[lg1]|rewrite[lg2]);(conv=>arg 1;whnf))|rewrite[JL]|rewrite[L9]|rewrite[LC]|rewrite[LD]|rewrite[LG]|rewrite[LH]|rewrite[Jl]|rewrite[Jm]|rewrite[Jn]|rewrite[Jo]|rewrite[Jp]|rewrite[IX]|rewrite[D7 Am]|rewrite[EI Am]|rewrite[MG Am]|rewrite[RX Am]|rewrite[O3 Am]|rewrite[RY Am]|rewrite[RZ Am]|rewrite[PY Am]|rewrite[Aj]|rewrite[Eo]);exact OH.rf _):OH a b:=e
theorem to{a b c:α}(h:b=c)(e:OH a b:=by exact toe):a=c:=(OH.eq e).trans h
theorem tpe{a b:α}(e:OH a b:=by(try rewrite[Xw]);(try rewrite[Xx]);(conv=>arg 1;whnf);(repeat first|(dsimp -iota -beta -eta -zeta only)|((first|rewrite[EF Am]|rewrite[QV Am]|rewrite[Jk Am]|rewrite[DJ]|rewrite[GZ]|rewrite[U2 Ux]|rewrite[U3 Ux]|rewrite[Xy]|rewrite[Xz]|rewrite[Y0]|rewrite[Y_go2]|rewrite[Y_go3]|rewrite[Y_go4]|rewrite[decide_eq_true Am]|rewrite[decide_eq_false Am]|rewrite[Dn Am]|rewrite[Iw Am]|rewrite[Fh Am]|rewrite[UY Am]|rewrite[Ep Am]|rewrite[JK Am]|rewrite[Ko Am]|rewrite[Jh Am]|rewrite[WG Am]|rewrite[Xq Am]|rewrite[U0 rfl]|rewrite[drw zai]|rewrite[LP rfl]|rewrite[NP]|rewrite[QX Am]|rewrite[Lc Am]|rewrite[wI]|rewrite[lg1]|rewrite[lg2]|rewrite[O4 Am]);(conv=>arg 1;whnf))|rewrite[JL]|rewrite[L9]|rewrite[LC]|rewrite[LD]|rewrite[LG]|rewrite[LH]|rewrite[Jl]|rewrite[Jm]|rewrite[Jn]|rewrite[Jo]|rewrite[Jp]|rewrite[IX]|rewrite[Aj]|rewrite[Eo]);exact OH.rf _):OH a b:=e
theorem tp{a b c:α}(h:b=c)(e:OH a b:=by exact tpe):a=c:=(OH.eq e).trans h
def bl(x:List UInt8):List UInt8:=XF x.length++x
def n8(x:Int):List UInt8:=Rh 8 (UInt64.ofInt x)
def n2(x:Int):List UInt8:=Rh 2 (UInt64.ofInt x)
def We(b:Bool):UInt8:=if b then 1 else 0
theorem Cc(x:List UInt8):(bl x).length=2+x.length:=by simp[bl,Rj]
theorem Bo:(n8 x).length=8:=J6 _ _
theorem DK:(n2 x).length=2:=J6 _ _
theorem Fg{b x:List UInt8}(h:x.length<=65535):Gy b x=b++bl x:=by rw[WN h,bl,List.append_assoc]
theorem Kv(x:Int):BH b 8 x=b++n8 x:=Om (n:=8) zaa
theorem SL(x:Int):BH b 2 x=b++n2 x:=Om (n:=2) zaa
def n4(x:Int):List UInt8:=Rh 4 (UInt64.ofInt x)
theorem DL:(n4 x).length=4:=J6 _ _
theorem pq(x:Int):BH b 4 x=b++n4 x:=Om (n:=4) zaa
def Lj(q:Int)(p:List UInt8):List UInt8:=sha256 (Af 12 [n8 q,p])
def Gv(q:Int)(p:List UInt8):List UInt8:=Lj q p++n8 q++n4 (p.length:Int)++p
theorem Bg(q:Int)(p:List UInt8):(Lj q p).length=32:=A7 _
theorem Cm(q:Int)(p:List UInt8):(Gv q p).length=44+p.length:=by simp[Gv,Bg,Bo,DL];omega
def A80(rb:List (List (List UInt8))):Int:=(if(rb.getD 0 []).length=16 then 1 else 0)+(if(rb.getD 1 []).length=16 then 2 else 0)
def A2z(rb:List (List (List UInt8)))(ru:Int):List UInt8:=UInt8.ofInt (A80 rb)::(n8 ru++rb.flatten.flatten)
theorem pz(u:Int):A2z [] u=0::n8 u:=by
 simp only[A2z,List.flatten_nil,List.append_nil];rfl
def XK(x:El AB):List UInt8:=UInt8.ofInt x.1::UInt8.ofInt x.2.1::UInt8.ofInt x.2.2.1::(n2 x.2.2.2.1++(We x.2.2.2.2.2.2.1::(bl x.2.2.2.2.1++(bl x.2.2.2.2.2.1++bl x.2.2.2.2.2.2.2))))
def XL(x:El BP):List UInt8:=bl x.1++[UInt8.ofInt x.2]
def encS(sd au:List (List UInt8))(en:List UInt8)(ac re rs ck:Int)(od:Bool)(sb:List (List (List UInt8)))(su mc:Int)(ix:List (El AB))(l1 l2 l3 l4 l5 l6:Int)(ks:List (El BP)):List UInt8 :=
 [1,UInt8.ofInt ac]++bl (sd.getD 0 [])++bl (sd.getD 1 [])++bl (sd.getD 2 [])++bl (au.getD 0 [])++bl (au.getD 1 [])++bl (au.getD 2 [])++bl (au.getD 3 [])++bl en++n8 re++n8 rs++n8 ck++[We od]++bl (A2z sb su)++n8 mc
  ++ [UInt8.ofInt (ix.length:Int)]++ix.flatMap XK++n8 l1++n8 l2++n8 l3++n8 l4++n8 l5++n8 l6++[UInt8.ofInt (ks.length:Int)]++ks.flatMap XL
@[reducible] def qK (sd au:List (List UInt8)) (en:List UInt8) (ac re rs ck:Int) (od:Bool) (sb:List (List (List UInt8))) (su mc:Int) (ix:List (El AB)) (l1 l2 l3 l4 l5 l6:Int) (ks:List (El BP)):List AV:=[.sl (.sl .u8) sd,.sl (.sl .u8) au,.sl .u8 en,.i ac,.i re,.i rs,.i ck,.b od,.sl (.sl (.sl .u8)) sb,.i su,.i mc,.sl AB ix,.i l1,.i l2,.i l3,.i l4,.i l5,.i l6,.sl BP ks]
structure stOK (sd au:List (List UInt8)) (en:List UInt8) (ac re rs ck su mc:Int) (ix:List (El AB)) (l1 l2 l3 l4 l5 l6:Int) (ks:List (El BP)):Prop where
 sl:sd.length=3
 al:au.length=4
 sm:∀ x∈sd,x.length<=1000
 am:∀ x∈au,x.length<=1000
 en:en.length<=1000
 ac:0<=ac/\ac<=3
 re:0<=re/\re<=1000000
 rs:0<=rs/\rs<=1000000
 ck:0<=ck/\ck<=2000000000000
 su:0<=su/\su<=1000000
 mc:0<=mc/\mc<=2000000000000
 il:ix.length<=6
 im:∀ x∈ix,NT x
 lk:Zl l1 l2 l3 l4 l5 l6
 kl:ks.length<=8
 km:∀ x∈ks,lH x
@[reducible] def Gm (ar:List (List UInt8)) (wr cu to:Int) (of:Bool) (sd au:List (List UInt8)) (en:List UInt8) (ac re rs ck:Int) (od:Bool) (sb:List (List (List UInt8))) (su mc:Int) (ix:List (El AB)) (l1 l2 l3 l4 l5 l6:Int) (ks:List (El BP)) (st sp:Bool) (rb:List (List (List UInt8))) (ru vc:Int) (sf:Bool) (dr:Int) (ss:List (El sesT)) (ob:List (El objT)) (rl wl:List Int) (on:Bool) (nx:Int):AV :=
 .agg [.sl (.sl .u8) ar,.i wr,.i cu,.i to,.b of,.sl (.sl .u8) sd,.sl (.sl .u8) au,.sl .u8 en,.i ac,.i re,.i rs,.i ck,.b od,.sl (.sl (.sl .u8)) sb,.i su,.i mc,.sl AB ix,.i l1,.i l2,.i l3,.i l4,.i l5,.i l6,.sl BP ks,.b st,.b sp,.sl (.sl (.sl .u8)) rb,.i ru,.i vc,.b sf,.i dr,.sl sesT ss,.sl objT ob,.sl .i64 rl,.sl .i64 wl,.b on,.i nx]
@[reducible] def lI (ar:List (List UInt8)) (wr cu to:Int) (of on:Bool) (nx:Int):AV:=Gm ar wr cu to of [] [] [] 0 0 0 0 false [] 0 0 [] 0 0 0 0 0 0 [] false false [] 0 0 false 0 [] [] [] [] on nx
@[reducible] def fmC:List AV:=[.i 1,.i 0,.i 0,.i 1,.i 0,.i 2,.i 0,.i 0,.i 1,.i 0,.i 4,.i 0,.i 0,.i 0,.i 0,.i 5,.i 0,.i 0,.i 2,.i 0,.i 6,.i 0,.i 0,.i 1,.i 2,.i 7,.i 0,.i 0,.i 1,.i 1,.i 8,.i 0,.i 0,.i 1,.i 0,.i 9,.i 1,.i 1,.i 3,.i 3,.i 10,.i 1,.i 1,.i 3,.i 3,.i 11,.i 1,.i 1,.i 0,.i 2,.i 12,.i 0,.i 0,.i 1,.i 0,.i 13,.i 1,.i 1,.i 0,.i 0,.i 14,.i 1,.i 1,.i 0,.i 1,.i 15,.i 1,.i 1,.i 2,.i 1,.i 16,.i 0,.i 0,.i 1,.i 0,.i 17,.i 0,.i 0,.i 6,.i (-1),.i 18,.i 1,.i 1,.i 2,.i 1,.i 19,.i 0,.i 0,.i 1,.i 3,.i 20,.i 0,.i 0,.i 1,.i 0,.i 21,.i 1,.i 1,.i 4,.i 2,.i 22,.i 1,.i 1,.i 1,.i 0,.i 23,.i 2,.i 1,.i 1,.i 1,.i 24,.i 2,.i 1,.i 2,.i 0,.i 25,.i 2,.i 1,.i 0,.i 0,.i 26,.i 2,.i 1,.i 0,.i 1,.i 27,.i 2,.i 1,.i 0,.i 1,.i 28,.i 2,.i 1,.i 0,.i 0,.i 29,.i 2,.i 1,.i 0,.i 0,.i 30,.i 1,.i 1,.i 0,.i 1,.i 31,.i 1,.i 1,.i 0,.i 0,.i 32,.i 1,.i 1,.i 0,.i 0,.i 33,.i 1,.i 1,.i 3,.i 0]
def Ll(x:El AL):List UInt8:=n2 x.1++(bl x.2.1++bl x.2.2)
def IY(c:Int)(hs:List Int)(az:List (El AL))(is:List Int)(bs:List (List UInt8)):List UInt8 :=
 hs.flatMap n2++az.flatMap Ll++is.flatMap n8++[UInt8.ofInt (bs.length:Int)]++bs.flatMap bl
def Gn(c:Int)(hs:List Int)(az:List (El AL))(is:List Int)(bs:List (List UInt8)):List UInt8 :=
 [83,87]++n2 (5+(IY c hs az is bs).length:Int)++[UInt8.ofInt c]++IY c hs az is bs
def Gi(e:Int)(is:List Int)(bs ns:List (List UInt8)):List UInt8 :=
 if e≠0 then [UInt8.ofInt e] else [UInt8.ofInt e,UInt8.ofInt (is.length:Int)]++is.flatMap n8++[UInt8.ofInt (bs.length:Int)]++bs.flatMap bl++[UInt8.ofInt (ns.length:Int)]++ns.flatMap bl
end Go.Ax
