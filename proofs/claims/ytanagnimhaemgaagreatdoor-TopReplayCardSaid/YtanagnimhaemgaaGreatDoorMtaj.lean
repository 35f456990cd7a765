/-
  Own texts, laid together for this claim: contracts of functions of the program and its references, used by the statements of this seat.
-/
import Derived.Test.YtanagnimhaemgaaGreatDoorMtab
import Derived.Test.YtanagnimhaemgaaGreatDoorMtac
import Derived.Test.YtanagnimhaemgaaGreatDoorMtag
import Derived.Test.YtanagnimhaemgaaGreatDoorMtah
set_option linter.all false
set_option maxHeartbeats 40000000
set_option maxRecDepth 100000
namespace Go.Ax
open Go Go.Eng Go.RowKit
variable {seed:List UInt8}{k:Nat}
def Zc:List UInt8:=[115,105,103,110,101,114]
def lsB(seed:List UInt8)(h:Int):List UInt8:=D7 seed Zc [UInt8.ofInt h] 32
def iF(seed:List UInt8)(k:Nat):List (List UInt8):=(List.range (2^k)).map fun(i:Nat)=>UW (lsB seed k) i
def Gp(seed:List UInt8)(h:Int):List UInt8:=if 0<=h/\h<=3 then UInt8.ofInt h::aB (iF seed h.toNat) else []
def Eo(seed:List UInt8)(h leaf:Int)(m:List UInt8):List UInt8 :=
 if(0<=h/\h<=3)/\0<=leaf/\leaf<(2:Int)^h.toNat then UInt8.ofInt leaf::(aA (lsB seed h) leaf m++(aF leaf (iF seed h.toNat)).flatten) else []
def Oc:Nat->List UInt8->List (List UInt8)
 | 0,_=>[]
 | k+1,s=>s.take 16::Oc k (s.drop 16)
def YF(p s:List UInt8):Prop:=p.length=17/\(p.getD 0 0).toNat<=3/\s.length=561+16*(p.getD 0 0).toNat/\(s.getD 0 0).toNat<2^(p.getD 0 0).toNat
instance (p s:List UInt8):Decidable (YF p s):=by unfold YF;exact inferInstance
def iG(p m s:List UInt8):List UInt8:=YE (iD (s.getD 0 0).toNat m ((s.drop 1).take 560)).1 (s.getD 0 0).toNat (Oc (p.getD 0 0).toNat (s.drop 561))
def FY(p m s:List UInt8):Int×Bool:=if YF p s/\iG p m s=p.drop 1 then(((s.getD 0 0).toNat:Int),true) else(0,false)
theorem Zd(seed:List UInt8)(h:Int):(lsB seed h).length=32:=OY zf
theorem Ze(seed:List UInt8)(k:Nat):(iF seed k).length=2^k:=by simp[iF]
theorem pow_le8(h:k<=3):1<=2^k/\2^k<=8:=⟨Nat.one_le_two_pow,Nat.le_trans (Nat.pow_le_pow_right zf h) zh⟩
theorem pow_int(k:Nat):(2:Int)^k=((2^k:Nat):Int):=zB
theorem public16{i:Int}(h:0<=i/\i<=255):(UW seed i).length=16:=by rw[UW,if_pos h,valueB_len]
theorem lvB_16(hk:k<=3):∀ x∈iF seed k,x.length=16:=by
 intro x hx
 have:=pow_le8 hk
 simp only[iF,List.mem_map,List.mem_range] at hx
 obtain⟨i,hi,rfl⟩:=hx
 exact public16 zf
theorem lvB_mem(hk:k<=3):∀ x∈iF seed k,x.length<=1000000:=fun x hx=>by rw[lvB_16 hk x hx];decide
theorem lvB_n(hk:k<=3):(iF seed k).length<=1000:=by rw[Ze];have:=pow_le8 hk;omega
theorem lvB_get{i:Nat}(hi:i<2^k):(iF seed k).getD i []=UW (lsB seed k) i:=by
 rw[List.getD,List.getElem?_eq_getElem (by rw[Ze];exact hi)];simp[iF]
theorem root_16(hk:k<=3):(aB (iF seed k)).length=16:=by
 have hl:=Ze seed k
 rcases Nat.eq_zero_or_pos k with rfl|hp
 ·have hh:=height_of hk hl
  unfold aB
  rw[hh,if_neg zf,show((0:Nat):Int).toNat=0 from rfl,lX,lvB_get zB]
  exact public16 zf
 ·exact root16 hk hl (by rw[hl];exact Nat.one_lt_two_pow zf)
theorem pubK_len{h:Int}(hh:0<=h/\h<=3):(Gp seed h).length=17:=by
 rw[Gp,if_pos hh,List.length_cons,root_16 zf]
theorem pubK_le(seed:List UInt8)(h:Int):(Gp seed h).length<=17:=by
 by_cases hh:0<=h/\h<=3
 ·rw[pubK_len hh];exact Nat.le_refl _
 ·rw[Gp,if_neg hh];simp
theorem PV:∀(k:Nat) (s:List UInt8),(Oc k s).length=k
 | 0,_=>rfl
 | k+1,s=>by rw[Oc,List.length_cons,PV k]
def lJ(a b:List UInt8):List UInt8:=List.zipWith (· ^^^ ·) a b
def YG:List UInt8:=[101,110,99,114,121,112,116]
def iH:List UInt8:=[97,117,116,104,101,110,116,105,99,97,116,101]
def dU(key nonce b:List UInt8):List UInt8:=lJ b (D7 key YG nonce (b.length:Int))
def dV(key nonce ad c:List UInt8):List UInt8:=dR (D7 key iH nonce 32) (Bh 0 [ad,nonce,c])
def iI(nonce c t:List UInt8):List UInt8:=J8 (J8 [] nonce) c++t
def UX(key nonce ad plain:List UInt8):List UInt8 :=
 if 64<nonce.length\/1024<plain.length then [] else iI nonce (dU key nonce plain) (dV key nonce ad (dU key nonce plain))
def PW(key ad b:List UInt8):List UInt8×Int :=
 let n:=bn b 0 0 64
 let c:=bn b n.2.1 n.2.2 1024
 let t:=mD b c.2.1 c.2.2 32
 let e:=jR b t.2.1 t.2.2
 if e≠0 then([],e) else if t.1≠dV key n.1 ad c.1 then([],18) else(dU key n.1 c.1,0)
theorem YH(key nonce ad c:List UInt8):(dV key nonce ad c).length=32:=OW _ _
end Go.Ax
namespace Go.Ax
def CG(b:List UInt8):List UInt8:=b.take 32++(List.replicate 32 0).drop b.length
theorem VZ(b:List UInt8):(CG b).length=32:=by simp[CG];omega
end Go.Ax
namespace Go.Ax
open Go Go.Eng Go.RowKit
variable {auth:List UInt8}{α:Type}(n:Nat)(tag x:Int)(j:Nat)(b a:List UInt8)
theorem ibit_eq(op:BinOp)(a b:Int):BJ op a b=bits op .i64 a b:=by rw[aZ];rfl
theorem Zf:(Bh tag [a]).length=5+a.length:=by
 simp[Bh,fieldsB,NZ];omega
theorem Zg(b:List UInt8):(Bh tag [a,b]).length=9+a.length+b.length:=by
 simp[Bh,fieldsB,NZ];omega
theorem Zh(b c:List UInt8):(Bh tag [a,b,c]).length=13+a.length+b.length+c.length:=by
 simp[Bh,fieldsB,NZ];omega
theorem beB_one:Zv 1 (UInt64.ofInt x)=[UInt8.ofInt x]:=by
 have h:(UInt64.ofInt x).toUInt8=UInt8.ofInt x:=by
  apply UInt8.toNat_inj.1
  rw[UInt64.toNat_toUInt8,UInt64.ofInt,UInt8.ofInt,UInt64.toNat_ofNat',UInt8.toNat_ofNat']
  omega
 have h2:(UInt64.ofInt x)>>>UInt64.ofNat (8*0)=UInt64.ofInt x:=by
  apply UInt64.toNat_inj.1
  rw[UInt64.toNat_shiftRight];simp
 rw[Zv,h2,h];rfl
structure Pub where
 kind:Int
 attr:Int
 height:Int
 policy:List UInt8
 unique:List UInt8
deriving DecidableEq
def YI:Pub:=⟨0,0,0,[],[]⟩
def uniq(k:Int):Int:=if k=2 then 17 else 32
theorem uniq_bd(k:Int):17<=uniq k/\uniq k<=32:=by unfold uniq;split<;>omega
def Tj(p:Pub):Int :=
 if p.kind<1\/3<p.kind then 19
 else if p.attr<0\/7<p.attr\/(bits .and .i64 p.attr 4≠0/\p.kind≠2)\/(bits .and .i64 p.attr 1=0/\p.policy.length=0) then 20
 else if p.height<0\/3<p.height\/(p.height≠0/\p.kind≠2)\/(p.policy.length≠0/\p.policy.length≠32)\/(p.unique.length:Int)≠uniq p.kind then 1 else 0
def Dh(p:Pub):List UInt8:=J8 (J8 [UInt8.ofInt p.kind,UInt8.ofInt p.attr,UInt8.ofInt p.height] p.policy) p.unique
def Ef(b:List UInt8):Pub×Int :=
 let k:=jQ b 0 0 1
 let a:=jQ b k.2.1 k.2.2 1
 let h:=jQ b a.2.1 a.2.2 1
 let o:=bn b h.2.1 h.2.2 32
 let u:=bn b o.2.1 o.2.2 32
 let e:=jR b u.2.1 u.2.2
 if e≠0 then(YI,e) else if Tj ⟨k.1,a.1,h.1,o.1,u.1⟩≠0 then(YI,Tj ⟨k.1,a.1,h.1,o.1,u.1⟩) else(⟨k.1,a.1,h.1,o.1,u.1⟩,0)
structure OkP (p:Pub):Prop where
 kind:1<=p.kind/\p.kind<=3
 attr:0<=p.attr/\p.attr<=7
 height:0<=p.height/\p.height<=3
 policy:p.policy.length<=32
 unique:p.unique.length<=32
def flatP(p:Pub):List UInt8 :=
 Zv 1 (UInt64.ofInt p.kind)++(Zv 1 (UInt64.ofInt p.attr)++(Zv 1 (UInt64.ofInt p.height)++(jS p.policy.length++p.policy++(jS p.unique.length++p.unique++[]))))
theorem encP_flat{p:Pub}(hp:p.policy.length<=65535)(hu:p.unique.length<=65535):Dh p=flatP p:=by
 unfold Dh flatP
 rw[blobB_eq hp,blobB_eq hu,beB_one,beB_one,beB_one]
 simp only[List.append_assoc,List.append_nil,List.cons_append,List.nil_append]
theorem encP_len{p:Pub}(hp:p.policy.length<=65535)(hu:p.unique.length<=65535):(Dh p).length=7+p.policy.length+p.unique.length:=by
 rw[encP_flat hp hu]
 simp only[flatP,List.length_append,ZN,len2_len,List.length_nil];omega
structure Evi where
 machine:Int
 attest:List UInt8
 sig:List UInt8
 log:List UInt8
deriving DecidableEq
def iJ(x:Evi):Prop:=1<=x.machine/\x.machine<=4/\x.attest.length<=1024/\x.sig.length<=1024/\x.log.length<=8192
instance (x:Evi):Decidable (iJ x):=by unfold iJ;infer_instance
def YJ(n:Nat)(b:List UInt8):List UInt8:=b.take n++(List.replicate n 0).drop b.length
theorem Va:(YJ n b).length=n:=by simp[YJ];omega
def iK(k a:Int)(pol:Bool):Int :=
 let x:=if k=2 then a else bits .andNot .i64 a 4
 if pol then x else bits .or .i64 x 1
def YK(p:Pub):Pub :=
  ⟨1+p.kind%3,iK (1+p.kind%3) (p.attr%8) (decide (0<p.policy.length)),if 1+p.kind%3=2 then p.height%2 else 0,
   if 0<p.policy.length then CG p.policy else [],YJ (uniq (1+p.kind%3)).toNat p.unique⟩
def YL(p:Pub):Bool:=decide ((p.policy.length:Int)<=60)&&decide ((p.unique.length:Int)<=60)
def aG(p q:Pub):Bool:=decide (p.kind=q.kind)&&(decide (p.attr=q.attr)&&(decide (p.height=q.height)&&(decide (p.policy=q.policy)&&decide (p.unique=q.unique))))
structure Idx where
 n:Int
 kind:Int
 attr:Int
 size:Int
 policy:List UInt8
 auth:List UInt8
 written:Bool
 data:List UInt8
def iL(x:Idx):List UInt8:=Bz [UInt8.ofInt x.n,UInt8.ofInt x.kind,UInt8.ofInt x.attr] 2 x.size++[if x.written then 1 else 0]
def nameB(p:Pub):List UInt8:=sha256 (Bh 6 [Dh p])
def hierB(h:Int):List UInt8:=if h<0\/3<h then [] else sha256 (Bh 11 [[UInt8.ofInt h]])
theorem YM(x:Idx):(iL x).length=6:=by rw[iL,List.length_append,OO];rfl
structure Sen where
 auth:List UInt8
 seed:List UInt8
 data:List UInt8
abbrev senX(s:Sen):List AV:=[.sl .u8 s.auth,.sl .u8 s.seed,.sl .u8 s.data]
def Vb:Sen:=⟨[],[],[]⟩
def aH:List UInt8:=[115,101,101,100]
def iM:List UInt8:=[112,114,105,118,97,116,101]
def Dv(kind h:Int)(s:Sen):List UInt8:=if kind=2 then Gp s.seed h else sha256 (Bh 13 [s.seed,s.data])
def CQ(secret:List UInt8)(p:Pub)(auth data:List UInt8):Pub×Sen×Int :=
 if Tj ⟨p.kind,p.attr,p.height,p.policy,List.replicate (uniq p.kind).toNat 0⟩≠0 then(YI,Vb,Tj ⟨p.kind,p.attr,p.height,p.policy,List.replicate (uniq p.kind).toNat 0⟩)
 else if 32<auth.length\/128<data.length then(YI,Vb,4)
 else if 0<data.length/\p.kind≠3 then(YI,Vb,1)
 else(⟨p.kind,p.attr,p.height,p.policy,Dv p.kind p.height ⟨auth,D7 secret aH [] 32,data⟩⟩,⟨auth,D7 secret aH [] 32,data⟩,0)
def wkey(par:Sen)(nm:List UInt8):List UInt8:=D7 par.seed iM nm 32
def dW(s:Sen):List UInt8:=J8 (J8 (J8 [] s.auth) s.seed) s.data
def Dn(par:Sen)(p:Pub)(s:Sen):List UInt8:=UX (wkey par (nameB p)) ((nameB p).take 16) (Dh p) (dW s)
def iO(p:Pub)(b:List UInt8):Sen×Int :=
 let a:=bn b 0 0 32
 let d:=bn b a.2.1 a.2.2 32
 let t:=bn b d.2.1 d.2.2 128
 let e:=jR b t.2.1 t.2.2
 if e≠0 then(Vb,e) else if p.unique≠Dv p.kind p.height ⟨a.1,d.1,t.1⟩ then(Vb,18) else(⟨a.1,d.1,t.1⟩,0)
def Di(par:Sen)(p:Pub)(b:List UInt8):Sen×Int :=
 if(PW (wkey par (nameB p)) (Dh p) b).2≠0 then(Vb,(PW (wkey par (nameB p)) (Dh p) b).2) else iO p (PW (wkey par (nameB p)) (Dh p) b).1
def aI(a b:Sen):Bool:=decide (a.auth=b.auth)&&(decide (a.seed=b.seed)&&decide (a.data=b.data))
structure OkS (s:Sen):Prop where
 auth:s.auth.length<=32
 seed:s.seed.length=32
 data:s.data.length<=128
theorem uniB_le(k h:Int)(s:Sen):(Dv k h s).length<=32:=by
 unfold Dv;split
 ·have:=pubK_le s.seed h;omega
 ·rw[Gu];exact Nat.le_refl _
theorem Vd(p:Pub):(nameB p).length=32:=Gu _
theorem Zi(par:Sen)(nm:List UInt8):(wkey par nm).length=32:=OY zf
theorem make_okP{secret data:List UInt8}{p:Pub}(hc:Tj p=0)(ha:auth.length<=32)(hd:data.length<=128)(hk:0<data.length->p.kind=3):
  CQ secret p auth data=(⟨p.kind,p.attr,p.height,p.policy,Dv p.kind p.height ⟨auth,D7 secret aH [] 32,data⟩⟩,⟨auth,D7 secret aH [] 32,data⟩,0):=by
 have h0:Tj ⟨p.kind,p.attr,p.height,p.policy,List.replicate (uniq p.kind).toNat 0⟩=0:=by
  have hu:=uniq_bd p.kind
  unfold Tj at hc ⊢
  split at hc
  ·simp at hc
  rename_i g1
  split at hc
  ·simp at hc
  rename_i g2
  split at hc
  ·simp at hc
  rename_i g3
  rw[if_neg g1,if_neg g2,if_neg]
  rintro(q|q|q|q|q)
  ·exact g3 (.inl q)
  ·exact g3 (.inr (.inl q))
  ·exact g3 (.inr (.inr (.inl q)))
  ·exact g3 (.inr (.inr (.inr (.inl q))))
  ·simp only[List.length_replicate] at q;omega
 rw[CQ,if_neg (by rw[h0];simp),if_neg zf,if_neg (by intro q;exact q.2 (hk q.1))]
theorem make_len{secret data:List UInt8}{p:Pub}:(CQ secret p auth data).1.unique.length<=32/\(CQ secret p auth data).1.policy.length<=p.policy.length/\(CQ secret p auth data).2.1.auth.length<=32/\(CQ secret p auth data).2.1.seed.length<=32/\(CQ secret p auth data).2.1.data.length<=128:=by
 unfold CQ
 split
 ·simp[YI,Vb]
 ·split
  ·simp[YI,Vb]
  ·split
   ·simp[YI,Vb]
   ·have h1:=uniB_le p.kind p.height ⟨auth,D7 secret aH [] 32,data⟩
    have h2:=OY (key:=secret) (label:=aH) (ctx:=[]) (n:=32) zf
    refine⟨h1,Nat.le_refl _,?_,?_,?_⟩<;>simp only<;>omega
theorem mf(x:α)(l:List α):BA (x::l) 0=some x:=by rw[Nl];simp[lget0]
theorem mi(x y:α)(l:List α):BA (x::y::l) 1=some y:=by rw[Nl];simp[lget0]
theorem mr(x y z:α)(l:List α):BA (x::y::z::l) 2=some z:=by rw[Nl];simp[lget0]
abbrev lK(p:Pub)(s:Sen)(h:Int):El objT:=((p.kind,p.attr,p.height,p.policy,p.unique),(s.auth,s.seed,s.data),h)
def obj0:El objT:=((0,0,0,[],[]),([],[],[]),0)
def ses0:El Gi:=(0,[],[],0,0,0,0,false)
def QT:List (El objT)->Nat
 | []=>0
 | x::l=>if x.1.1=0 then 0 else QT l+1
def slotAt(ob:List (El objT))(h:Int):Option (El objT):=if 512<=h then(match ob[(h-512).toNat]? with|some x=>if x.1.1=0 then none else some x|none=>none) else none
def iP:List UInt8:=[112,114,105,109,97,114,121]
def iQ:List UInt8:=[114,97,110,100,111,109]
def entrL:List UInt8:=[101,110,116,114,111,112,121]
noncomputable def Dp(seed:List UInt8)(k a h:Int)(o data:List UInt8):List UInt8:=D7 seed iP (Bh 0 [[D5 k,D5 a,D5 h],o,data]) 32
structure Ans where
 err:Int
 ints:List Int
 blobs:List (List UInt8)
def Fe(ob:List (El objT))(p:Pub)(s:Sen)(h:Int)(blobs:List (List UInt8)):List (El objT)×Ans :=
 if QT ob<ob.length then(ob.set (QT ob) (lK p s h),⟨0,[512+(QT ob:Int)],blobs⟩) else(ob,⟨25,[],[]⟩)
noncomputable def Dt(sd:List (List UInt8))(ob:List (El objT))(h k a t:Int)(o auth data:List UInt8):List (El objT)×Ans :=
  if 0<=h/\h<sd.length then
    (let m:=CQ (Dp (sd.getD h.toNat []) k a t o data) ⟨k,a,t,o,[]⟩ auth data
     if m.2.2≠0 then(ob,⟨m.2.2,[],[]⟩) else Fe ob m.1 m.2.1 h [Dh m.1,nameB m.1])
  else(ob,⟨7,[],[]⟩)
def aJ(n:Nat)(j:Nat):List (List UInt8):=(List.range j).map fun i=>List.replicate n (if 12<=i then 255 else 0)
theorem bankJ_succ:aJ n (j+1)=aJ n j++[List.replicate n (if 12<=j then 255 else 0)]:=by simp[aJ,List.range_succ]
theorem Ve:(aJ n j).length=j:=by simp[aJ]
def bankB(n:Nat):List (List UInt8):=aJ n 16
def sizB(b:Int):Int:=if b=0 then 20 else if b=1 then 32 else 0
theorem bank_app(b:Int)(n j:Nat)(hn:(sizB b).toNat=n):Aw (aJ n j) [List.replicate (sizB b).toNat (if(12:Int)<=(j:Int) then(255:UInt8) else 0)]=aJ n (j+1):=by
 rw[UH,bankJ_succ,hn]
 by_cases h:12<=j
 ·rw[if_pos zf,if_pos h]
 ·rw[if_neg zf,if_neg h]
theorem rep_set(k:Nat)(x:UInt8):(List.replicate j x++List.replicate (k+1) 0).set j x=List.replicate (j+1) x++List.replicate k 0:=by
 rw[List.set_append_right _ _ zB]
 simp only[List.length_replicate,Nat.sub_self,List.replicate_succ,List.set_cons_zero]
 rw[<-List.replicate_succ,List.replicate_succ',List.append_assoc];rfl
def newRB(ac:Int):List (List (List UInt8)):=if ac%4=0 then [] else [if ac%2=1 then bankB 20 else [],if ac/2%2=1 then bankB 32 else []]
def seedsE(en:List UInt8):List (List UInt8):=[D7 en aH [0] 32,D7 en aH [1] 32,D7 en aH [2] 32]
def iR(en:List UInt8)(re rs dr n:Int):List UInt8:=D7 en iQ (Bz (Bz (Bz [] 8 re) 8 rs) 8 dr) n
def Hz(par:Sen)(en:List UInt8)(re rs dr k a t:Int)(o auth data:List UInt8):Int×Ans :=
 let m:=CQ (iR en re rs dr 32) ⟨k,a,t,o,[]⟩ auth data
 if m.2.2≠0 then(dr,⟨m.2.2,[],[]⟩) else(dr+1,⟨0,[],[Dh m.1,Dn par m.1 m.2.1]⟩)
def I4(ob:List (El objT))(par:Sen)(hier:Int)(pub priv:List UInt8):List (El objT)×Ans :=
 if(Ef pub).2≠0 then(ob,⟨(Ef pub).2,[],[]⟩)
 else if(Di par (Ef pub).1 priv).2≠0 then(ob,⟨(Di par (Ef pub).1 priv).2,[],[]⟩)
 else Fe ob (Ef pub).1 (Di par (Ef pub).1 priv).1 hier [nameB (Ef pub).1]
def keyAt(u:List UInt8):List (El IJ)->Nat
 | []=>0
 | x::l=>if x.1=u then 0 else keyAt u l+1
def Ff(ks:List (El IJ))(u:List UInt8)(h:Int):List (El IJ)×Int×Int :=
 if keyAt u ks<ks.length then
  (if(2:Int)^h.toNat<=(ks.getD (keyAt u ks) ([],0)).2 then(ks,0,26) else(ks.set (keyAt u ks) ((ks.getD (keyAt u ks) ([],0)).1,(ks.getD (keyAt u ks) ([],0)).2+1),(ks.getD (keyAt u ks) ([],0)).2,0))
 else if 8<=ks.length then(ks,0,25) else(ks++[(u,1)],0,0)
theorem prim_ex{sd:List (List UInt8)}{ob:List (El objT)}{h k a t:Int}{o d:List UInt8}(hh:0<=h/\h<sd.length)(hf:QT ob<ob.length)(hc:Tj ⟨k,a,t,o,List.replicate (uniq k).toNat 0⟩=0)(ha:auth.length<=32)(hd:d.length<=128)(hk:0<d.length->k=3):
  ∃ S,S=D7 (Dp (sd.getD h.toNat []) k a t o d) aH [] 32/\S.length=32/\Dt sd ob h k a t o auth d=(ob.set (QT ob) ((k,a,t,o,Dv k t ⟨auth,S,d⟩),(auth,S,d),h),⟨0,[512+(QT ob:Int)],[Dh ⟨k,a,t,o,Dv k t ⟨auth,S,d⟩⟩,nameB ⟨k,a,t,o,Dv k t ⟨auth,S,d⟩⟩]⟩):=by
 refine⟨_,rfl,OY (n:=32) zf,?_⟩
 have hm:=make_okP (secret:=Dp (sd.getD h.toNat []) k a t o d) hc ha hd hk
 unfold Dt
 rw[if_pos hh,show CQ (Dp (sd.getD h.toNat []) k a t o d) ⟨k,a,t,o,[]⟩ auth d=CQ (Dp (sd.getD h.toNat []) k a t o d) ⟨k,a,t,o,List.replicate (uniq k).toNat 0⟩ auth d from rfl,hm]
 simp only[ne_eq,not_true_eq_false,if_false]
 unfold Fe
 rw[if_pos hf]
theorem seedsE_len(en:List UInt8):(seedsE en).length=3:=rfl
theorem seedsE_le(en:List UInt8):∀ l∈seedsE en,l.length<=1000:=by
 intro l hl
 simp only[seedsE,List.mem_cons,List.not_mem_nil,or_false] at hl
 rcases hl with rfl|rfl|rfl<;>(rw[OY zf];decide)
abbrev ansX(a:Ans):List AV:=[.i a.err,.sl .i64 a.ints,.sl (.sl .u8) a.blobs,.sl (.sl .u8) []]
@[reducible] def sC (sd au:List (List UInt8)) (en:List UInt8) (ac re rs ck:Int) (od:Bool) (sb:List (List (List UInt8))) (su mc:Int) (ix:List (El FU)) (l1 l2 l3 l4 l5 l6:Int) (ks:List (El IJ)) (st sp:Bool) (rb:List (List (List UInt8))) (ru vc:Int) (sf:Bool) (dr:Int) (ss:List (El Gi)) (ob:List (El objT)) (rl wl:List Int):List AV:=[.sl (.sl .u8) sd,.sl (.sl .u8) au,.sl .u8 en,.i ac,.i re,.i rs,.i ck,.b od,.sl (.sl (.sl .u8)) sb,.i su,.i mc,.sl FU ix,.i l1,.i l2,.i l3,.i l4,.i l5,.i l6,.sl IJ ks,.b st,.b sp,.sl (.sl (.sl .u8)) rb,.i ru,.i vc,.b sf,.i dr,.sl Gi ss,.sl objT ob,.sl .i64 rl,.sl .i64 wl]
@[reducible] def sX (sd au:List (List UInt8)) (en:List UInt8) (ac re rs ck:Int) (od:Bool) (sb:List (List (List UInt8))) (su mc:Int) (ix:List (El FU)) (l1 l2 l3 l4 l5 l6:Int) (ks:List (El IJ)) (st sp:Bool) (rb:List (List (List UInt8))) (ru vc:Int) (sf:Bool) (dr:Int) (ss:List (El Gi)) (ob:List (El objT)) (rl wl:List Int):AV:=.agg (sC sd au en ac re rs ck od sb su mc ix l1 l2 l3 l4 l5 l6 ks st sp rb ru vc sf dr ss ob rl wl)
theorem NE{p:Prop}(h:p:=by first|omega|decide|assumption|(simp only[VZ,Gu,Vt,Zf,Zg,Zh,Vd,Zi,Xa,XZ,XY,OO,XX,ZO,Ve,Xw,Rx,OW,VV,OX,Rz,OZ,VY,Ti,Va,YM,YH,Zd,Ze,PV,LL] at *<;>omega)|(simp;omega)):p:=h
theorem twe{a b:α}(e:Xd a b:=by(try rewrite[fU]);(try rewrite[fV]);(conv=>arg 1;whnf);(repeat first|(dsimp -iota -beta -eta -zeta only)|((first|rewrite[Ls NE]|rewrite[bf NE]|rewrite[bY NE]|rewrite[UK]|rewrite[bi]|rewrite[dB gI]|rewrite[dC gI]|rewrite[fZ]|rewrite[gB]|rewrite[gG]|rewrite[Y_go2]|rewrite[Y_go3]|rewrite[Y_go4]|rewrite[decide_eq_true NE]|rewrite[decide_eq_false NE]|rewrite[fH NE]|rewrite[fJ NE]|rewrite[fK NE]|rewrite[fM NE]|rewrite[fD NE]|rewrite[fE NE]|rewrite[fF NE]|rewrite[fG NE]|rewrite[fO NE]|rewrite[fP NE]|rewrite[bg rfl]|rewrite[drw zi]|rewrite[We rfl]|rewrite[XV]|rewrite[cZ NE]|rewrite[bZ NE]|rewrite[mf]|rewrite[mi]|rewrite[mr]);(conv=>arg 1;whnf))|rewrite[VJ]|rewrite[VK]|rewrite[VL]|rewrite[VM]|rewrite[VN]|rewrite[VO]|rewrite[TK]|rewrite[TL]|rewrite[TM]|rewrite[TN]|rewrite[TP]|rewrite[TQ]|((first|rewrite[ZF NE]|rewrite[ZG NE]|rewrite[ZH NE]);try dsimp -iota -beta -eta -zeta only[Int.reduceAdd,Int.reduceSub,Int.reduceMul])|rewrite[ZI NE]|rewrite[ZJ NE]|rewrite[ZK NE]|rewrite[ZL NE]|rewrite[ZM NE]|rewrite[OQ]|rewrite[TR]);exact Xd.rf _):Xd a b:=e
theorem tw{P:α->Prop}{a b:α}(h:P b)(e:Xd a b:=by exact twe):P a:=by rw[Xd.eq e];exact h
theorem twn{β:Type}{P:α->Prop}{a b:α}{x y:β}(z:x=y)(h:P b)(e:x=y->Xd a b:=by intro z;rewrite[z];clear z;exact twe):P a:=by rw[Xd.eq (e z)];exact h
theorem tqe{a b:α}(e:Xd a b:=by(try rewrite[fU]);(try rewrite[fV]);(conv=>arg 1;whnf);(repeat first|(dsimp -iota -beta -eta -zeta only)|((first|rewrite[Ls NE]|rewrite[bf NE]|rewrite[bY NE]|rewrite[UK]|rewrite[bi]|rewrite[dB gI]|rewrite[dC gI]|rewrite[fZ]|rewrite[gB]|rewrite[gG]|rewrite[Y_go2]|rewrite[Y_go3]|rewrite[Y_go4]|rewrite[decide_eq_true NE]|rewrite[decide_eq_false NE]|rewrite[fH NE]|rewrite[fJ NE]|rewrite[fK NE]|rewrite[fM NE]|rewrite[fD NE]|rewrite[fE NE]|rewrite[fF NE]|rewrite[fG NE]|rewrite[fO NE]|rewrite[fP NE]|rewrite[bg rfl]|rewrite[drw zi]|rewrite[We rfl]|rewrite[XV]|rewrite[cZ NE]|rewrite[bZ NE]|rewrite[mf]|rewrite[mi]|rewrite[mr]|rewrite[lget_n NE]);(conv=>arg 1;whnf))|rewrite[VJ]|rewrite[VK]|rewrite[VL]|rewrite[VM]|rewrite[VN]|rewrite[VO]|rewrite[TK]|rewrite[TL]|rewrite[TM]|rewrite[TN]|rewrite[TP]|rewrite[TQ]|rewrite[ZF NE]|rewrite[ZG NE]|rewrite[ZH NE]|rewrite[ZI NE]|rewrite[ZJ NE]|rewrite[ZK NE]|rewrite[ZL NE]|rewrite[ZM NE]|rewrite[OQ]|rewrite[TR]);exact Xd.rf _):Xd a b:=e
theorem tq{a b c:α}(h:b=c)(e:Xd a b:=by exact tqe):a=c:=(Xd.eq e).trans h
theorem nD{a b:α}(e:Xd a b:=by(try rewrite[fU]);(try rewrite[fV]);(conv=>arg 1;whnf);(repeat first|(dsimp -iota -beta -eta -zeta only)|((first|rewrite[Ls NE]|rewrite[bf NE]|rewrite[bY NE]|rewrite[UK]|rewrite[bi]|rewrite[dB gI]|rewrite[dC gI]|rewrite[fZ]|rewrite[gB]|rewrite[gG]|rewrite[Y_go2]|rewrite[Y_go3]|rewrite[Y_go4]|rewrite[decide_eq_true NE]|rewrite[decide_eq_false NE]|rewrite[fH NE]|rewrite[fJ NE]|rewrite[fK NE]|rewrite[fM NE]|rewrite[fD NE]|rewrite[fE NE]|rewrite[fF NE]|rewrite[fG NE]|rewrite[fO NE]|rewrite[fP NE]|rewrite[bg rfl]|rewrite[drw zi]|rewrite[We rfl]|rewrite[XV]|rewrite[cZ NE]|rewrite[bZ NE]|rewrite[mf]|rewrite[mi]|rewrite[mr]);(conv=>arg 1;whnf))|rewrite[VJ]|rewrite[VK]|rewrite[VL]|rewrite[VM]|rewrite[VN]|rewrite[VO]|rewrite[TK]|rewrite[TL]|rewrite[TM]|rewrite[TN]|rewrite[TP]|rewrite[TQ]|rewrite[ZF NE]|rewrite[ZG NE]|rewrite[ZH NE]|rewrite[ZI NE]|rewrite[ZJ NE]|rewrite[ZK NE]|rewrite[ZL NE]|rewrite[ZM NE]|rewrite[OQ]|rewrite[TR]);exact Xd.rf _):Xd a b:=e
theorem to{a b c:α}(h:b=c)(e:Xd a b:=by exact nD):a=c:=(Xd.eq e).trans h
theorem tpe{a b:α}(e:Xd a b:=by(try rewrite[fU]);(try rewrite[fV]);(conv=>arg 1;whnf);(repeat first|(dsimp -iota -beta -eta -zeta only)|((first|rewrite[Ls NE]|rewrite[bf NE]|rewrite[bY NE]|rewrite[UK]|rewrite[bi]|rewrite[dB gI]|rewrite[dC gI]|rewrite[fZ]|rewrite[gB]|rewrite[gG]|rewrite[Y_go2]|rewrite[Y_go3]|rewrite[Y_go4]|rewrite[decide_eq_true NE]|rewrite[decide_eq_false NE]|rewrite[fH NE]|rewrite[fJ NE]|rewrite[fK NE]|rewrite[fM NE]|rewrite[fD NE]|rewrite[fE NE]|rewrite[fF NE]|rewrite[fG NE]|rewrite[fO NE]|rewrite[fP NE]|rewrite[bg rfl]|rewrite[drw zi]|rewrite[We rfl]|rewrite[XV]|rewrite[cZ NE]|rewrite[bZ NE]|rewrite[mf]|rewrite[mi]|rewrite[mr]|rewrite[lget_n NE]);(conv=>arg 1;whnf))|rewrite[VJ]|rewrite[VK]|rewrite[VL]|rewrite[VM]|rewrite[VN]|rewrite[VO]|rewrite[TK]|rewrite[TL]|rewrite[TM]|rewrite[TN]|rewrite[TP]|rewrite[TQ]|rewrite[OQ]|rewrite[TR]);exact Xd.rf _):Xd a b:=e
theorem tp{a b c:α}(h:b=c)(e:Xd a b:=by exact tpe):a=c:=(Xd.eq e).trans h
def bl(x:List UInt8):List UInt8:=jS x.length++x
def n8(x:Int):List UInt8:=Zv 8 (UInt64.ofInt x)
def n2(x:Int):List UInt8:=Zv 2 (UInt64.ofInt x)
def iw(b:Bool):UInt8:=if b then 1 else 0
theorem bl_len(x:List UInt8):(bl x).length=2+x.length:=by simp[bl,len2_len]
theorem n8_len:(n8 x).length=8:=ZN _ _
theorem n2_len:(n2 x).length=2:=ZN _ _
theorem blob_bl{b x:List UInt8}(h:x.length<=65535):J8 b x=b++bl x:=by rw[blobB_eq h,bl,List.append_assoc]
theorem uint_n8(x:Int):Bz b 8 x=b++n8 x:=XW (n:=8) zf
theorem uint_n2(x:Int):Bz b 2 x=b++n2 x:=XW (n:=2) zf
def n4(x:Int):List UInt8:=Zv 4 (UInt64.ofInt x)
theorem n4_len:(n4 x).length=4:=ZN _ _
theorem uint_n4(x:Int):Bz b 4 x=b++n4 x:=XW (n:=4) zf
def markB(q:Int)(p:List UInt8):List UInt8:=sha256 (Bh 12 [n8 q,p])
def rcdB(q:Int)(p:List UInt8):List UInt8:=markB q p++n8 q++n4 (p.length:Int)++p
theorem markB_len(q:Int)(p:List UInt8):(markB q p).length=32:=Gu _
theorem rcdB_len(q:Int)(p:List UInt8):(rcdB q p).length=44+p.length:=by simp[rcdB,markB_len,n8_len,n4_len];omega
def lL(rb:List (List (List UInt8))):Int:=(if(rb.getD 0 []).length=16 then 1 else 0)+(if(rb.getD 1 []).length=16 then 2 else 0)
def lM(rb:List (List (List UInt8)))(ru:Int):List UInt8:=UInt8.ofInt (lL rb)::(n8 ru++rb.flatten.flatten)
theorem regB0(u:Int):lM [] u=0::n8 u:=by
 simp only[lM,List.flatten_nil,List.append_nil];rfl
def lN(x:El FU):List UInt8:=UInt8.ofInt x.1::UInt8.ofInt x.2.1::UInt8.ofInt x.2.2.1::(n2 x.2.2.2.1++(iw x.2.2.2.2.2.2.1::(bl x.2.2.2.2.1++(bl x.2.2.2.2.2.1++bl x.2.2.2.2.2.2.2))))
def lQ(x:El IJ):List UInt8:=bl x.1++[UInt8.ofInt x.2]
def encS(sd au:List (List UInt8))(en:List UInt8)(ac re rs ck:Int)(od:Bool)(sb:List (List (List UInt8)))(su mc:Int)(ix:List (El FU))(l1 l2 l3 l4 l5 l6:Int)(ks:List (El IJ)):List UInt8 :=
 [1,UInt8.ofInt ac]++bl (sd.getD 0 [])++bl (sd.getD 1 [])++bl (sd.getD 2 [])++bl (au.getD 0 [])++bl (au.getD 1 [])++bl (au.getD 2 [])++bl (au.getD 3 [])++bl en++n8 re++n8 rs++n8 ck++[iw od]++bl (lM sb su)++n8 mc
  ++ [UInt8.ofInt (ix.length:Int)]++ix.flatMap lN++n8 l1++n8 l2++n8 l3++n8 l4++n8 l5++n8 l6++[UInt8.ofInt (ks.length:Int)]++ks.flatMap lQ
@[reducible] def nS (sd au:List (List UInt8)) (en:List UInt8) (ac re rs ck:Int) (od:Bool) (sb:List (List (List UInt8))) (su mc:Int) (ix:List (El FU)) (l1 l2 l3 l4 l5 l6:Int) (ks:List (El IJ)):List AV:=[.sl (.sl .u8) sd,.sl (.sl .u8) au,.sl .u8 en,.i ac,.i re,.i rs,.i ck,.b od,.sl (.sl (.sl .u8)) sb,.i su,.i mc,.sl FU ix,.i l1,.i l2,.i l3,.i l4,.i l5,.i l6,.sl IJ ks]
structure stOK (sd au:List (List UInt8)) (en:List UInt8) (ac re rs ck su mc:Int) (ix:List (El FU)) (l1 l2 l3 l4 l5 l6:Int) (ks:List (El IJ)):Prop where
 sl:sd.length=3
 al:au.length=4
 sm:∀ x∈sd,x.length<=1000
 am:∀ x∈au,x.length<=1000
 en:en.length<=1000
 ac:0<=ac/\ac<=3
 re:0<=re/\re<=1000000
 rs:0<=rs/\rs<=1000000
 ck:0<=ck/\ck<=2000000000000
 su:0<=su/\su<=1000000
 mc:0<=mc/\mc<=2000000000000
 il:ix.length<=6
 im:∀ x∈ix,iU x
 lk:Zj l1 l2 l3 l4 l5 l6
 kl:ks.length<=8
 km:∀ x∈ks,iW x
@[reducible] def nG (ar:List (List UInt8)) (wr cu to:Int) (of:Bool) (sd au:List (List UInt8)) (en:List UInt8) (ac re rs ck:Int) (od:Bool) (sb:List (List (List UInt8))) (su mc:Int) (ix:List (El FU)) (l1 l2 l3 l4 l5 l6:Int) (ks:List (El IJ)) (st sp:Bool) (rb:List (List (List UInt8))) (ru vc:Int) (sf:Bool) (dr:Int) (ss:List (El Gi)) (ob:List (El objT)) (rl wl:List Int) (on:Bool) (nx:Int):AV :=
 .agg [.sl (.sl .u8) ar,.i wr,.i cu,.i to,.b of,.sl (.sl .u8) sd,.sl (.sl .u8) au,.sl .u8 en,.i ac,.i re,.i rs,.i ck,.b od,.sl (.sl (.sl .u8)) sb,.i su,.i mc,.sl FU ix,.i l1,.i l2,.i l3,.i l4,.i l5,.i l6,.sl IJ ks,.b st,.b sp,.sl (.sl (.sl .u8)) rb,.i ru,.i vc,.b sf,.i dr,.sl Gi ss,.sl objT ob,.sl .i64 rl,.sl .i64 wl,.b on,.i nx]
@[reducible] def nT (ar:List (List UInt8)) (wr cu to:Int) (of on:Bool) (nx:Int):AV:=nG ar wr cu to of [] [] [] 0 0 0 0 false [] 0 0 [] 0 0 0 0 0 0 [] false false [] 0 0 false 0 [] [] [] [] on nx
@[reducible] def nU:List AV:=[.i 1,.i 0,.i 0,.i 1,.i 0,.i 2,.i 0,.i 0,.i 1,.i 0,.i 4,.i 0,.i 0,.i 0,.i 0,.i 5,.i 0,.i 0,.i 2,.i 0,.i 6,.i 0,.i 0,.i 1,.i 2,.i 7,.i 0,.i 0,.i 1,.i 1,.i 8,.i 0,.i 0,.i 1,.i 0,.i 9,.i 1,.i 1,.i 3,.i 3,.i 10,.i 1,.i 1,.i 3,.i 3,.i 11,.i 1,.i 1,.i 0,.i 2,.i 12,.i 0,.i 0,.i 1,.i 0,.i 13,.i 1,.i 1,.i 0,.i 0,.i 14,.i 1,.i 1,.i 0,.i 1,.i 15,.i 1,.i 1,.i 2,.i 1,.i 16,.i 0,.i 0,.i 1,.i 0,.i 17,.i 0,.i 0,.i 6,.i (-1),.i 18,.i 1,.i 1,.i 2,.i 1,.i 19,.i 0,.i 0,.i 1,.i 3,.i 20,.i 0,.i 0,.i 1,.i 0,.i 21,.i 1,.i 1,.i 4,.i 2,.i 22,.i 1,.i 1,.i 1,.i 0,.i 23,.i 2,.i 1,.i 1,.i 1,.i 24,.i 2,.i 1,.i 2,.i 0,.i 25,.i 2,.i 1,.i 0,.i 0,.i 26,.i 2,.i 1,.i 0,.i 1,.i 27,.i 2,.i 1,.i 0,.i 1,.i 28,.i 2,.i 1,.i 0,.i 0,.i 29,.i 2,.i 1,.i 0,.i 0,.i 30,.i 1,.i 1,.i 0,.i 1,.i 31,.i 1,.i 1,.i 0,.i 0,.i 32,.i 1,.i 1,.i 0,.i 0,.i 33,.i 1,.i 1,.i 3,.i 0]
def lS(x:El MR):List UInt8:=n2 x.1++(bl x.2.1++bl x.2.2)
def aN(c:Int)(hs:List Int)(az:List (El MR))(is:List Int)(bs:List (List UInt8)):List UInt8 :=
 hs.flatMap n2++az.flatMap lS++is.flatMap n8++[UInt8.ofInt (bs.length:Int)]++bs.flatMap bl
def lT(c:Int)(hs:List Int)(az:List (El MR))(is:List Int)(bs:List (List UInt8)):List UInt8 :=
 [83,87]++n2 (5+(aN c hs az is bs).length:Int)++[UInt8.ofInt c]++aN c hs az is bs
def respB(e:Int)(is:List Int)(bs ns:List (List UInt8)):List UInt8 :=
 if e≠0 then [UInt8.ofInt e] else [UInt8.ofInt e,UInt8.ofInt (is.length:Int)]++is.flatMap n8++[UInt8.ofInt (bs.length:Int)]++bs.flatMap bl++[UInt8.ofInt (ns.length:Int)]++ns.flatMap bl
end Go.Ax
