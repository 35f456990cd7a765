/- Own texts of this claim: contracts of functions. -/
import Derived.Test.YtlpkjhhfhannpaaGreatDoorBtah
import Derived.Test.YtlpkjhhfhannpaaGreatDoorBtaj
set_option linter.all false
set_option maxHeartbeats 40000000
set_option maxRecDepth 100000
namespace Go.Ax
open Go Go.Eng Go.RowKit
def ZI(h:Int):List (El Bf)->Nat
 | []=>0
 | x::l=>if h=256+x.1 then 0 else ZI h l+1
def ixI(h:Int)(l:List (El Bf)):Int:=if ZI h l<l.length then(ZI h l:Int) else -1
theorem A5E(h:Int)(l:List (El Bf)): -1<=ixI h l/\ixI h l<l.length:=by unfold ixI;split<;>omega
def yx(h:Int)(l:List (El objT)):Int:=if GG l h=none then -1 else h-512
theorem qg{l:List (El objT)}{h:Int}{x:El objT}(e:GG l h=some x):512<=h/\l[(h-512).toNat]?=some x/\x.1.1≠0:=by
 unfold GG at e
 split at e
 ·rename_i h0
  split at e
  ·rename_i y hy
   split at e
   ·cases e
   ·cases e;exact⟨h0,hy,by assumption⟩
  ·cases e
 ·cases e
theorem wE(h:Int)(l:List (El objT)): -1<=yx h l/\yx h l<l.length:=by
 unfold yx
 split
 ·omega
 ·rename_i hn
  obtain⟨x,hx⟩:=Option.ne_none_iff_exists'.1 hn
  obtain⟨h1,h2,_⟩:=qg hx
  have h3:=(List.getElem?_eq_some_iff.1 h2).1
  omega
theorem A7u{h:Int}{l:List (El objT)}{j:Nat}(hj:j<l.length):yx h l=(j:Int)↔h=512+(j:Int)/\(l[j]'hj).1.1≠0:=by
 unfold yx GG
 by_cases hh:h=512+(j:Int)
 ·subst hh;rw[if_pos (show(512:Int)<=512+(j:Int) by omega),show(512+(j:Int)-512).toNat=j by omega,List.getElem?_eq_getElem hj]
  by_cases hk:(l[j]'hj).1.1=0
  ·simp only[hk,if_true];constructor
   ·intro e;omega
   ·intro e;exact absurd rfl e.2
  ·simp only[if_neg hk,reduceCtorEq,if_false];constructor
   ·intro _;exact⟨trivial,hk⟩
   ·intro _;omega
 ·constructor
  ·intro e
   split at e
   ·omega
   ·omega
  ·intro e;exact absurd e.1 hh
end Go.Ax
namespace Go.Ax
open Go.Eng
theorem A5F(par s:Sen)(p:Pub):(F5 par p s).length<=1200:=by
 unfold F5
 have hn:=DD p
 by_cases h:1024<(Yi s).length
 ·rw[Pv,if_pos (.inr h)];simp
 ·rw[ak zaX zaa,List.length_take];omega
end Go.Ax
namespace Go.Ax
open Go Go.Eng Go.RowKit
noncomputable def Jh(ks:List (El E8))(p1 p2 p3:Int)(p5 s2 m:List UInt8):List (El E8)×Ans :=
 if p1≠2 then(ks,⟨19,[],[]⟩) else if BC .and p2 4≠0 then(ks,⟨20,[],[]⟩) else if 128<m.length then(ks,⟨4,[],[]⟩)
 else if(JE ks p5 p3).2.2≠0 then(ks,⟨(JE ks p5 p3).2.2,[],[]⟩) else((JE ks p5 p3).1,⟨0,[],[GI s2 p3 (JE ks p5 p3).2.1 m]⟩)
noncomputable def Ha(ks:List (El E8))(p1 p2 p3:Int)(p5 s2 m:List UInt8)(e:Int)(a:Att):List (El E8)×Ans :=
 if p1≠2 then(ks,⟨19,[],[]⟩) else if BC .and p2 4=0 then(ks,⟨20,[],[]⟩) else if 128<m.length then(ks,⟨4,[],[]⟩)
 else if e≠0 then(ks,⟨e,[],[]⟩)
 else if(JE ks p5 p3).2.2≠0 then(ks,⟨(JE ks p5 p3).2.2,[],[]⟩) else((JE ks p5 p3).1,⟨0,[],[Jk a,GI s2 p3 (JE ks p5 p3).2.1 (Jk a)]⟩)
theorem Kp.clear{a k:Int}{s:MS}(h:Kp a k s)(hk:k<=900){x0 x1 R x2 x3:List UInt8}(f0:x0.length=32)(f1:x1.length=32)(fR:R.length=32)(f2:x2.length<=32)(f3:x3.length<=32):Kp a (k+1) {s with sd:=[x0,R,x1],au:=[x2,[],x3,[]],ix:=[],l1:=0,l2:=5,l3:=100,l4:=0,l5:=0,l6:=1000,dr:=s.dr+1,ss:=BU 3 (0,[],[],0,0,0,0,false),ob:=BU 3 ((0,0,0,[],[]),([],[],[]),0),rl:=[],wl:=[]}:=by
 have h0:=h.kk
 have hd:=h.dr
 have h3:=A47 (n:=3) (x:=((0,[],[],0,0,0,0,false):El sesT)) (p:=O7) zaj ⟨by decide,by decide⟩
 have h4:=A47 (n:=3) (x:=(((0,0,0,[],[]),([],[],[]),0):El objT)) (p:=O8) zaj ⟨by decide,by decide,by decide,by decide,by decide,by decide,by decide⟩
 have e3:∀ {n:Nat},(n:Int)=3->n=3:=fun h=>zaa
 exact {h.up (k':=k+1) zaa with sdl:=rfl,sdm:=(by simp only[List.forall_mem_cons,List.not_mem_nil,false_implies,implies_true,and_true];exact⟨f0,fR,f1⟩),aul:=rfl,aum:=(by simp only[List.forall_mem_cons,List.not_mem_nil,false_implies,implies_true,and_true,List.length_nil];exact⟨f2,by decide,f3,by decide⟩),ixl:=zat,ixm:=zat,lk:=(show VV 0 5 100 0 0 1000 from by unfold VV;decide),dr:=za1,ssl:=e3 h3.1,ssm:=h3.2,obl:=e3 h4.1,obm:=h4.2,rl:=(by simp only[List.length_nil];omega),wl:=(by simp only[List.length_nil];omega)}
end Go.Ax
namespace Go.Proofs.YtlpkjhhfhannpaaGreatDoor
open Go Go.Ax Go.Eng
attribute [local irreducible] CS Cj CP CW CQ BC Cm ED ES Dx EG CJ Bi Ce CX and' Cf CU BL Au BI BP BR Ag Ai AY Ae D5 EJ D6 DX Cb BZ BQ BM BO BJ AZ BK Aj Ak Ap D7 BB CV BU BF CO D8 Cc fits D9 Ci AC AQ Ah
section
variable (c:Int)(hs:List Int)(az:List (El AB))(is:List Int)(bs:List (List UInt8))
theorem A54:Y E0 (.call 49 [.i 1] [])=some (.ret (.tup [.agg [.i 0,.i 0,.i 1,.i 0],.b true]) []):=by
 refine tq ?_;rw[Eb];refine tq ?_;rfl
theorem A55:Y E0 (.call 49 [.i 9] [])=some (.ret (.tup [.agg [.i 1,.i 1,.i 3,.i 3],.b true]) []):=by
 refine tq ?_;rw[Eb];refine tq ?_;rfl
theorem A18:Y E0 (.call 49 [.i 13] [])=some (.ret (.tup [.agg [.i 1,.i 1,.i 0,.i 0],.b true]) []):=by
 refine tq ?_;rw[Eb];refine tq ?_;rfl
theorem A19:Y E0 (.call 49 [.i 16] [])=some (.ret (.tup [.agg [.i 0,.i 0,.i 1,.i 0],.b true]) []):=by
 refine tq ?_;rw[Eb];refine tq ?_;rfl
theorem A1A:Y E0 (.call 49 [.i 17] [])=some (.ret (.tup [.agg [.i 0,.i 0,.i 6,.i (-1)],.b true]) []):=by
 refine tq ?_;rw[Eb];refine tq ?_;rfl
theorem pz(c:Int)(hs:List Int)(az:List (El AB))(is:List Int)(bs:List (List UInt8))(hl:hs.length<=10):∀(k j:Nat) (b:List UInt8),j+k=hs.length->b.length+2*k<=1000 ->
  Y E0 (.loop 25 0 0 2 [(1,.pa 0 0),(3,.nm 1),(4,.i (j:Int))] [(0,some (.var [.i c,.sl .i64 hs,.sl AB az,.sl .i64 is,.sl (.sl .u8) bs])),(1,some (.row 5 .u8 b))])
   = some (.fin (.exit 0) 2 [(1,.pa 0 0),(3,.nm 1)] [(0,some (.var [.i c,.sl .i64 hs,.sl AB az,.sl .i64 is,.sl (.sl .u8) bs])),(1,some (.row 5 .u8 (b++(hs.drop j).flatMap n2)))])
 | 0,j,b,hj,hb=>by
  obtain rfl:j=hs.length:=zaa
  rw[List.drop_length,List.flatMap_nil,List.append_nil]
  rw[AL];conv=>lhs;whnf
  refine tq ?_
  with_reducible rfl
 | k+1,j,b,hj,hb=>by
  obtain⟨x,hm,hg⟩:=EO (l:=hs) (i:=(j:Int)) zaa
  have el:=Bh x
  have ih:=pz c hs az is bs hl k (j+1) (b++n2 x) zaa zaP
  rw[DU] at hg
  rw[show((j+1:Nat):Int)=(j:Int)+1 from by omega,List.append_assoc,<-List.flatMap_cons,<-HY hg,<-UN] at ih
  rw[<-DU] at hg
  rw[AL];conv=>lhs;whnf
  refine to ?_
  rw[hg]
  refine tq ?_
  rw[EN _ _ _ AA]
  refine tq ?_
  exact ih
theorem qK(c:Int)(hs:List Int)(az:List (El AB))(is:List Int)(bs:List (List UInt8))(hl:az.length<=10)(hx:∀ x∈az,x.2.1.length<=1000/\x.2.2.length<=1000):∀(k j:Nat) (b:List UInt8),j+k=az.length->b.length+2006*k<=50000 ->
  Y E0 (.loop 25 1 0 2 [(1,.pa 0 0),(3,.nm 1),(5,.i (j:Int))] [(0,some (.var [.i c,.sl .i64 hs,.sl AB az,.sl .i64 is,.sl (.sl .u8) bs])),(1,some (.row 5 .u8 b))])
   = some (.fin (.exit 2) 2 [(1,.pa 0 0),(3,.nm 1)] [(0,some (.var [.i c,.sl .i64 hs,.sl AB az,.sl .i64 is,.sl (.sl .u8) bs])),(1,some (.row 5 .u8 (b++(az.drop j).flatMap Jt)))])
 | 0,j,b,hj,hb=>by
  obtain rfl:j=az.length:=zaa
  rw[List.drop_length,List.flatMap_nil,List.append_nil]
  rw[AL];conv=>lhs;whnf
  refine tq ?_
  with_reducible rfl
 | k+1,j,b,hj,hb=>by
  obtain⟨x,hm,hg⟩:=EO (l:=az) (i:=(j:Int)) zaa
  have ho:=hx x hm
  have el:=XI x ho
  have ih:=qK c hs az is bs hl hx k (j+1) (b++Jt x) zaa zaP
  rw[DU] at hg
  rw[show((j+1:Nat):Int)=(j:Int)+1 from by omega,List.append_assoc,<-List.flatMap_cons,<-HY hg,<-A4g b x ho] at ih
  rw[<-DU] at hg
  rw[AL];conv=>lhs;whnf
  refine to ?_
  rw[hg]
  refine tq ?_
  rw[EN _ _ _ AA]
  refine to ?_
  rw[hg]
  refine tq ?_
  rw[GK _ _ AA]
  refine to ?_
  rw[hg]
  refine tq ?_
  rw[GK _ _ AA]
  refine tq ?_
  exact ih
theorem qL(c:Int)(hs:List Int)(az:List (El AB))(is:List Int)(bs:List (List UInt8))(hl:is.length<=10):∀(k j:Nat) (b:List UInt8),j+k=is.length->b.length+8*k<=50000 ->
  Y E0 (.loop 25 2 0 2 [(1,.pa 0 0),(3,.nm 1),(6,.i (j:Int))] [(0,some (.var [.i c,.sl .i64 hs,.sl AB az,.sl .i64 is,.sl (.sl .u8) bs])),(1,some (.row 5 .u8 b))])
   = some (.fin (.exit 4) 2 [(1,.pa 0 0),(3,.nm 1)] [(0,some (.var [.i c,.sl .i64 hs,.sl AB az,.sl .i64 is,.sl (.sl .u8) bs])),(1,some (.row 5 .u8 (b++(is.drop j).flatMap n8)))])
 | 0,j,b,hj,hb=>by
  obtain rfl:j=is.length:=zaa
  rw[List.drop_length,List.flatMap_nil,List.append_nil]
  rw[AL];conv=>lhs;whnf
  refine tq ?_
  with_reducible rfl
 | k+1,j,b,hj,hb=>by
  obtain⟨x,hm,hg⟩:=EO (l:=is) (i:=(j:Int)) zaa
  have el:=BX x
  have ih:=qL c hs az is bs hl k (j+1) (b++n8 x) zaa zaP
  rw[DU] at hg
  rw[show((j+1:Nat):Int)=(j:Int)+1 from by omega,List.append_assoc,<-List.flatMap_cons,<-HY hg,<-Lm] at ih
  rw[<-DU] at hg
  rw[AL];conv=>lhs;whnf
  refine to ?_
  rw[hg]
  refine tq ?_
  rw[EN _ _ _ AA]
  refine tq ?_
  exact ih
theorem qN(c:Int)(hs:List Int)(az:List (El AB))(is:List Int)(bs:List (List UInt8))(hl:bs.length<=10)(hx:∀ x∈bs,x.length<=2000):∀(k j:Nat) (b:List UInt8),j+k=bs.length->b.length+2002*k<=100000 ->
  Y E0 (.loop 25 3 0 2 [(1,.pa 0 0),(3,.nm 1),(7,.i (j:Int))] [(0,some (.var [.i c,.sl .i64 hs,.sl AB az,.sl .i64 is,.sl (.sl .u8) bs])),(1,some (.row 5 .u8 b))])
   = some (.fin (.exit 6) 1 [(3,.nm 0)] [(0,some (.row 5 .u8 (b++(bs.drop j).flatMap bl)))])
 | 0,j,b,hj,hb=>by
  obtain rfl:j=bs.length:=zaa
  rw[List.drop_length,List.flatMap_nil,List.append_nil]
  rw[AL];conv=>lhs;whnf
  refine tq ?_
  with_reducible rfl
 | k+1,j,b,hj,hb=>by
  obtain⟨x,hm,hg⟩:=EO (l:=bs) (i:=(j:Int)) zaa
  have ho:=hx x hm
  have el:=Ba x
  have ih:=qN c hs az is bs hl hx k (j+1) (b++bl x) zaa zaP
  rw[DU] at hg
  rw[show((j+1:Nat):Int)=(j:Int)+1 from by omega,List.append_assoc,<-List.flatMap_cons,<-HY hg,<-GX (show x.length<=65535 by omega)] at ih
  rw[<-DU] at hg
  rw[AL];conv=>lhs;whnf
  refine to ?_
  rw[hg]
  refine tq ?_
  rw[GK _ _ AA]
  refine tq ?_
  exact ih
theorem AC3(L:Int)(hL:L=5+((I4 c hs az is bs).length:Int))(hb:L<=65535):BB (BB ([UInt8.ofNat 83,UInt8.ofNat 87,UInt8.ofNat 0,UInt8.ofNat 0,UInt8.ofInt c]++List.flatMap n2 hs++List.flatMap Jt az++List.flatMap n8 is++[UInt8.ofInt (bs.length:Int)]++List.flatMap bl bs) 2 (DX (Bi L (UInt64.ofNat 8).toNat))) 3 (DX L)=IY c hs az is bs:=by
 obtain⟨u,v,huv⟩:=YL (5+(I4 c hs az is bs).length)
 have hv:=YM zaa huv
 have hu':=u.toNat_lt
 have hv':=v.toNat_lt
 have e1:DX (Bi L (UInt64.ofNat 8).toNat)=u:=by
  rw[Dq,show(UInt64.ofNat 8).toNat=8 from rfl,Ho zaa]
  apply UInt8.toNat_inj.1
  rw[lq zaa];omega
 have e2:DX L=v:=by
  rw[Dq]
  apply UInt8.toNat_inj.1
  rw[UInt8.ofInt,UInt8.toNat_ofNat'];omega
 rw[e1,e2,IY,show n2 (5+(I4 c hs az is bs).length:Int)=Wl (5+(I4 c hs az is bs).length) from rfl,huv,I4,EL,EL]
 simp only[List.append_assoc]
 rfl
theorem qO(hl:hs.length<=10)(hal:az.length<=10)(ham:∀ x∈az,x.2.1.length<=1000/\x.2.2.length<=1000)(hil:is.length<=10)(hbl:bs.length<=10)(hbm:∀ x∈bs,x.length<=2000):Y E0 (.call 25 [rq c hs az is bs] [])=some (.ret (.nm 0) [some (.row 5 .u8 (IY c hs az is bs))]):=by
 have hH:(hs.flatMap n2).length<=20:=Nat.le_trans (IK (m:=2) fun x _=>by rw[Bh];decide) zaa
 have hA:(az.flatMap Jt).length<=20060:=Nat.le_trans (IK (m:=2006) fun x hx=>XI x (ham x hx)) zaa
 have hI:(is.flatMap n8).length<=80:=Nat.le_trans (IK (m:=8) fun x _=>by rw[BX];decide) zaa
 have hB:(bs.flatMap bl).length<=20020:=Nat.le_trans (IK (m:=2002) fun x hx=>by have:=hbm x hx;rw[Ba];omega) zaa
 have l0:=pz c hs az is bs hl hs.length 0 [UInt8.ofNat 83,UInt8.ofNat 87,UInt8.ofNat 0,UInt8.ofNat 0,DX c] zaa zaD
 have l1:=qK c hs az is bs hal ham az.length 0 ([UInt8.ofNat 83,UInt8.ofNat 87,UInt8.ofNat 0,UInt8.ofNat 0,DX c]++hs.flatMap n2) zaa zaJ
 have l2:=qL c hs az is bs hil is.length 0 ([UInt8.ofNat 83,UInt8.ofNat 87,UInt8.ofNat 0,UInt8.ofNat 0,DX c]++hs.flatMap n2++az.flatMap Jt) zaa zaJ
 have l3:=qN c hs az is bs hbl hbm bs.length 0 ([UInt8.ofNat 83,UInt8.ofNat 87,UInt8.ofNat 0,UInt8.ofNat 0,DX c]++hs.flatMap n2++az.flatMap Jt++is.flatMap n8++[UInt8.ofInt (bs.length:Int)]) zaa zaJ
 rw[show((0:Nat):Int)=0 from rfl,List.drop_zero] at l0 l1 l2 l3
 refine tq ?_
 simp only[Nat.reduceAdd];rw[l0]
 refine tq ?_
 rw[l1]
 refine tq ?_
 rw[l2]
 refine tq ?_
 simp only[AP,Ac,Dq] at l3 ⊢;rw[l3];clear l0 l1 l2 l3
 conv=>lhs;whnf
 rw[H6 zaI]
 conv=>lhs;whnf
 rw[Bv zaI]
 conv=>lhs;whnf
 rw[H6 zaI]
 conv=>lhs;whnf
 rw[Bv zaI]
 conv=>lhs;whnf
 (rw[AC3 c hs az is bs _ (by rw[AP,I4];simp only[List.length_append,List.length_cons,List.length_nil];omega) (by rw[AP];simp only[List.length_append,List.length_cons,List.length_nil];omega)])
theorem OD(n:Int):Y E0 (.call 50 [.i n,.i n] [])=some (.ret (.b true) []):=by
 refine tq ?_
 with_reducible rfl
theorem yf(h:Int)(h0:0<=h/\h<=65535):Y E0 (.call 66 [.i h] [])=some (.ret (.b true) []):=by
 refine tq ?_
 with_reducible rfl
theorem qP(c:Int)(hs:List Int)(az:List (El AB))(is:List Int)(bs:List (List UInt8))(hl:az.length<=10)(hx:∀ x∈az,x.2.1.length<=128/\x.2.2.length<=128):∀(k j:Nat),j+k=az.length ->
  Y E0 (.loop 67 0 0 1 [(1,.pa 0 0),(3,.i (j:Int))] [(0,some (.var [.i c,.sl .i64 hs,.sl AB az,.sl .i64 is,.sl (.sl .u8) bs]))])=some (.fin (.exit 0) 1 [(1,.pa 0 0)] [(0,some (.var [.i c,.sl .i64 hs,.sl AB az,.sl .i64 is,.sl (.sl .u8) bs]))])
 | 0,j,hj=>by
  obtain rfl:j=az.length:=zaa
  rw[AL];conv=>lhs;whnf
  refine tq ?_
  with_reducible rfl
 | k+1,j,hj=>by
  obtain⟨x,hm,hg⟩:=EO (l:=az) (i:=(j:Int)) zaa
  have ho:=hx x hm
  have ih:=qP c hs az is bs hl hx k (j+1) zaa
  rw[show((j+1:Nat):Int)=(j:Int)+1 from by omega] at ih
  rw[AL];conv=>lhs;whnf
  refine to ?_
  rw[hg]
  refine to ?_
  rw[hg]
  refine tq ?_
  exact ih
theorem qQ(c:Int)(hs:List Int)(az:List (El AB))(is:List Int)(bs:List (List UInt8))(hl:bs.length<=10)(hx:∀ x∈bs,x.length<=1024):∀(k j:Nat),j+k=bs.length ->
  Y E0 (.loop 67 1 0 1 [(1,.pa 0 0),(4,.i (j:Int))] [(0,some (.var [.i c,.sl .i64 hs,.sl AB az,.sl .i64 is,.sl (.sl .u8) bs]))])=some (.fin (.exit 2) 1 [(1,.pa 0 0)] [(0,some (.var [.i c,.sl .i64 hs,.sl AB az,.sl .i64 is,.sl (.sl .u8) bs]))])
 | 0,j,hj=>by
  obtain rfl:j=bs.length:=zaa
  rw[AL];conv=>lhs;whnf
  refine tq ?_
  with_reducible rfl
 | k+1,j,hj=>by
  obtain⟨x,hm,hg⟩:=EO (l:=bs) (i:=(j:Int)) zaa
  have ho:=hx x hm
  have ih:=qQ c hs az is bs hl hx k (j+1) zaa
  rw[show((j+1:Nat):Int)=(j:Int)+1 from by omega] at ih
  rw[AL];conv=>lhs;whnf
  refine to ?_
  rw[hg]
  refine tq ?_
  exact ih
theorem A56(hl:hs.length<=10)(hal:az.length<=10)(ham:∀ x∈az,x.2.1.length<=128/\x.2.2.length<=128)(hil:is.length<=10)(hbl:bs.length<=10)(hbm:∀ x∈bs,x.length<=1024)(hlen:(IY c hs az is bs).length<=2048):Y E0 (.call 67 [rq c hs az is bs] [])=some (.ret (.b false) []):=by
 have l0:=qP c hs az is bs hal ham az.length 0 zaa
 have l1:=qQ c hs az is bs hbl hbm bs.length 0 zaa
 have hf:=qO c hs az is bs hl hal (fun x hx=>by have:=ham x hx;omega) hil hbl (fun x hx=>by have:=hbm x hx;omega)
 rw[show((0:Nat):Int)=0 from rfl] at l0 l1
 refine tq ?_
 rw[l0]
 refine tq ?_
 rw[l1]
 refine tq ?_
 rw[hf]
 conv=>lhs;whnf
 exact zas
theorem qR(c:Int)(hs:List Int)(az:List (El AB))(is:List Int)(bs:List (List UInt8))(hl:hs.length<=10)(hx:∀ x∈hs,0<=x/\x<=65535):∀(k j:Nat),j+k=hs.length ->
  Y E0 (.loop 24 0 0 1 [(1,.pa 0 0),(5,.i (j:Int))] [(0,some (.var [.i c,.sl .i64 hs,.sl AB az,.sl .i64 is,.sl (.sl .u8) bs]))])=some (.fin (.exit 0) 1 [(1,.pa 0 0)] [(0,some (.var [.i c,.sl .i64 hs,.sl AB az,.sl .i64 is,.sl (.sl .u8) bs]))])
 | 0,j,hj=>by
  obtain rfl:j=hs.length:=zaa
  rw[AL];conv=>lhs;whnf
  refine tq ?_
  with_reducible rfl
 | k+1,j,hj=>by
  obtain⟨x,hm,hg⟩:=EO (l:=hs) (i:=(j:Int)) zaa
  have ho:=hx x hm
  have hn:=yf x ho
  have ih:=qR c hs az is bs hl hx k (j+1) zaa
  rw[show((j+1:Nat):Int)=(j:Int)+1 from by omega] at ih
  rw[AL];conv=>lhs;whnf
  refine to ?_
  rw[hg]
  refine tq ?_
  rw[hn]
  refine tq ?_
  exact ih
theorem qU(c:Int)(hs:List Int)(az:List (El AB))(is:List Int)(bs:List (List UInt8))(hl:az.length<=10)(hx:∀ x∈az,(0:Int)<=x.1/\(x.1:Int)<=65535):∀(k j:Nat),j+k=az.length ->
  Y E0 (.loop 24 1 0 1 [(1,.pa 0 0),(6,.i (j:Int))] [(0,some (.var [.i c,.sl .i64 hs,.sl AB az,.sl .i64 is,.sl (.sl .u8) bs]))])=some (.fin (.exit 2) 1 [(1,.pa 0 0)] [(0,some (.var [.i c,.sl .i64 hs,.sl AB az,.sl .i64 is,.sl (.sl .u8) bs]))])
 | 0,j,hj=>by
  obtain rfl:j=az.length:=zaa
  rw[AL];conv=>lhs;whnf
  refine tq ?_
  with_reducible rfl
 | k+1,j,hj=>by
  obtain⟨x,hm,hg⟩:=EO (l:=az) (i:=(j:Int)) zaa
  have ho:=hx x hm
  have hn:=yf x.1 ho
  have ih:=qU c hs az is bs hl hx k (j+1) zaa
  rw[show((j+1:Nat):Int)=(j:Int)+1 from by omega] at ih
  rw[AL];conv=>lhs;whnf
  refine to ?_
  rw[hg]
  refine tq ?_
  rw[hn]
  refine tq ?_
  exact ih
theorem qV(c:Int)(hs:List Int)(az:List (El AB))(is:List Int)(bs:List (List UInt8))(hl:is.length<=10)(hx:∀ x∈is,0<=x/\x<=1099511627776):∀(k j:Nat),j+k=is.length ->
  Y E0 (.loop 24 2 0 1 [(1,.pa 0 0),(7,.i (j:Int))] [(0,some (.var [.i c,.sl .i64 hs,.sl AB az,.sl .i64 is,.sl (.sl .u8) bs]))])=some (.fin (.exit 4) 1 [(1,.pa 0 0)] [(0,some (.var [.i c,.sl .i64 hs,.sl AB az,.sl .i64 is,.sl (.sl .u8) bs]))])
 | 0,j,hj=>by
  obtain rfl:j=is.length:=zaa
  rw[AL];conv=>lhs;whnf
  refine tq ?_
  with_reducible rfl
 | k+1,j,hj=>by
  obtain⟨x,hm,hg⟩:=EO (l:=is) (i:=(j:Int)) zaa
  have ho:=hx x hm
  have ih:=qV c hs az is bs hl hx k (j+1) zaa
  rw[show((j+1:Nat):Int)=(j:Int)+1 from by omega] at ih
  rw[AL];conv=>lhs;whnf
  refine to ?_
  rw[hg]
  refine to ?_
  rw[hg]
  refine tq ?_
  exact ih
theorem A7m(nb:Int)(hs:List Int)(az:List (El AB))(is:List Int)(bs:List (List UInt8))(hsh:Y E0 (.call 49 [.i c] [])=some (.ret (.tup [.agg [.i (hs.length:Int),.i (az.length:Int),.i (is.length:Int),.i nb],.b true]) []))(hct:Y E0 (.call 50 [.i nb,.i (bs.length:Int)] [])=some (.ret (.b true) []))(hl:hs.length<=10)(hal:az.length<=10)(hil:is.length<=10)(hbl:bs.length<=10)(hhm:∀ x∈hs,0<=x/\x<=65535)(ham:∀ x∈az,((0:Int)<=x.1/\(x.1:Int)<=65535)/\x.2.1.length<=128/\x.2.2.length<=128)(him:∀ x∈is,0<=x/\x<=1099511627776)(hbm:∀ x∈bs,x.length<=1024)(hlen:(IY c hs az is bs).length<=2048):Y E0 (.call 24 [rq c hs az is bs] [])=some (.ret (.i 0) []):=by
 have l0:=qR c hs az is bs hl hhm hs.length 0 zaa
 have l1:=qU c hs az is bs hal (fun x hx=>(ham x hx).1) az.length 0 zaa
 have l2:=qV c hs az is bs hil him is.length 0 zaa
 have hf:=A56 c hs az is bs hl hal (fun x hx=>(ham x hx).2) hil hbl hbm hlen
 rw[show((0:Nat):Int)=0 from rfl] at l0 l1 l2
 refine tq ?_
 rw[hsh]
 refine tq ?_
 rw[AP,hct]
 refine tq ?_
 rw[l0]
 refine tq ?_
 rw[l1]
 refine tq ?_
 rw[l2]
 refine tq ?_
 rw[hf]
 exact tq rfl
theorem yg(nb:Int)(hs:List Int)(az:List (El AB))(is:List Int)(bs:List (List UInt8))(hsh:Y E0 (.call 49 [.i c] [])=some (.ret (.tup [.agg [.i (hs.length:Int),.i (az.length:Int),.i (is.length:Int),.i nb],.b true]) []))(hct:Y E0 (.call 50 [.i nb,.i (bs.length:Int)] [])=some (.ret (.b true) []))(hl:hs.length<=10)(hal:az.length<=10)(hil:is.length<=10)(hbl:bs.length<=10)(hhm:∀ x∈hs,0<=x/\x<=65535)(ham:∀ x∈az,((0:Int)<=x.1/\(x.1:Int)<=65535)/\x.2.1.length<=128/\x.2.2.length<=128)(him:∀ x∈is,0<=x/\x<=1099511627776)(hbm:∀ x∈bs,x.length<=1024)(hlen:(IY c hs az is bs).length<=2048):Y E0 (.call 7 [rq c hs az is bs] [])=some (.ret (.tup [.nm 0,.i 0]) [some (.row 5 .u8 (IY c hs az is bs))]):=by
 have hk:=A7m c nb hs az is bs hsh hct hl hal hil hbl hhm ham him hbm hlen
 have hf:=qO c hs az is bs hl hal (fun x hx=>by have:=(ham x hx).2;omega) hil hbl (fun x hx=>by have:=hbm x hx;omega)
 refine tq ?_
 rw[hk]
 refine tq ?_
 rw[hf]
 exact tq rfl
end
section
attribute [local irreducible] BG DY CY nameB Eh Ef Az Ei Eo F5 Ff Fh Bg Io GI JD Jk
variable (u:Int)
theorem qc:BC .or 0 (CJ 1 (BZ (0+1)).toNat)=2/\BC .and (Bi 2 (BZ 1).toNat) 1=1:=by
 have e:(BZ 1).toNat=1:=by rw[JM];rfl
 rw[show(0:Int)+1=1 from rfl,e,NP,Xc,Ux]
 decide
theorem A7r:Y E0 (.call 155 [.agg [.sl (.sl (.sl .u8)) [[],GR 32],.i u]] [])=some (.ret (.i 2) []):=by
 have hl:(GR 32).length=16:=DL 32 16
 have hg1:Ap [[],GR 32] (0+1)=some (GR 32):=Zc _ _ _
 have hq:Y E0 (.loop 155 0 0 1 [(1,.pa 0 0),(3,.i 0),(7,.i (Ak [[],GR 32])),(8,.i 0)] [(0,some (.var [.sl (.sl (.sl .u8)) [[],GR 32],.i u]))])=some (.fin (.exit 0) 0 [(3,.i 2)] []):=by
  refine tq ?_;refine tq ?_;rw[hg1]
  conv=>lhs;whnf
  rw[Dz (by rw[AP,hl];rfl)]
  refine tq ?_;refine tq ?_
  (rw[qc.1])
 refine tq ?_;rw[hq];exact tq rfl
theorem AAU:Y E0 (.call 292 [.agg [.sl (.sl (.sl .u8)) [[],GR 32],.i u],.i 1] [])=some (.ret (.b true) []):=by
 refine tq ?_;rw[A7r _];refine tq ?_;rw[qc.2]
 (rw[Dz zbe])
theorem A5C : Y E0 (.loop 261 0 0 3 [(2, .pa 0 0), (3, .pa 1 0), (6, .nil), (7, .nm 2), (13, AV.agg [AV.i 0, AV.i 1]), (14, AV.i 0)] [(0, some (Rs.var [AV.sl Ty.u8.sl.sl [[], GR 32], AV.i u])), (1, some (Rs.var [AV.i 0, AV.i 1])), (2, some (Rs.row 5 Ty.u8 []))]) = some (.fin (.exit 0) 3 [(2, AV.pa 0 0), (3, AV.pa 1 0), (6, AV.sl Ty.u8 (Bg (Bg [] 2 0) 2 1)), (7, AV.nm 2)]
        [(0, some (Rs.var [AV.sl Ty.u8.sl.sl [[], GR 32], AV.i u])), (1, some (Rs.var [AV.i 0, AV.i 1])), (2, some (Rs.row 5 Ty.u8 []))]) := by
  refine tq ?_; rw [Dy _ _ _ AA]; refine tq ?_; refine tq ?_; rw [Dy _ _ _ AA]; refine tq ?_; exact tq rfl
theorem vz:(∀ i<16,BC .and (Bi 0 (BZ ((i:Nat):Int)).toNat) 1=0)/\(∀ i<16,1<=i->BC .and (Bi 1 (BZ ((i:Nat):Int)).toNat) 1=0)/\BC .and (Bi 1 (BZ 0).toNat) 1=1:=by
 rw[NP,Ux,FP]
 refine⟨?_,?_,?_⟩<;>decide +kernel
theorem wB(u a s:Int)(hd vs:List UInt8)(j0:Nat)(hz:∀ i<16,j0<=i->BC .and (Bi s (BZ ((i:Nat):Int)).toNat) 1=0):∀(k j:Nat),j0<=j->j+k=16->Y E0 (.loop 261 2 0 2 [(2,.pa 0 0),(6,.sl .u8 hd),(7,.nm 1),(10,.i a),(11,.i s),(27,.agg [.i 0,.i 1]),(28,.i a),(40,.i (j:Int))] [(0,some (.var [.sl (.sl (.sl .u8)) [[],GR 32],.i u])),(1,some (.row 5 .u8 vs))])=some (.fin (.exit 4) 2 [(2,.pa 0 0),(6,.sl .u8 hd),(7,.nm 1),(27,.agg [.i 0,.i 1]),(28,.i a)] [(0,some (.var [.sl (.sl (.sl .u8)) [[],GR 32],.i u])),(1,some (.row 5 .u8 vs))])
 | 0,j,hj,hk=>by
  exact tq rfl
 | k+1,j,hj,hk=>by
  have ih:=wB u a s hd vs j0 hz k (j+1) zaa zaa
  rw[show((j+1:Nat):Int)=(j:Int)+1 from by omega] at ih
  have hb:=hz j zaa hj
  rw[AL];conv=>lhs;whnf
  rw[Dl zaa]
  conv=>lhs;whnf
  rw[hb];refine tq ?_;exact ih
theorem A7s(hd:List UInt8):Y E0 (.loop 261 2 0 2 [(2,.pa 0 0),(6,.sl .u8 hd),(7,.nm 1),(10,.i 1),(11,.i 1),(27,.agg [.i 0,.i 1]),(28,.i 1),(40,.i 0)] [(0,some (.var [.sl (.sl (.sl .u8)) [[],GR 32],.i u])),(1,some (.row 5 .u8 []))])=some (.fin (.exit 4) 2 [(2,.pa 0 0),(6,.sl .u8 hd),(7,.nm 1),(27,.agg [.i 0,.i 1]),(28,.i 1)] [(0,some (.var [.sl (.sl (.sl .u8)) [[],GR 32],.i u])),(1,some (.row 5 .u8 (List.replicate 32 0)))]):=by
 have hb:=vz.2.2
 have hl:(GR 32).length=16:=DL 32 16
 have hg:Ap (GR 32) 0=some (List.replicate 32 0):=by rw[LJ];rfl
 have ha:BF [] (List.replicate 32 (0:UInt8))=List.replicate 32 0:=by rw[Ac];rfl
 have hi:=wB u 1 1 hd (List.replicate 32 0) 1 (fun i h1 h2=>vz.2.1 i h1 h2) 15 1 zaa zaa
 rw[show((1:Nat):Int)=0+1 from rfl] at hi
 rw[AL];conv=>lhs;whnf
 rw[Dl zaa]
 conv=>lhs;whnf
 rw[hb];refine tq ?_;rw[hg];refine tq ?_;rw[ha];exact hi
theorem A5D(hd:List UInt8):Y E0 (.loop 261 1 0 2 [(2,.pa 0 0),(6,.sl .u8 hd),(7,.nm 1),(27,AV.agg [AV.i 0,AV.i 1]),(28,AV.i 0)] [(0,some (Rs.var [AV.sl Ty.u8.sl.sl [[],GR 32],AV.i u])),(1,some (Rs.row 5 Ty.u8 []))])=some (.fin (.exit 2) 0 [(6,.sl .u8 hd),(7,.sl .u8 (List.replicate 32 0))] []):=by
 have h0:=wB u 0 0 hd [] 0 (fun i h1 _=>vz.1 i h1) 16 0 zaa zaa
 rw[show((0:Nat):Int)=0 from rfl] at h0
 have h1:=A7s u hd
 refine tq ?_;rw[h0];refine tq ?_;refine tq ?_;rw[show(0:Int)+1=1 from rfl,AAU];refine tq ?_;rw[h1];refine tq ?_;exact tq rfl
def OG:List UInt8:=sha256 (Az 5 [Bg (Bg [] 2 0) 2 1,List.replicate 32 0])
theorem yl:Y E0 (.call 261 [.agg [.sl (.sl (.sl .u8)) [[],GR 32],.i u],.agg [.i 0,.i 1]] [])=some (.ret (.tup [.sl .u8 OG,.i 0]) []):=by
 have hf:(Az 5 [Bg (Bg [] 2 0) 2 1,List.replicate 32 0]).length<=4294967295:=by rw[Aw,A8,A8];simp
 refine tq ?_;rw[A5C];refine tq ?_;rw[A5D];refine tq ?_;rw[Fe _ _ hf zat];refine tq ?_
 rfl
end
section
attribute [local irreducible] BG DY CY nameB Eh Ef Az
theorem yu:(List.replicate 3 uV).length=3/\∀ x∈List.replicate 3 uV,O7 x:=by
 refine⟨by simp,fun x hx=>?_⟩
 rw[List.eq_of_mem_replicate hx];exact⟨by decide,by decide⟩
theorem yw:(List.replicate 3 Zd).length=3/\∀ x∈List.replicate 3 Zd,O8 x:=by
 refine⟨by simp,fun x hx=>?_⟩
 rw[List.eq_of_mem_replicate hx];exact⟨by decide,by decide,by decide,by decide,by decide,by decide,by decide⟩
end
section
attribute [local irreducible] JD GI BG DY CY nameB Eh Ef Az
theorem as0{y z:List UInt8}(hy:y.length<=2000)(hz:z.length<=2000):A17 [] [] y z []:=⟨by simp,by simp,hy,hz,by simp,by simp⟩
theorem wC(d f:List UInt8)(hd:d.length<=2000)(hf:f.length<=2000):EC E0 (.call 78 [.sl .u8 d,.sl .u8 f] []) fun r=>∃ l:List UInt8,(l.length=32)/\r=some (.ret (.sl .u8 l) []):=by
 refine G5 fun P hP=>tw ?_
 rw[FK _ _ AA AA];refine tw ?_;exact hP _ ⟨sha256 (Az 9 [d,f]),AA,rfl⟩
end
section
attribute [local irreducible] BG DY CY nameB Eh Ef Az
variable (sd au:List (List UInt8))(en:List UInt8)(ac re rs ck:Int)(od:Bool)(sb:List (List (List UInt8)))(su mc:Int)(ix:List (El Bf))(l1 l2 l3 l4 l5 l6:Int)(ks:List (El E8))(st sp:Bool)(rb:List (List (List UInt8)))(ru vc:Int)(sf:Bool)(dr:Int)(ss:List (El sesT))(ob:List (El objT))(rl wl:List Int)
theorem Rx(sd au:List (List UInt8))(en:List UInt8)(ac re rs ck:Int)(od:Bool)(sb:List (List (List UInt8)))(su mc:Int)(ix:List (El Bf))(l1 l2 l3 l4 l5 l6:Int)(ks:List (El E8))(st sp:Bool)(rb:List (List (List UInt8)))(ru vc:Int)(sf:Bool)(dr:Int)(ss:List (El sesT))(ob:List (El objT))(rl wl:List Int)(h:Int)(hl:ix.length<=1000)(hx:∀ x∈ix,Gv x):∀(n j:Nat),j+n=ix.length->ZI h ix=j+ZI h (ix.drop j)->Y E0 (.loop 79 0 0 1 [(1,.i h),(2,.pa 0 0),(5,.i (j:Int))] [(0,some (.var (sC sd au en ac re rs ck od sb su mc ix l1 l2 l3 l4 l5 l6 ks st sp rb ru vc sf dr ss ob rl wl)))])=if ZI h ix<ix.length then some (.fin .ret 0 [(4,.i (ZI h ix:Int))] []) else some (.fin (.exit 0) 0 [] [])
 | 0,j,hj,hf=>by
  rw[if_neg (by rw[List.drop_eq_nil_of_le zaa,ZI] at hf;omega)]
  exact tq rfl
 | n+1,j,hj,hf=>by
  have hd:=List.drop_eq_getElem_cons (l:=ix) (i:=j) zaa
  rw[hd] at hf
  have hg:Ap ix (j:Int)=some (ix[j]'zaa):=JC zaa
  have hx1:=hx (ix[j]'zaa) (List.getElem_mem zaa)
  generalize ix[j]'zaa=x at *
  obtain⟨x1,x2,x3,x4,x5,x6,x7,x8⟩:=x;simp only[Gv,Jf] at hx1
  by_cases hk:h=256+x1
  ·rw[ZI,if_pos hk] at hf;rw[if_pos zaa,show ZI h ix=j from hf]
   refine to ?_;rw[hg];exact tq rfl
  ·have ih:=Rx sd au en ac re rs ck od sb su mc ix l1 l2 l3 l4 l5 l6 ks st sp rb ru vc sf dr ss ob rl wl h hl hx n (j+1) zaa (by rw[hf,ZI,if_neg hk];omega)
   rw[show((j+1:Nat):Int)=(j:Int)+1 from by omega] at ih
   refine to ?_;rw[hg];refine tq ?_;exact ih
theorem WR(h:Int)(hl:ix.length<=1000)(hx:∀ x∈ix,Gv x):Y E0 (.call 79 [(sX sd au en ac re rs ck od sb su mc ix l1 l2 l3 l4 l5 l6 ks st sp rb ru vc sf dr ss ob rl wl),.i h] [])=some (.ret (.i (ixI h ix)) []):=by
 have e:=Rx sd au en ac re rs ck od sb su mc ix l1 l2 l3 l4 l5 l6 ks st sp rb ru vc sf dr ss ob rl wl h hl hx ix.length 0 zaa zat
 rw[show((0:Nat):Int)=0 from rfl] at e
 unfold ixI
 split at e
 ·rename_i hc;rw[if_pos hc];refine tq ?_;rw[e];exact tq rfl
 ·rename_i hc;rw[if_neg hc];refine tq ?_;rw[e];exact tq rfl
theorem Ug(sd au:List (List UInt8))(en:List UInt8)(ac re rs ck:Int)(od:Bool)(sb:List (List (List UInt8)))(su mc:Int)(ix:List (El Bf))(l1 l2 l3 l4 l5 l6:Int)(ks:List (El E8))(st sp:Bool)(rb:List (List (List UInt8)))(ru vc:Int)(sf:Bool)(dr:Int)(ss:List (El sesT))(ob:List (El objT))(rl wl:List Int)(h:Int)(hl:ob.length<=1000):∀(n j:Nat),j+n=ob.length->(yx h ob<0\/(j:Int)<=yx h ob)->Y E0 (.loop 70 0 0 1 [(1,.i h),(2,.pa 0 0),(5,.i (j:Int))] [(0,some (.var (sC sd au en ac re rs ck od sb su mc ix l1 l2 l3 l4 l5 l6 ks st sp rb ru vc sf dr ss ob rl wl)))])=if 0<=yx h ob then some (.fin .ret 0 [(4,.i (yx h ob))] []) else some (.fin (.exit 0) 0 [] [])
 | 0,j,hj,hf=>by
  have:=wE h ob
  rw[if_neg zaa]
  exact tq rfl
 | n+1,j,hj,hf=>by
  have hq:=A7u (h:=h) (l:=ob) (j:=j) zaa
  have hg:Ap ob (j:Int)=some (ob[j]'zaa):=JC zaa
  generalize ob[j]'zaa=x at *
  obtain⟨⟨x1,x2,x3,x4,x5⟩,⟨y1,y2,y3⟩,z⟩:=x
  dsimp only at hq
  by_cases hk:yx h ob=(j:Int)
  ·obtain⟨h1,h2⟩:=hq.1 hk;rw[hk,if_pos zaa]
   refine to ?_;rw[hg];exact tq rfl
  ·have ih:=Ug sd au en ac re rs ck od sb su mc ix l1 l2 l3 l4 l5 l6 ks st sp rb ru vc sf dr ss ob rl wl h hl n (j+1) zaa zaa
   have hq':¬(h=512+(j:Int)/\x1≠0):=fun e=>hk (hq.2 e)
   rw[show((j+1:Nat):Int)=(j:Int)+1 from by omega] at ih
   refine tq ?_
   rcases Ar h (512+↑j) with hc0|hc0
   ·subst hc0;refine to ?_;rw[hg];refine tq ?_
    rcases CE x1 0 with hc1|hc1
    ·refine tq ?_
     (exfalso;exact hq' ⟨rfl,by assumption⟩)
    subst hc1;refine tq ?_;exact ih
   refine tq ?_;exact ih
theorem wF(h:Int)(hl:ob.length<=1000):Y E0 (.call 70 [(sX sd au en ac re rs ck od sb su mc ix l1 l2 l3 l4 l5 l6 ks st sp rb ru vc sf dr ss ob rl wl),.i h] [])=some (.ret (.i (yx h ob)) []):=by
 have e:=Ug sd au en ac re rs ck od sb su mc ix l1 l2 l3 l4 l5 l6 ks st sp rb ru vc sf dr ss ob rl wl h hl ob.length 0 zaa zaa
 rw[show((0:Nat):Int)=0 from rfl] at e
 have hlt:=wE h ob
 split at e
 ·refine tq ?_;rw[e];exact tq rfl
 ·rename_i hc;rw[show yx h ob = -1 by omega];refine tq ?_;rw[e];exact tq rfl
end
section
attribute [local irreducible] BG DY CY nameB Eh Ef Az Ei Eo F5 Ff Fh Bg Io GI JD Jk JE Jh Ha NZ Na IJ
theorem CB{hs:List Int}{az:List (El AB)}{is:List Int}{bs:List (List UInt8)}(h1:hs.length<=10:=by first|omega|(simp;done))(h2:az.length<=10:=by first|omega|(simp;done))(h3:∀ x∈az,x.2.1.length<=1000/\x.2.2.length<=1000:=by first|(simp;done)|(intro x hx;obtain rfl:=List.mem_singleton.1 hx;exact⟨by assumption,by assumption⟩))(h4:is.length<=10:=by first|omega|(simp;done))(h5:bs.length<=10:=by first|omega|(simp;done))(h6:∀ x∈bs,x.length<=2000:=by first|assumption|(simp;done)|(simp only[List.forall_mem_cons,List.not_mem_nil,false_implies,implies_true,and_true];(repeat' apply And.intro)<;>first|omega|(rw[Be];decide)|(rw[List.length_take];omega)|(simp;omega))|(intro x hx;exact Nat.le_trans ((by assumption:∀ x∈_,List.length x<=32) x hx) zaj)|(intro x hx;exact Nat.le_trans ((by assumption:∀ x∈_,List.length x<=1000) x hx) zaj)):Few hs az is bs:=⟨h1,h2,h3,h4,h5,h6⟩
theorem Ht(n m:Int)(hm:1<=m/\m<=1000000000000):Y E0 (.call 26 [.i n,.i m] [])=some (.ret (.i (n%m)) []):=by
 have hb:=XF n hm.1
 refine tq ?_
 rcases Bc (CQ n m) 0 with hc0|hc0
 ·refine tp ?_;rw[Bj zaa,nD hm.1 zaa]
 refine tq ?_;rw[nC hm.1 zaa]
theorem wJ(n:Int)(b:List UInt8)(hn:0<=n/\n<=3)(hb:b.length<=1000):EC E0 (.loop 28 0 0 1 [(0,AV.i n),(1,AV.sl Ty.u8 b),(5,AV.nm 0),(6,AV.i 0)] [(0,some (Rs.row 22 Ty.u8.sl (BU 2 [])))]) fun r=>∃ l:List (List UInt8),(l.length=2/\∀ x∈l,x.length<=32)/\r=some (.fin (.exit 0) 0 [(5,.sl (.sl .u8) l)] []):=by
 refine G5 fun P hP=>?_
 refine tw ?_
 rcases Ar (BC BinOp.and (Bi n (BZ 0).toNat) 1) 1 with hc0|hc0
 ·refine tw ?_;obtain⟨x1,m1,g1⟩:=EO (l:=CO (BU 20 0) b) (i:=Ak (CO (BU 20 0) b)-1) zay;rw[g1];refine tw ?_;rw[g1];refine tw ?_;obtain⟨x2,m2,g2⟩:=EO (l:=BU 2 []) (i:=0) zay;rw[g2];refine tw ?_;refine tw ?_
  rcases Ar (BC BinOp.and (Bi n (BZ 1).toNat) 1) 1 with hc3|hc3
  ·refine tw ?_;obtain⟨x4,m4,g4⟩:=EO (l:=CO (BU 32 0) b) (i:=Ak (CO (BU 32 0) b)-1) zay;rw[g4];refine tw ?_;rw[g4];refine tw ?_;obtain⟨x5,m5,g5⟩:=EO (l:=BB (BU 2 []) 0 (BB (CO (BU 20 0) b) (Ak (CO (BU 20 0) b)-1) (CU BinOp.xor x1 (DX 0)))) (i:=1) zay;rw[g5];refine tw ?_;refine tw ?_
   refine hP _ ⟨BB (BB (BU 2 []) 0 (BB (CO (BU 20 0) b) (Ak (CO (BU 20 0) b)-1) (CU BinOp.xor x1 (DX 0)))) 1 (BB (CO (BU 32 0) b) (Ak (CO (BU 32 0) b)-1) (CU BinOp.xor x4 (DX 1))),?_,rfl⟩;(show vS _;(repeat'(first|exact dg0|refine dgS ?_ ?_))<;>(simp only[LL]<;>omega))
  refine tw ?_;refine tw ?_
  refine hP _ ⟨BB (BU 2 []) 0 (BB (CO (BU 20 0) b) (Ak (CO (BU 20 0) b)-1) (CU BinOp.xor x1 (DX 0))),?_,rfl⟩;(show vS _;(repeat'(first|exact dg0|refine dgS ?_ ?_))<;>(simp only[LL]<;>omega))
 refine tw ?_;refine tw ?_
 rcases Ar (BC BinOp.and (Bi n (BZ 1).toNat) 1) 1 with hc6|hc6
 ·refine tw ?_;obtain⟨x7,m7,g7⟩:=EO (l:=CO (BU 32 0) b) (i:=Ak (CO (BU 32 0) b)-1) zay;rw[g7];refine tw ?_;rw[g7];refine tw ?_;obtain⟨x8,m8,g8⟩:=EO (l:=BU 2 []) (i:=1) zay;rw[g8];refine tw ?_;refine tw ?_
  refine hP _ ⟨BB (BU 2 []) 1 (BB (CO (BU 32 0) b) (Ak (CO (BU 32 0) b)-1) (CU BinOp.xor x7 (DX 1))),?_,rfl⟩;(show vS _;(repeat'(first|exact dg0|refine dgS ?_ ?_))<;>(simp only[LL]<;>omega))
 refine tw ?_;refine tw ?_
 refine hP _ ⟨BU 2 [],?_,rfl⟩;(show vS _;(repeat'(first|exact dg0|refine dgS ?_ ?_))<;>(simp only[LL]<;>omega))
theorem rD(n:Int)(b:List UInt8)(hn:0<=n/\n<=3)(hb:b.length<=1000):EC E0 (.call 28 [.i n,.sl .u8 b] []) fun r=>∃ l:List (List UInt8),(l.length=2/\∀ x∈l,x.length<=32)/\r=some (.ret (.sl (.sl .u8) l) []):=by
 refine G5 fun P hP=>tw ?_
 obtain⟨l0,⟨h0_1,h0_2⟩,yy0⟩:=wJ n b AA AA;refine Dv yy0 ?_;exact hP _ ⟨l0,clo,rfl⟩
end
end Go.Proofs.YtlpkjhhfhannpaaGreatDoor
