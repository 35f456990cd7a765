/-
  Own texts, laid together for this claim: the rules that every walk uses, which claim nothing of any program.
-/
import Derived.OpenShut
import Derived.ChangeSlices
import Derived.Test.YtlpkjhhfhannpaaGreatDoorBgc
set_option linter.all false
namespace Go.Ax
noncomputable section
open Go Go.RowKit Go.Eng
def JY:Code->List Bool->Code
 | c,[]=>c
 | .seq a b,x::p|.cond _ a b,x::p=>(match x with|true=>JY b p|false=>JY a p)
 | .block _ c,_::p|.loop c,_::p=>JY c p
 | _,_::_=>.skip
theorem Pj:∀(c:Code) (p q:List Bool),JY c (p++q)=JY (JY c p) q:=by
 intro c
 induction c with
 | seq a b iha ihb|cond x a b iha ihb=>intro p q;cases p with|nil=>rfl|cons x p=>cases x<;>simp only[List.cons_append,JY]<;>first|exact iha p q|exact ihb p q
 | block id c ih|loop c ih=>intro p q;cases p with|nil=>rfl|cons x p=>simp_all[JY]
 | _=>intro p q;cases p with|nil=>rfl|cons x p=>(simp only[List.cons_append,JY];cases q<;>simp only[JY])
def KP(C:CT)(f:Nat):Code:=match cfk f C with
 | some fn=>(match fn.body with|some c=>c|none=>.skip)
 | none=>.skip
def KQ(G:FT)(f:Nat):List (Plc×Plc):=match Wh f G with|some fi=>fi.keep|none=>[]
def opsOf:Code->List Oper
 | .region _ ops _=>ops.toList
 | _=>[]
def NV{R:Type}:List Bool->(List Bool->R)->R
 | [],K=>K []
 | true::r,K=>NV r fun r=>K (true::r)
 | false::r,K=>NV r fun r=>K (false::r)
theorem H8{R:Type}:∀(l:List Bool) (K:List Bool->R),NV l K=K l
 | [],K=>rfl
 | true::r,K|false::r,K=>by simp only[NV,H8 r]
def RJ:Code->Nat->Option (List Bool)
 | .seq a b,k|.cond _ a b,k=>bif Nat.blt k (Df a) then(RJ a k).map (false :: ·) else(RJ b (k-Df a)).map (true :: ·)
 | .block _ c,k=>(RJ c k).map (false :: ·)
 | .loop c,k=>bif Nat.beq k 0 then some [false] else(RJ c (k-1)).map (false :: ·)
 | _,_=>none
theorem A32:∀ {c:Code} {k:Nat} {p:List Bool},RJ c k=some p->FM c k=some (JY c p):=by
 intro c
 induction c with
 | seq a b iha ihb =>
  intro k p h
  simp only[RJ] at h
  simp only[FM]
  cases hb:Nat.blt k (Df a) with
  | true=>rw[hb] at h;obtain⟨q,h1,rfl⟩:=Option.map_eq_some_iff.1 h;exact iha h1
  | false=>rw[hb] at h;obtain⟨q,h1,rfl⟩:=Option.map_eq_some_iff.1 h;exact ihb h1
 | cond x a b iha ihb =>
  intro k p h
  simp only[RJ] at h
  simp only[FM]
  cases hb:Nat.blt k (Df a) with
  | true=>rw[hb] at h;obtain⟨q,h1,rfl⟩:=Option.map_eq_some_iff.1 h;exact iha h1
  | false=>rw[hb] at h;obtain⟨q,h1,rfl⟩:=Option.map_eq_some_iff.1 h;exact ihb h1
 | block id c ih =>
  intro k p h
  simp only[RJ] at h
  obtain⟨q,h1,rfl⟩:=Option.map_eq_some_iff.1 h
  exact ih h1
 | loop c ih =>
  intro k p h
  simp only[RJ] at h
  simp only[FM]
  cases hb:Nat.beq k 0 with
  | true=>rw[hb] at h;obtain rfl:=Option.some.inj h;simp_all[JY]
  | false=>rw[hb] at h;obtain⟨q,h1,rfl⟩:=Option.map_eq_some_iff.1 h;exact ih h1
 | _=>intro k p h;cases h
inductive Fr where
 | seq (p:List Bool) (k:Nat)
 | blk (id:Nat)
 | ret
 | lup (k:Nat)
structure Fx where
 n:Nat
 f:Nat
 n0:Nat
inductive Rq where
 | call (f:Nat) (args:List AV) (H:List Rs)
 | loop (f k n0 m:Nat) (L:LX) (H:HX)
 | code (X:Fx) (p:List Bool) (k:Nat) (fr:List Fr) (m:Nat) (L:LX) (H:HX)
 | nxt (X:Fx) (e:Exit) (fr:List Fr) (m:Nat) (L:LX) (H:HX)
 | ops (X:Fx) (p:List Bool) (i:Nat) (fr:List Fr) (m:Nat) (L:LX) (H:HX)
 | one (X:Fx) (p:List Bool) (i:Nat) (fr:List Fr) (m:Nat) (L:LX) (H:HX)
 | drw (X:Fx) (p:List Bool) (i:Nat) (tr:List Tr) (fr:List Fr) (m:Nat) (L:LX) (H:HX)
 | drw1 (X:Fx) (p:List Bool) (i:Nat) (tr:List Tr) (fr:List Fr) (m:Nat) (L:LX) (H:HX)
abbrev Oyr:=Rq->Option Rsp
def DC(Q:Oyr):Orc:=fun q=>match q with
 | .call f a H=>Q (.call f a H)
 | .loop f k n0 m L H=>Q (.loop f k n0 m L H)
theorem AX(Q:Oyr)(f:Nat)(a:List AV)(H:List Rs):DC Q (.call f a H)=Q (.call f a H):=rfl
theorem Du(Q:Oyr)(f k n0 m:Nat)(L:LX)(H:HX):DC Q (.loop f k n0 m L H)=Q (.loop f k n0 m L H):=rfl
def WB{R:Type}(d:Option Nat)(s:AV)(L:LX)(K:LX->R):R:=match d with
 | some d=>K ((d,s)::L)
 | none=>K L
theorem YP{R:Type}(d:Option Nat)(s:AV)(L:LX)(K:LX->R):WB d s L K=K (Wi d s L):=by cases d<;>rfl
theorem A6p{R:Type}(d:Option Nat)(s:AV)(L:LX)(K:LX->R):WB d s L K=K (match d with|some d=>(d,s)::L|none=>L):=by cases d<;>rfl
def quiet:Op->Bool
 | .move _|.assign _|.nilCheck _|.extract _ _|.unOp _ _ _=>true
 | .binOp op _ _ _ _=>(match op with|.quo=>false|.rem=>false|.shl=>false|.shr=>false|_=>true)
 | .convert _ _ _|.alloc _|.box _ _|.load _ _|.store _ _ _|.fieldAddr _ _ _|.field _ _ _|.build _ _|.makeFunc _ _ _=>true
 | .call {callee:=.builtin b,..}=>(match b with|.len=>true|.min=>true|.max=>true|_=>false)
 | _=>false
def A9j(E:Env)(X:Fx)(m:Nat)(L:LX)(H:HX):Option Rsp:=match cfk X.f E.C,Wh X.f E.G with
 | some fn,some fi=>A9d E.T fi X.n0 fn.results.toList m L H
 | _,_=>none
def U8(E:Env)(Qc:Orc)(Q:Oyr)(X:Fx):List Fr->Exit->Nat->LX->HX->Option Rsp
 | [],_,_,_,_=>none
 | .seq p k::fr,e,m,L,H=>(match e with
  | .normal=>Q (.code X p k fr m L H)
  | e=>U8 E Qc Q X fr e m L H)
 | .blk id::fr,e,m,L,H=>(match e with
  | .exit id'=>bif Nat.beq id' id then U8 E Qc Q X fr .normal m L H else U8 E Qc Q X fr (.exit id') m L H
  | e=>U8 E Qc Q X fr e m L H)
 | .ret::_,e,m,L,H=>(match e with
  | .normal|.ret=>A9j E X m L H
  | _=>none)
 | .lup k::_,e,m,L,H=>(match(KQ E.G X.f)[k]? with
  | some kp=>(match e with
   | .normal=>NS kp.1 X.n0 m L H fun m L H=>Qc (.loop X.f k X.n0 m L H)
   | e=>NS kp.2 X.n0 m L H fun m L H=>some (.fin e m L H))
  | none=>none)
def Wn(E:Env)(Qc:Orc)(Q:Oyr)(X:Fx)(p:List Bool)(fr:List Fr):List Oper->Nat->Nat->LX->HX->Option Rsp
 | [],i,m,L,H=>U8 E Qc Q X fr .normal m L H
 | o::r,i,m,L,H=>match o.guard with
  | none=>bif Xg X.n o.dst then addN 1 i fun i=>(bif quiet o.op
    then IQ (E.tt X.f) E.G Qc (FZ L) (fun k=>hlk k H) m o.op fun t=>Ig o.dst t m L H fun m L H=>Wn E Qc Q X p fr r i m L H
    else IQ (E.tt X.f) E.G Qc (FZ L) (fun k=>hlk k H) m o.op fun t=>Ig o.dst t m L H fun m L H=>Q (.ops X p i fr m L H)) else none
  | some (j,want)=>(match((opsOf (JY (KP E.C X.f) p))[j]?).bind (·.dst) with
   | some d'=>(match JG d' L with
    | some (.b c)=>bif Xg X.n o.dst&&Nat.blt d' X.n then
      (addN 1 i fun i1=>bif c then
       bif want then Q (.one X p i fr m ((d',.b true)::L) H)
       else WB o.dst (.tup []) ((d',.b true)::L) fun L=>Q (.ops X p i1 fr m L H)
      else
       bif want then WB o.dst (.tup []) ((d',.b false)::L) fun L=>Q (.ops X p i1 fr m L H)
       else Q (.one X p i fr m ((d',.b false)::L) H))
     else none
    | some (.tup [])=>bif Xg X.n o.dst&&Nat.blt d' X.n then addN 1 i fun i=>WB o.dst (.tup []) L fun L=>Wn E Qc Q X p fr r i m L H else none
    | _=>none)
   | none=>none)
def VN(E:Env)(Qc:Orc)(Q:Oyr)(X:Fx)(p:List Bool)(fr:List Fr):List Oper->Nat->List Tr->Nat->LX->HX->Option Rsp
 | [],i,tr,m,L,H=>bif AQ X.n (opsOf (JY (KP E.C X.f) p)).toArray tr then Q (.nxt X .normal fr m L H) else none
 | o::r,i,tr,m,L,H=>match o.guard with
  | none=>Iw (o.looksAt (opsOf (JY (KP E.C X.f) p)).toArray) fun lk=>JQ (kS lk L) fun L'=>addN 1 i fun i=>(bif quiet o.op
    then IQ (E.tt X.f) E.G Qc (FZ L') (fun k=>hlk k H) m o.op fun t=>Ig o.dst t m L H fun m L H=>VN E Qc Q X p fr r i (tr++[t]) m L H
    else IQ (E.tt X.f) E.G Qc (FZ L') (fun k=>hlk k H) m o.op fun t=>Ig o.dst t m L H fun m L H=>Q (.drw X p i (tr++[t]) fr m L H))
  | some (j,want)=>(match((opsOf (JY (KP E.C X.f) p))[j]?).bind (·.dst) with
   | some d'=>(match JG d' L with
    | some (.b c)=>addN 1 i fun i1=>bif c then
      bif want then Q (.drw1 X p i tr fr m L H)
      else WB o.dst (.tup []) L fun L=>Q (.drw X p i1 (tr++[⟨.tup [],[],[],true,0⟩]) fr m L H)
     else
      bif want then WB o.dst (.tup []) L fun L=>Q (.drw X p i1 (tr++[⟨.tup [],[],[],true,0⟩]) fr m L H)
      else Q (.drw1 X p i tr fr m L H)
    | some (.tup [])=>addN 1 i fun i=>WB o.dst (.tup []) L fun L=>VN E Qc Q X p fr r i (tr++[⟨.tup [],[],[],true,0⟩]) m L H
    | _=>none)
   | none=>none)
def IV(E:Env)(Qc:Orc)(Qs Q:Oyr)(X:Fx):Code->List Bool->Nat->List Fr->Nat->LX->HX->Option Rsp
 | .skip,p,k,fr,m,L,H|.label _,p,k,fr,m,L,H=>U8 E Qc Q X fr .normal m L H
 | .seq a b,p,k,fr,m,L,H=>addN k (Df a) fun k2=>NV (p++[true]) fun p2=>IV E Qc Qs Q X a (p++[false]) k (.seq p2 k2::fr) m L H
 | .cond c a b,p,k,fr,m,L,H=>addN 0 k fun k=>addN k (Df a) fun k2=>NV (p++[false]) fun p1=>NV (p++[true]) fun p2=>(match FZ L c with
  | some (.b t)=>bif t then Q (.code X p1 k fr m L H) else Q (.code X p2 k2 fr m L H)
  | _=>none)
 | .block id c,p,k,fr,m,L,H=>IV E Qc Qs Q X c (p++[false]) k (.blk id::fr) m L H
 | .exit id,p,k,fr,m,L,H=>U8 E Qc Q X fr (.exit id) m L H
 | .ret,p,k,fr,m,L,H=>U8 E Qc Q X fr .ret m L H
 | .region id ops false,p,k,fr,m,L,H=>NV p fun p=>NS (W9 E.G X.f id) X.n0 m L H fun m L H=>bif (W9 E.G X.f id).meet then Qs (.ops X p 0 fr m L H) else Wn E Qc Q X p fr ops.toList 0 m L H
 | .region id ops true,p,k,fr,m,L,H=>NV p fun p=>NS (W9 E.G X.f id) X.n0 m L H fun m L H=>bif (W9 E.G X.f id).meet then Qs (.drw X p 0 [] fr m L H) else VN E Qc Q X p fr ops.toList 0 [] m L H
 | .loop c,p,k,fr,m,L,H=>addN 0 k fun k=>(match(KQ E.G X.f)[k]? with
  | some kp=>NS kp.1 X.n0 m L H fun m L H=>(Qc (.loop X.f k X.n0 m L H)).bind fun r=>match r with
   | .fin e m L H=>Q (.nxt X e fr m L H)
   | _=>none
  | none=>none)
 | _,_,_,_,_,_,_=>none
def CZ(E:Env)(Qc:Orc)(Qs Q:Oyr)(q:Rq):Option Rsp:=match q with
 | .call f args H=>(match E.ov (.call f args H) with
  | some r=>some r
  | none=>(match cfk f E.C,Wh f E.G with
   | some fn,some _=>(match fn.body with
    | some _=>bif Nat.ble args.length fn.ntmps then addN 0 fn.ntmps fun n=>addN 0 H.length fun n0=>Q (.code ⟨n,f,n0⟩ [] 0 [.ret] n0 (argX 0 args) (hOf 0 H)) else none
    | none=>none)
   | _,_=>none))
 | .loop f k n0 m L H=>(match E.ov (.loop f k n0 m L H) with
  | some r=>some r
  | none=>addN 0 n0 fun n0=>(match cfk f E.C,Wh f E.G with
   | some fn,some fi=>(match fn.body,fi.keep[k]? with
    | some c,some _=>(match RJ c k with
     | some p=>addN 0 fn.ntmps fun n=>NV p fun p=>Q (.code ⟨n,f,n0⟩ p (k+1) [.lup k] m L H)
     | none=>none)
    | _,_=>none)
   | _,_=>none))
 | .code X p k fr m L H=>IV E Qc Qs Q X (JY (KP E.C X.f) p) p k fr m L H
 | .nxt X e fr m L H=>U8 E Qc Q X fr e m L H
 | .ops X p i fr m L H=>Wn E Qc Q X p fr ((opsOf (JY (KP E.C X.f) p)).drop i) i m L H
 | .one X p i fr m L H=>(match(opsOf (JY (KP E.C X.f) p))[i]? with
  | some o=>addN 1 i fun i=>IQ (E.tt X.f) E.G Qc (FZ L) (fun k=>hlk k H) m o.op fun t=>Ig o.dst t m L H fun m L H=>Q (.ops X p i fr m L H)
  | none=>none)
 | .drw X p i tr fr m L H=>VN E Qc Q X p fr ((opsOf (JY (KP E.C X.f) p)).drop i) i tr m L H
 | .drw1 X p i tr fr m L H=>(match(opsOf (JY (KP E.C X.f) p))[i]? with
  | some o=>Iw (o.looksAt (opsOf (JY (KP E.C X.f) p)).toArray) fun lk=>JQ (kS lk L) fun L'=>addN 1 i fun i=>IQ (E.tt X.f) E.G Qc (FZ L') (fun k=>hlk k H) m o.op fun t=>Ig o.dst t m L H fun m L H=>Q (.drw X p i (tr++[t]) fr m L H)
  | none=>none)
def Pm(Q Q':Oyr):Prop:=∀ q r,Q q=some r->Q' q=some r
section
variable {E:Env}{Qc Qc':Orc}{Q Q' Qs Qs':Oyr}{X:Fx}{r:Rsp}
theorem uM(h:Pm Q Q'):aH (DC Q) (DC Q'):=by
 intro q r
 cases q with
 | call f a H|loop f k n0 m L H=>exact h _ _
theorem KR(hc:aH Qc Qc')(h:Pm Q Q'):∀(fr:List Fr) {e:Exit} {m:Nat} {L:LX} {H:HX},U8 E Qc Q X fr e m L H=some r->U8 E Qc' Q' X fr e m L H=some r
 | [],e,m,L,H=>id
 | .seq p k::fr,e,m,L,H=>by
  cases e<;>first|exact h (.code X p k fr m L H) r|exact KR hc h fr
 | .blk id::fr,e,m,L,H=>by
  cases e<;>first|exact BD (KR hc h fr) (KR hc h fr)|exact KR hc h fr
 | .ret::fr,e,m,L,H=>by cases e<;>exact id
 | .lup k::fr,e,m,L,H=>by
  simp only[U8]
  generalize (KQ E.G X.f)[k]?=z
  cases z with
  | none=>exact id
  | some kp=>cases e<;>first|exact Gf fun m L H=>hc (.loop X.f k X.n0 m L H) r|exact id
theorem Qd(hc:aH Qc Qc')(h:Pm Q Q'){p:List Bool}{fr:List Fr}:∀(l:List Oper) {i m:Nat} {L:LX} {H:HX},Wn E Qc Q X p fr l i m L H=some r->Wn E Qc' Q' X p fr l i m L H=some r
 | [],i,m,L,H=>by grind[Wn,KR]
 | o::l,i,m,L,H=>by
  rw[Wn,Wn]
  simp only[Dp,YP]
  split
  ·exact BD (BD (EP hc fun t=>EQ fun m L H=>Qd hc h l) (EP hc fun t=>EQ fun m L H=>h _ _)) id
  ·split
   ·split
    ·exact BD (BD (BD (h _ _) (h _ _)) (BD (h _ _) (h _ _))) id
    ·exact BD (Qd hc h l) id
    ·exact id
   ·exact id
theorem Qe(hc:aH Qc Qc')(h:Pm Q Q'){p:List Bool}{fr:List Fr}:∀(l:List Oper) {i:Nat} {tr:List Tr} {m:Nat} {L:LX} {H:HX},VN E Qc Q X p fr l i tr m L H=some r->VN E Qc' Q' X p fr l i tr m L H=some r
 | [],i,tr,m,L,H=>by rw[VN,VN];exact BD (h _ _) id
 | o::l,i,tr,m,L,H=>by
  rw[VN,VN]
  simp only[Dp,EW,EZ,YP]
  split
  ·exact BD (EP hc fun t=>EQ fun m L H=>Qe hc h l) (EP hc fun t=>EQ fun m L H=>h _ _)
  ·split
   ·split
    ·exact BD (BD (h _ _) (h _ _)) (BD (h _ _) (h _ _))
    ·exact Qe hc h l
    ·exact id
   ·exact id
theorem uN(hc:aH Qc Qc')(hs:Pm Qs Qs')(h:Pm Q Q'):∀(c:Code) {p:List Bool} {k:Nat} {fr:List Fr} {m:Nat} {L:LX} {H:HX},IV E Qc Qs Q X c p k fr m L H=some r->IV E Qc' Qs' Q' X c p k fr m L H=some r:=by
 intro c
 induction c with
 | skip|label l|exit id|ret=>intro p k fr m L H;exact KR hc h fr
 | seq a b iha ihb=>simp_all[IV,Dp,H8]
 | block id c ih=>simp_all[IV]
 | cond x a b iha ihb =>
  intro p k fr m L H
  rw[IV,IV]
  simp only[Dp,H8]
  split
  ·exact BD (h _ _) (h _ _)
  ·exact id
 | region id ops b =>
  intro p k fr m L H
  cases b with
  | false=>rw[IV,IV];simp only[H8];exact Gf fun m L H=>BD (hs _ _) (Qd hc h _)
  | true=>rw[IV,IV];simp only[H8];exact Gf fun m L H=>BD (hs _ _) (Qe hc h _)
 | loop c ih =>
  intro p k fr m L H
  rw[IV,IV]
  simp only[Dp,Nat.zero_add]
  split
  ·refine Gf fun m L H hh=>?_
   obtain⟨x,h1,h2⟩:=Option.bind_eq_some_iff.1 hh
   rw[hc _ _ h1]
   simp only[Option.bind_some]
   revert h2
   split
   ·exact h _ _
   ·exact id
  ·exact id
 | _=>simp_all[IV]
theorem uO(hc:aH Qc Qc')(hs:Pm Qs Qs')(h:Pm Q Q'):Pm (CZ E Qc Qs Q) (CZ E Qc' Qs' Q'):=by
 intro q r
 cases q with
 | call f args H =>
  simp only[CZ,Dp]
  split
  ·exact id
  ·split
   ·split
    ·exact BD (h _ _) id
    ·exact id
   ·exact id
 | loop f k n0 m L H =>
  simp only[CZ,Dp,H8]
  split
  ·exact id
  ·split
   ·split
    ·split
     ·exact h _ _
     ·exact id
    ·exact id
   ·exact id
 | code X p k fr m L H=>exact uN hc hs h _
 | nxt X e fr m L H=>exact KR hc h fr
 | ops X p i fr m L H=>exact Qd hc h _
 | one X p i fr m L H =>
  simp only[CZ,Dp]
  split
  ·exact EP hc fun t=>EQ fun m L H=>h _ _
  ·exact id
 | drw X p i tr fr m L H=>exact Qe hc h _
 | drw1 X p i tr fr m L H =>
  simp only[CZ,EW,EZ,Dp]
  split
  ·exact EP hc fun t=>EQ fun m L H=>h _ _
  ·exact id
end
def Y(E:Env)(q:Rq):Option Rsp:=CZ E (DC (Y E)) (Y E) (Y E) q
partial_fixpoint monotonicity by
 intro F1 F2 h q
 have hQ:Pm F1 F2:=fun q r hq=>by
  have hr:=h q
  generalize F2 q=z at hr ⊢
  generalize F1 q=y at hr hq
  subst hq
  cases hr
  rfl
 have hm:=uO (E:=E) (uM hQ) hQ hQ q
 dsimp only
 generalize CZ E (DC F2) F2 F2 q=z at hm ⊢
 generalize CZ E (DC F1) F1 F1 q=y at hm ⊢
 cases y with
 | none=>exact .bot
 | some r=>grind
abbrev cdA(E:Env)(X:Fx)(p:List Bool):Code:=JY (KP E.C X.f) p
abbrev RN(E:Env)(X:Fx)(p:List Bool):List Oper:=opsOf (cdA E X p)
def KF(E:Env)(X:Fx):List Fr->Exit->Nat->LX->HX->Option Rsp
 | [],_,_,_,_=>none
 | .seq p k::fr,e,m,L,H=>(match e with
  | .normal=>Ot (E.tt X.f) E.G (F E) X.n X.f X.n0 (KQ E.G X.f) (cdA E X p) k m L H (KF E X fr)
  | e=>KF E X fr e m L H)
 | .blk id::fr,e,m,L,H=>(match e with
  | .exit id'=>bif Nat.beq id' id then KF E X fr .normal m L H else KF E X fr (.exit id') m L H
  | e=>KF E X fr e m L H)
 | .ret::_,e,m,L,H=>(match e with
  | .normal|.ret=>A9j E X m L H
  | _=>none)
 | .lup k::_,e,m,L,H=>(match(KQ E.G X.f)[k]? with
  | some kp=>(match e with
   | .normal=>NS kp.1 X.n0 m L H fun m L H=>F E (.loop X.f k X.n0 m L H)
   | e=>NS kp.2 X.n0 m L H fun m L H=>some (.fin e m L H))
  | none=>none)
def den(E:Env):Rq->Option Rsp
 | .call f args H=>F E (.call f args H)
 | .loop f k n0 m L H=>F E (.loop f k n0 m L H)
 | .code X p k fr m L H=>Ot (E.tt X.f) E.G (F E) X.n X.f X.n0 (KQ E.G X.f) (cdA E X p) k m L H (KF E X fr)
 | .nxt X e fr m L H=>KF E X fr e m L H
 | .ops X p i fr m L H=>J9 (E.tt X.f) E.G (F E) X.n (RN E X p) ((RN E X p).drop i) m L H fun m L H=>KF E X fr .normal m L H
 | .one X p i fr m L H=>(match(RN E X p)[i]? with
  | some o=>IQ (E.tt X.f) E.G (F E) (FZ L) (fun k=>hlk k H) m o.op fun t=>Ig o.dst t m L H fun m L H=>J9 (E.tt X.f) E.G (F E) X.n (RN E X p) ((RN E X p).drop (1+i)) m L H fun m L H=>KF E X fr .normal m L H
  | none=>none)
 | .drw X p i tr fr m L H=>IU (E.tt X.f) E.G (F E) (RN E X p) ((RN E X p).drop i) tr m L H fun tr m L H=>bif AQ X.n (RN E X p).toArray tr then KF E X fr .normal m L H else none
 | .drw1 X p i tr fr m L H=>(match(RN E X p)[i]? with
  | some o=>Iw (o.looksAt (RN E X p).toArray) fun lk=>JQ (kS lk L) fun L'=>IQ (E.tt X.f) E.G (F E) (FZ L') (fun k=>hlk k H) m o.op fun t=>Ig o.dst t m L H fun m L H=>IU (E.tt X.f) E.G (F E) (RN E X p) ((RN E X p).drop (1+i)) (tr++[t]) m L H fun tr m L H=>bif AQ X.n (RN E X p).toArray tr then KF E X fr .normal m L H else none
  | none=>none)
section
variable {E:Env}{Qc:Orc}{Q Qs:Oyr}{X:Fx}{r:Rsp}
theorem A0O(h:Pm Q (den E)):aH (DC Q) (F E):=by
 intro q r
 cases q with
 | call f a H=>exact h (.call f a H) r
 | loop f k n0 m L H=>exact h (.loop f k n0 m L H) r
theorem MR(hc:aH Qc (F E))(h:Pm Q (den E)):∀(fr:List Fr) {e:Exit} {m:Nat} {L:LX} {H:HX},U8 E Qc Q X fr e m L H=some r->KF E X fr e m L H=some r
 | [],e,m,L,H=>id
 | .seq p k::fr,e,m,L,H=>by
  cases e<;>first|exact h (.code X p k fr m L H) r|exact MR hc h fr
 | .blk id::fr,e,m,L,H=>by
  cases e<;>first|exact BD (MR hc h fr) (MR hc h fr)|exact MR hc h fr
 | .ret::fr,e,m,L,H=>by cases e<;>exact id
 | .lup k::fr,e,m,L,H=>by
  simp only[U8,KF]
  generalize (KQ E.G X.f)[k]?=z
  cases z with
  | none=>exact id
  | some kp=>cases e<;>first|exact Gf fun m L H=>hc (.loop X.f k X.n0 m L H) r|exact id
theorem yC{α:Type}{l t:List α}{i:Nat}{o:α}(h:l.drop i=o::t):l[i]?=some o/\l.drop (1+i)=t:=by
 constructor
 ·have:=congrArg (fun z=>z[0]?) h
  grind
 ·have:=congrArg (fun z=>z.drop 1) h
  grind[List.drop_drop]
theorem U9(hc:aH Qc (F E))(h:Pm Q (den E)){p:List Bool}{fr:List Fr}:∀(l:List Oper) {i m:Nat} {L:LX} {H:HX},(RN E X p).drop i=l->Wn E Qc Q X p fr l i m L H=some r->J9 (E.tt X.f) E.G (F E) X.n (RN E X p) l m L H (fun m L H=>KF E X fr .normal m L H)=some r
 | [],i,m,L,H,_=>by grind[Wn,J9,MR]
 | o::l,i,m,L,H,hl=>by
  obtain⟨h1,h2⟩:=yC hl
  have hops:∀ {m L H},Q (.ops X p (1+i) fr m L H)=some r->J9 (E.tt X.f) E.G (F E) X.n (RN E X p) l m L H (fun m L H=>KF E X fr .normal m L H)=some r:=fun hh=>by
   have:=h _ _ hh
   simp_all[den]
  have hone:∀ {m L H},Q (.one X p i fr m L H)=some r->(IQ (E.tt X.f) E.G (F E) (FZ L) (fun k=>hlk k H) m o.op fun t=>Ig o.dst t m L H fun m L H=>J9 (E.tt X.f) E.G (F E) X.n (RN E X p) l m L H fun m L H=>KF E X fr .normal m L H)=some r:=fun hh=>by
   have:=h _ _ hh
   simp_all[den]
  rw[Wn,J9]
  simp only[Dp,A6p]
  generalize o.guard=g
  cases g with
  | none =>
   refine BD (fun hh=>?_) id
   cases hq:quiet o.op with
   | true =>
    rw[hq,cond_true] at hh
    exact EP hc (fun t=>EQ fun m L H=>U9 hc h l h2) hh
   | false =>
    rw[hq,cond_false] at hh
    exact EP hc (fun t=>EQ fun m L H=>hops) hh
  | some q =>
   obtain⟨j,want⟩:=q
   simp only
   generalize ((RN E X p)[j]?).bind (·.dst)=x
   cases x with
   | none=>exact id
   | some d' =>
    simp only
    generalize JG d' L=y
    match y with
    | some (.b c)=>grind
    | some (.tup [])=>exact BD (U9 hc h l h2) id
    | none|some .un|some (.i _)|some (.u8 _)|some (.u32 _)|some (.u64 _)|some (.str _)|some (.sl _ _)|some (.st _ _)|some (.sn _ _)|some .nil|some (.gp _)|some (.nm _)|some (.pa _ _)|some (.pe _ _ _ _)|some (.vs _ _ _ _)|some (.pt _)|some (.agg _)|some (.tup (_::_))|some (.fn _ _ _)=>exact fun hh=>by cases hh
theorem UA(hc:aH Qc (F E))(h:Pm Q (den E)){p:List Bool}{fr:List Fr}:∀(l:List Oper) {i:Nat} {tr:List Tr} {m:Nat} {L:LX} {H:HX},(RN E X p).drop i=l->VN E Qc Q X p fr l i tr m L H=some r->IU (E.tt X.f) E.G (F E) (RN E X p) l tr m L H (fun tr m L H=>bif AQ X.n (RN E X p).toArray tr then KF E X fr .normal m L H else none)=some r
 | [],i,tr,m,L,H,_=>by rw[VN,IU];exact BD (h (.nxt X .normal fr m L H) r) id
 | o::l,i,tr,m,L,H,hl=>by
  obtain⟨h1,h2⟩:=yC hl
  have hops:∀ {tr m L H},Q (.drw X p (1+i) tr fr m L H)=some r->IU (E.tt X.f) E.G (F E) (RN E X p) l tr m L H (fun tr m L H=>bif AQ X.n (RN E X p).toArray tr then KF E X fr .normal m L H else none)=some r:=fun hh=>by
   have:=h _ _ hh
   simp_all[den]
  have hone:∀ {tr m L H},Q (.drw1 X p i tr fr m L H)=some r->(IQ (E.tt X.f) E.G (F E) (FZ (kS (o.looksAt (RN E X p).toArray) L)) (fun k=>hlk k H) m o.op fun t=>Ig o.dst t m L H fun m L H=>IU (E.tt X.f) E.G (F E) (RN E X p) l (tr++[t]) m L H (fun tr m L H=>bif AQ X.n (RN E X p).toArray tr then KF E X fr .normal m L H else none))=some r:=fun hh=>by
   have:=h _ _ hh
   simp_all[den,EW,EZ]
  rw[VN,IU]
  simp only[Dp,EW,EZ,YP]
  generalize o.guard=g
  cases g with
  | none =>
   intro hh
   cases hq:quiet o.op with
   | true =>
    rw[hq,cond_true] at hh
    exact EP hc (fun t=>EQ fun m L H=>UA hc h l h2) hh
   | false =>
    rw[hq,cond_false] at hh
    exact EP hc (fun t=>EQ fun m L H=>hops) hh
  | some q =>
   obtain⟨j,want⟩:=q
   simp only
   generalize ((RN E X p)[j]?).bind (·.dst)=x
   cases x with
   | none=>exact id
   | some d' =>
    simp only
    generalize JG d' L=y
    match y with
    | some (.b c)=>grind
    | some (.tup [])=>exact UA hc h l h2
    | none|some .un|some (.i _)|some (.u8 _)|some (.u32 _)|some (.u64 _)|some (.str _)|some (.sl _ _)|some (.st _ _)|some (.sn _ _)|some .nil|some (.gp _)|some (.nm _)|some (.pa _ _)|some (.pe _ _ _ _)|some (.vs _ _ _ _)|some (.pt _)|some (.agg _)|some (.tup (_::_))|some (.fn _ _ _)=>exact fun hh=>by cases hh
theorem A33(c:Code):JY c []=c:=by simp_all[JY]
theorem A0P(hc:aH Qc (F E))(hs:Pm Qs (den E))(h:Pm Q (den E)):∀(c:Code) {p:List Bool} {k:Nat} {fr:List Fr} {m:Nat} {L:LX} {H:HX},cdA E X p=c->IV E Qc Qs Q X c p k fr m L H=some r->Ot (E.tt X.f) E.G (F E) X.n X.f X.n0 (KQ E.G X.f) c k m L H (KF E X fr)=some r:=by
 intro c
 induction c with
 | skip|label l|exit id|ret=>intro p k fr m L H _;exact MR hc h fr
 | seq a b iha ihb =>
  intro p k fr m L H hcd hh
  rw[IV] at hh
  simp only[Dp,H8] at hh
  have ha:cdA E X (p++[false])=a:=zbG
  have hb:cdA E X (p++[true])=b:=zbG
  have:=iha ha hh
  rw[Ot]
  refine Ny (fun _ _ h=>h) a (fun e m L H=>?_) this
  grind[KF]
 | block id c ih =>
  intro p k fr m L H hcd hh
  rw[IV] at hh
  have ha:cdA E X (p++[false])=c:=zbG
  have:=ih ha hh
  rw[Ot]
  refine Ny (fun _ _ h=>h) c (fun e m L H=>?_) this
  cases e<;>exact _root_.id
 | cond x a b iha ihb =>
  intro p k fr m L H hcd
  have ha:cdA E X (p++[false])=a:=zbG
  have hb:cdA E X (p++[true])=b:=zbG
  rw[IV,Ot]
  simp only[Dp,H8,Nat.zero_add]
  generalize FZ L x=y
  match y with
  | some (.b c)=>exact BD (fun hh=>by have:=h _ _ hh;simp_all[den]) (fun hh=>by have:=h _ _ hh;simp_all[den])
  | none|some .un|some (.i _)|some (.u8 _)|some (.u32 _)|some (.u64 _)|some (.str _)|some (.sl _ _)|some (.st _ _)|some (.sn _ _)|some .nil|some (.gp _)|some (.nm _)|some (.pa _ _)|some (.pe _ _ _ _)|some (.vs _ _ _ _)|some (.pt _)|some (.agg _)|some (.tup _)|some (.fn _ _ _)=>exact fun hh=>by cases hh
 | region id ops b =>
  intro p k fr m L H hcd
  have ho:RN E X p=ops.toList:=by unfold RN;rw[hcd];rfl
  cases b with
  | false =>
   rw[IV,Ot];simp only[H8]
   refine Gf fun m L H hh=>?_
   revert hh
   cases (W9 E.G X.f id).meet with
   | true =>
    intro hh
    have:=hs _ _ hh
    simp_all[den]
   | false =>
    intro hh
    have:=U9 hc h ops.toList (p:=p) (fr:=fr) zaL hh
    simp_all
  | true =>
   rw[IV,Ot];simp only[H8]
   refine Gf fun m L H hh=>?_
   revert hh
   cases (W9 E.G X.f id).meet with
   | true =>
    intro hh
    have:=hs _ _ hh
    simp_all[den]
   | false =>
    intro hh
    have:=UA hc h ops.toList (p:=p) (fr:=fr) zaL hh
    simp_all
 | loop c ih =>
  intro p k fr m L H hcd
  rw[IV,Ot]
  simp only[Dp,Nat.zero_add]
  generalize (KQ E.G X.f)[k]?=z
  cases z with
  | none=>exact id
  | some kp =>
   refine Gf fun m L H hh=>?_
   obtain⟨x,h1,h2⟩:=Option.bind_eq_some_iff.1 hh
   rw[show F E (.loop X.f k X.n0 m L H)=some x from hc (.loop X.f k X.n0 m L H) x h1]
   simp only[Option.bind_some]
   cases x with
   | fin e m L H=>exact h (.nxt X e fr m L H) r h2
   | ret s H=>cases h2
 | _=>simp_all[IV]
theorem ABS:∀ q r,Y E q=some r->den E q=some r:=by
 refine Y.partial_correctness E _ fun Q hQ q r hr=>?_
 have h:Pm Q (den E):=hQ
 have hc:=A0O h
 cases q with
 | call f args H =>
  rw[den,F.eq_1]
  simp only[CZ,Dp,Nat.zero_add] at hr
  unfold PX
  split at hr
  ·simp_all
  ·rename_i ho
   rw[ho]
   simp only[Dp,Nat.zero_add]
   split at hr
   ·rename_i fn fi hcf hfi
    rw[hcf,hfi]
    simp only
    split at hr
    ·rename_i c hb
     rw[hb]
     simp only
     revert hr
     refine BD (fun hr=>?_) id
     have:=h _ _ hr
     have e1:cdA E ⟨fn.ntmps,f,H.length⟩ []=c:=by simp_all[KP,A33]
     have e2:KQ E.G f=fi.keep:=by grind[KQ]
     rw[den,e1] at this
     simp only[e2] at this
     refine Ny (fun _ _ h=>h) c (fun e m L H=>?_) this
     grind[KF,A9j]
    ·cases hr
   ·cases hr
 | loop f k n0 m L H =>
  rw[den,F.eq_1]
  simp only[CZ,Dp,Nat.zero_add,H8] at hr
  unfold PX
  split at hr
  ·simp_all
  ·rename_i ho
   rw[ho]
   simp only
   split at hr
   ·rename_i fn fi hcf hfi
    rw[hcf,hfi]
    simp only
    split at hr
    ·rename_i c kp hb hkp
     rw[hb,hkp]
     simp only
     split at hr
     ·rename_i p hl
      rw[A32 hl]
      simp only
      have:=h _ _ hr
      have e1:cdA E ⟨fn.ntmps,f,n0⟩ p=JY c p:=by simp_all[cdA,KP]
      have e2:KQ E.G f=fi.keep:=by grind[KQ]
      rw[den,e1] at this
      simp only[e2] at this
      refine Ny (fun _ _ h=>h) _ (fun e m L H=>?_) this
      grind[KF]
     ·cases hr
    ·cases hr
   ·cases hr
 | code X p k fr m L H=>exact A0P hc h h _ rfl hr
 | nxt X e fr m L H=>exact MR hc h fr hr
 | ops X p i fr m L H=>exact U9 hc h _ rfl hr
 | one X p i fr m L H =>
  rw[den]
  simp only[CZ,Dp] at hr
  show(match(RN E X p)[i]? with|some o=>_|none=>none)=some r
  generalize (RN E X p)[i]?=z at hr ⊢
  cases z with
  | none=>cases hr
  | some o=>exact EP hc (fun t=>EQ fun m L H=>h (.ops X p (1+i) fr m L H) r) hr
 | drw X p i tr fr m L H=>exact UA hc h _ rfl hr
 | drw1 X p i tr fr m L H =>
  rw[den]
  simp only[CZ,Dp,EW,EZ] at hr ⊢
  generalize hz:(RN E X p)[i]?=z at hr ⊢
  cases z with
  | none=>cases hr
  | some o=>exact EP hc (fun t=>EQ fun m L H=>h (.drw X p (1+i) _ fr m L H) r) hr
def Y1(E:Env)(q:Rq):Option Rsp:=CZ E (DC (Y E)) (Y E) (Y E) q
def Y2(E:Env)(q:Rq):Option Rsp:=CZ E (DC (Y E)) (Y E) (Y1 E) q
def Y3(E:Env)(q:Rq):Option Rsp:=CZ E (DC (Y E)) (Y E) (Y2 E) q
def Y4(E:Env)(q:Rq):Option Rsp:=CZ E (DC (Y E)) (Y E) (Y3 E) q
def Y5(E:Env)(q:Rq):Option Rsp:=CZ E (DC (Y E)) (Y E) (Y4 E) q
def Y6(E:Env)(q:Rq):Option Rsp:=CZ E (DC (Y E)) (Y E) (Y5 E) q
def Y7(E:Env)(q:Rq):Option Rsp:=CZ E (DC (Y E)) (Y E) (Y6 E) q
def Y8(E:Env)(q:Rq):Option Rsp:=CZ E (DC (Y E)) (Y E) (Y7 E) q
def Y9(E:Env)(q:Rq):Option Rsp:=CZ E (DC (Y E)) (Y E) (Y8 E) q
def Y10(E:Env)(q:Rq):Option Rsp:=CZ E (DC (Y E)) (Y E) (Y9 E) q
def Y11(E:Env)(q:Rq):Option Rsp:=CZ E (DC (Y E)) (Y E) (Y10 E) q
def Y12(E:Env)(q:Rq):Option Rsp:=CZ E (DC (Y E)) (Y E) (Y11 E) q
def Y13(E:Env)(q:Rq):Option Rsp:=CZ E (DC (Y E)) (Y E) (Y12 E) q
def Y14(E:Env)(q:Rq):Option Rsp:=CZ E (DC (Y E)) (Y E) (Y13 E) q
def Y15(E:Env)(q:Rq):Option Rsp:=CZ E (DC (Y E)) (Y E) (Y14 E) q
def Y16(E:Env)(q:Rq):Option Rsp:=CZ E (DC (Y E)) (Y E) (Y15 E) q
def Y17(E:Env)(q:Rq):Option Rsp:=CZ E (DC (Y E)) (Y E) (Y16 E) q
def Y18(E:Env)(q:Rq):Option Rsp:=CZ E (DC (Y E)) (Y E) (Y17 E) q
def Y19(E:Env)(q:Rq):Option Rsp:=CZ E (DC (Y E)) (Y E) (Y18 E) q
def Y20(E:Env)(q:Rq):Option Rsp:=CZ E (DC (Y E)) (Y E) (Y19 E) q
def Y21(E:Env)(q:Rq):Option Rsp:=CZ E (DC (Y E)) (Y E) (Y20 E) q
def Y22(E:Env)(q:Rq):Option Rsp:=CZ E (DC (Y E)) (Y E) (Y21 E) q
def Y23(E:Env)(q:Rq):Option Rsp:=CZ E (DC (Y E)) (Y E) (Y22 E) q
def Y24(E:Env)(q:Rq):Option Rsp:=CZ E (DC (Y E)) (Y E) (Y23 E) q
def Y25(E:Env)(q:Rq):Option Rsp:=CZ E (DC (Y E)) (Y E) (Y24 E) q
def Y26(E:Env)(q:Rq):Option Rsp:=CZ E (DC (Y E)) (Y E) (Y25 E) q
def Y27(E:Env)(q:Rq):Option Rsp:=CZ E (DC (Y E)) (Y E) (Y26 E) q
def Y28(E:Env)(q:Rq):Option Rsp:=CZ E (DC (Y E)) (Y E) (Y27 E) q
def Y29(E:Env)(q:Rq):Option Rsp:=CZ E (DC (Y E)) (Y E) (Y28 E) q
def Y30(E:Env)(q:Rq):Option Rsp:=CZ E (DC (Y E)) (Y E) (Y29 E) q
def Y31(E:Env)(q:Rq):Option Rsp:=CZ E (DC (Y E)) (Y E) (Y30 E) q
def Y32(E:Env)(q:Rq):Option Rsp:=CZ E (DC (Y E)) (Y E) (Y31 E) q
def Y33(E:Env)(q:Rq):Option Rsp:=CZ E (DC (Y E)) (Y E) (Y32 E) q
def Y34(E:Env)(q:Rq):Option Rsp:=CZ E (DC (Y E)) (Y E) (Y33 E) q
def Y35(E:Env)(q:Rq):Option Rsp:=CZ E (DC (Y E)) (Y E) (Y34 E) q
def Y36(E:Env)(q:Rq):Option Rsp:=CZ E (DC (Y E)) (Y E) (Y35 E) q
def Y37(E:Env)(q:Rq):Option Rsp:=CZ E (DC (Y E)) (Y E) (Y36 E) q
def Y38(E:Env)(q:Rq):Option Rsp:=CZ E (DC (Y E)) (Y E) (Y37 E) q
def Y39(E:Env)(q:Rq):Option Rsp:=CZ E (DC (Y E)) (Y E) (Y38 E) q
def Y40(E:Env)(q:Rq):Option Rsp:=CZ E (DC (Y E)) (Y E) (Y39 E) q
theorem Y_0:Y=Y:=rfl
theorem Y_1:Y=Y1:=by funext E q;rw[Y.eq_1];show _=CZ E (DC (Y E)) (Y E) (Y E) q;rw[<-Y_0]
theorem Y_2:Y=Y2:=by funext E q;rw[Y.eq_1];show _=CZ E (DC (Y E)) (Y E) (Y1 E) q;rw[<-Y_1]
theorem Y_3:Y=Y3:=by funext E q;rw[Y.eq_1];show _=CZ E (DC (Y E)) (Y E) (Y2 E) q;rw[<-Y_2]
theorem Y_4:Y=Y4:=by funext E q;rw[Y.eq_1];show _=CZ E (DC (Y E)) (Y E) (Y3 E) q;rw[<-Y_3]
theorem Y_5:Y=Y5:=by funext E q;rw[Y.eq_1];show _=CZ E (DC (Y E)) (Y E) (Y4 E) q;rw[<-Y_4]
theorem Y_6:Y=Y6:=by funext E q;rw[Y.eq_1];show _=CZ E (DC (Y E)) (Y E) (Y5 E) q;rw[<-Y_5]
theorem Y_7:Y=Y7:=by funext E q;rw[Y.eq_1];show _=CZ E (DC (Y E)) (Y E) (Y6 E) q;rw[<-Y_6]
theorem Y_8:Y=Y8:=by funext E q;rw[Y.eq_1];show _=CZ E (DC (Y E)) (Y E) (Y7 E) q;rw[<-Y_7]
theorem Y_9:Y=Y9:=by funext E q;rw[Y.eq_1];show _=CZ E (DC (Y E)) (Y E) (Y8 E) q;rw[<-Y_8]
theorem ADV:Y=Y10:=by funext E q;rw[Y.eq_1];show _=CZ E (DC (Y E)) (Y E) (Y9 E) q;rw[<-Y_9]
theorem ADW:Y=Y11:=by funext E q;rw[Y.eq_1];show _=CZ E (DC (Y E)) (Y E) (Y10 E) q;rw[<-ADV]
theorem ADX:Y=Y12:=by funext E q;rw[Y.eq_1];show _=CZ E (DC (Y E)) (Y E) (Y11 E) q;rw[<-ADW]
theorem ADY:Y=Y13:=by funext E q;rw[Y.eq_1];show _=CZ E (DC (Y E)) (Y E) (Y12 E) q;rw[<-ADX]
theorem ADZ:Y=Y14:=by funext E q;rw[Y.eq_1];show _=CZ E (DC (Y E)) (Y E) (Y13 E) q;rw[<-ADY]
theorem ADa:Y=Y15:=by funext E q;rw[Y.eq_1];show _=CZ E (DC (Y E)) (Y E) (Y14 E) q;rw[<-ADZ]
theorem ADb:Y=Y16:=by funext E q;rw[Y.eq_1];show _=CZ E (DC (Y E)) (Y E) (Y15 E) q;rw[<-ADa]
theorem ADc:Y=Y17:=by funext E q;rw[Y.eq_1];show _=CZ E (DC (Y E)) (Y E) (Y16 E) q;rw[<-ADb]
theorem ADd:Y=Y18:=by funext E q;rw[Y.eq_1];show _=CZ E (DC (Y E)) (Y E) (Y17 E) q;rw[<-ADc]
theorem ADe:Y=Y19:=by funext E q;rw[Y.eq_1];show _=CZ E (DC (Y E)) (Y E) (Y18 E) q;rw[<-ADd]
theorem ADf:Y=Y20:=by funext E q;rw[Y.eq_1];show _=CZ E (DC (Y E)) (Y E) (Y19 E) q;rw[<-ADe]
theorem ADg:Y=Y21:=by funext E q;rw[Y.eq_1];show _=CZ E (DC (Y E)) (Y E) (Y20 E) q;rw[<-ADf]
theorem ADh:Y=Y22:=by funext E q;rw[Y.eq_1];show _=CZ E (DC (Y E)) (Y E) (Y21 E) q;rw[<-ADg]
theorem ADi:Y=Y23:=by funext E q;rw[Y.eq_1];show _=CZ E (DC (Y E)) (Y E) (Y22 E) q;rw[<-ADh]
theorem ADj:Y=Y24:=by funext E q;rw[Y.eq_1];show _=CZ E (DC (Y E)) (Y E) (Y23 E) q;rw[<-ADi]
theorem ADk:Y=Y25:=by funext E q;rw[Y.eq_1];show _=CZ E (DC (Y E)) (Y E) (Y24 E) q;rw[<-ADj]
theorem ADl:Y=Y26:=by funext E q;rw[Y.eq_1];show _=CZ E (DC (Y E)) (Y E) (Y25 E) q;rw[<-ADk]
theorem ADm:Y=Y27:=by funext E q;rw[Y.eq_1];show _=CZ E (DC (Y E)) (Y E) (Y26 E) q;rw[<-ADl]
theorem ADn:Y=Y28:=by funext E q;rw[Y.eq_1];show _=CZ E (DC (Y E)) (Y E) (Y27 E) q;rw[<-ADm]
theorem ADo:Y=Y29:=by funext E q;rw[Y.eq_1];show _=CZ E (DC (Y E)) (Y E) (Y28 E) q;rw[<-ADn]
theorem ADp:Y=Y30:=by funext E q;rw[Y.eq_1];show _=CZ E (DC (Y E)) (Y E) (Y29 E) q;rw[<-ADo]
theorem ADq:Y=Y31:=by funext E q;rw[Y.eq_1];show _=CZ E (DC (Y E)) (Y E) (Y30 E) q;rw[<-ADp]
theorem ADr:Y=Y32:=by funext E q;rw[Y.eq_1];show _=CZ E (DC (Y E)) (Y E) (Y31 E) q;rw[<-ADq]
theorem ADs:Y=Y33:=by funext E q;rw[Y.eq_1];show _=CZ E (DC (Y E)) (Y E) (Y32 E) q;rw[<-ADr]
theorem ADt:Y=Y34:=by funext E q;rw[Y.eq_1];show _=CZ E (DC (Y E)) (Y E) (Y33 E) q;rw[<-ADs]
theorem ADu:Y=Y35:=by funext E q;rw[Y.eq_1];show _=CZ E (DC (Y E)) (Y E) (Y34 E) q;rw[<-ADt]
theorem ADv:Y=Y36:=by funext E q;rw[Y.eq_1];show _=CZ E (DC (Y E)) (Y E) (Y35 E) q;rw[<-ADu]
theorem ADw:Y=Y37:=by funext E q;rw[Y.eq_1];show _=CZ E (DC (Y E)) (Y E) (Y36 E) q;rw[<-ADv]
theorem ADx:Y=Y38:=by funext E q;rw[Y.eq_1];show _=CZ E (DC (Y E)) (Y E) (Y37 E) q;rw[<-ADw]
theorem ADy:Y=Y39:=by funext E q;rw[Y.eq_1];show _=CZ E (DC (Y E)) (Y E) (Y38 E) q;rw[<-ADx]
theorem ADz:Y=Y40:=by funext E q;rw[Y.eq_1];show _=CZ E (DC (Y E)) (Y E) (Y39 E) q;rw[<-ADy]
theorem AL(E:Env)(q:Rq):Y E q=Y40 E q:=by rw[<-ADz]
theorem LQ{P:Program}{I:World->Prop}(h:EnvOK P I E){f:FuncId}{args:List AV}{Hin:List Rs}{s:AV}{Hout:List (Option Rs)}(hY:Y E (.call f args Hin)=some (.ret s Hout)):ZY P I f args Hin s Hout:=A9e h (ABS _ _ hY)
end
end
end Go.Ax
namespace Go.Ax
open Go Go.Eng Go.RowKit
variable {α:Type}(E:Env)(a:Int)(X:Fx)(b:Int)(p:List Bool)(i:Nat)
@[irreducible] def N8 {α:Type} (a b:α):Prop:=a=b
theorem N8.rf(a:α):N8 a a:=by unfold N8;rfl
theorem N8.eq{a b:α}(h:N8 a b):a=b:=by simp_all[N8]
theorem bo(b:Bool):b=true\/b=false:=Bool.eq_false_or_eq_true b
theorem Bc:a<b\/b<=a:=zaa
theorem Gw:a<=b\/b<a:=zaa
theorem Ar:a=b\/a≠b:=zaa
theorem CE:a≠b\/a=b:=zaa
theorem JI{l:List α}{p:α->Prop}{i:Int}(hm:∀ x∈l,p x)(h:0<=i/\i<l.length):∃ x,p x/\Ap l i=some x:=⟨l[i.toNat]'zaa,hm _ (List.getElem_mem _),Bv h⟩
theorem YQ(f:Nat)(a:List AV)(H:List Rs):Y E (.call f a H)=Y40 E (.call f a H):=AL _ _
theorem YR(f k n0 m:Nat)(L:LX)(H:HX):Y E (.loop f k n0 m L H)=Y40 E (.loop f k n0 m L H):=AL _ _
theorem YS(fr:List Fr)(m:Nat)(L:LX)(H:HX):Y E (.ops X p i fr m L H)=Y40 E (.ops X p i fr m L H):=AL _ _
theorem YT(tr:List Tr)(fr:List Fr)(m:Nat)(L:LX)(H:HX):Y E (.drw X p i tr fr m L H)=Y40 E (.drw X p i tr fr m L H):=AL _ _
theorem YU(tr:List Tr)(fr:List Fr)(m:Nat)(L:LX)(H:HX):Y E (.drw1 X p i tr fr m L H)=Y40 E (.drw1 X p i tr fr m L H):=AL _ _
theorem Sr{a b:Bool}(h:a=b):Ce a b=true:=by rw[A22,h];simp[beq0]
theorem Su{a b:Bool}(h:a≠b):Ce a b=false:=by simp_all[A22,beq0]
theorem UB{p:Prop}(h:p:=by simp[GY,JR,DW]):p:=h
end Go.Ax
namespace Go.Ax
open Go Go.Eng Go.RowKit
variable {α:Type}
theorem DJ{p:Prop}(h:p:=by first|omega|decide|assumption|(simp only[A7,XV,AU,EK,YO,A8,Am,AO,LL] at *<;>omega)|(simp;omega)):p:=h
theorem AE0{a b:α}(e:N8 a b:=by(try rewrite[YQ]);(try rewrite[YR]);(conv=>arg 1;whnf);(repeat first|(dsimp -iota -beta -eta -zeta only)|((first|rewrite[Dk DJ]|rewrite[LM DJ]|rewrite[H6 DJ]|rewrite[DW]|rewrite[H7]|rewrite[Sr UB]|rewrite[Su UB]|rewrite[YS]|rewrite[YT]|rewrite[YU]|rewrite[Y_go2]|rewrite[Y_go3]|rewrite[Y_go4]|rewrite[decide_eq_true DJ]|rewrite[decide_eq_false DJ]|rewrite[Dl DJ]|rewrite[Fv DJ]|rewrite[Fb DJ]|rewrite[RI DJ]|rewrite[Dz DJ]|rewrite[Aa DJ]|rewrite[Ih DJ]|rewrite[FH DJ]|rewrite[WA DJ]|rewrite[YJ DJ]|rewrite[Sj rfl]|rewrite[drw zaw]|rewrite[Kv rfl]|rewrite[MP]|rewrite[NU DJ]|rewrite[LK DJ]|rewrite[JC DJ]);(conv=>arg 1;whnf))|rewrite[J5]|rewrite[KH]|rewrite[KI]|rewrite[KJ]|rewrite[KL]|rewrite[KN]|rewrite[JS]|rewrite[JU]|rewrite[JV]|rewrite[JW]|rewrite[JX]|rewrite[Hm]|rewrite[Bj DJ]|rewrite[DV DJ]|rewrite[JL DJ]|rewrite[F6 DJ]|rewrite[Ew DJ]|rewrite[U2 DJ]|rewrite[U3 DJ]|rewrite[Qa DJ]|rewrite[AX]|rewrite[Du]);exact N8.rf _):N8 a b:=e
theorem Bl{a b c:α}(h:b=c)(e:N8 a b:=by exact AE0):a=c:=(N8.eq e).trans h
theorem AE1{a b:α}(e:N8 a b:=by(try rewrite[YQ]);(try rewrite[YR]);(conv=>arg 1;whnf);(repeat first|(dsimp -iota -beta -eta -zeta only)|((first|rewrite[Dk DJ]|rewrite[LM DJ]|rewrite[H6 DJ]|rewrite[DW]|rewrite[H7]|rewrite[Sr UB]|rewrite[Su UB]|rewrite[YS]|rewrite[YT]|rewrite[YU]|rewrite[Y_go2]|rewrite[Y_go3]|rewrite[Y_go4]|rewrite[decide_eq_true DJ]|rewrite[decide_eq_false DJ]|rewrite[Dl DJ]|rewrite[Fv DJ]|rewrite[Fb DJ]|rewrite[RI DJ]|rewrite[Dz DJ]|rewrite[Aa DJ]|rewrite[Ih DJ]|rewrite[FH DJ]|rewrite[WA DJ]|rewrite[YJ DJ]|rewrite[Sj rfl]|rewrite[drw zaw]|rewrite[Kv rfl]|rewrite[MP]|rewrite[NU DJ]|rewrite[LK DJ]);(conv=>arg 1;whnf))|rewrite[J5]|rewrite[KH]|rewrite[KI]|rewrite[KJ]|rewrite[KL]|rewrite[KN]|rewrite[JS]|rewrite[JU]|rewrite[JV]|rewrite[JW]|rewrite[JX]|rewrite[Hm]|rewrite[Bj DJ]|rewrite[DV DJ]|rewrite[JL DJ]|rewrite[F6 DJ]|rewrite[Ew DJ]|rewrite[U2 DJ]|rewrite[U3 DJ]|rewrite[Qa DJ]|rewrite[AX]|rewrite[Du]);exact N8.rf _):N8 a b:=e
theorem toA{a b c:α}(h:b=c)(e:N8 a b:=by exact AE1):a=c:=(N8.eq e).trans h
end Go.Ax
namespace Go.Ax
open Go Go.RowKit Go.Eng Go.ChangeShapes Go.WideShapes
def A34(P:Program):Nat->List Field->Bool
 | _,[]=>true
 | o,f::r=>Nat.beq f.offset o&&A34 P (o+P.cellsOf f.type) r
def N9(P:Program):Nat->Ty->List TypeId->Bool
 | 0,_,_=>false
 | n+1,.unit,[]=>true
 | n+1,τ,[t]=>match P.underlying t,τ with
  | some .bool,.bool|some (.int .i64),.i64|some (.int .u8),.u8|some (.int .u32),.u32|some (.int .u64),.u64|some .string,.str=>true
  | some (.slice e),.sl a=>N9 P n a [e]
  | some (.struct fs),τ=>A34 P 0 fs.toList&&Nat.beq (P.cellsOf t) ((fs.toList.map fun f=>P.cellsOf f.type).sum)&&N9 P n τ (fs.toList.map (·.type))
  | some (.array k e),τ=>Nat.beq (P.cellsOf t) (k*P.cellsOf e)&&N9 P n τ (List.replicate k e)
  | _,_=>false
 | n+1,.pair a b,t::u::r=>N9 P n a [t]&&N9 P n b (u::r)
 | _,_,_=>false
def ABT(P:Program)(n:Nat)(t:TypeId)(τ:Ty):Bool:=match P.underlying t,τ with
  | some .bool,.bool|some (.int .i64),.i64|some (.int .u8),.u8|some (.int .u32),.u32|some (.int .u64),.u64|some .string,.str=>true
  | some (.slice e),.sl a=>N9 P n a [e]
  | some (.struct fs),τ=>A34 P 0 fs.toList&&Nat.beq (P.cellsOf t) ((fs.toList.map fun f=>P.cellsOf f.type).sum)&&N9 P n τ (fs.toList.map (·.type))
  | some (.array k e),τ=>Nat.beq (P.cellsOf t) (k*P.cellsOf e)&&N9 P n τ (List.replicate k e)
  | _,_=>false
theorem A35(P:Program)(n:Nat)(t:TypeId)(τ:Ty):N9 P (n+1) τ [t]=ABT P n t τ:=by cases τ<;>rfl
def Wf:(t:Ty)->El t->Prop
 | .i64,x => -9223372036854775808<=x/\x<=9223372036854775807
 | .pair a b,x=>Wf a x.1/\Wf b x.2
 | .sl e,l=>List.length l<=maxLen/\∀ x∈l,Wf e x
 | .str,l=>List.length l<=maxLen
 | _,_=>True
section
variable {H:Type}{enc:TypeId×Value->H}{P:Program}{w:World}
def iE(enc:TypeId×Value->H)(P:Program)(w:World):List TypeId->List Value->Prop
 | [],cs=>cs=[]
 | t::r,cs=>P.cellsOf t<=cs.length/\(∃ n x,DataW.trod enc P w 0 (fun _=>true) true n t (cs.take (P.cellsOf t))=some x)/\iE enc P w r (cs.drop (P.cellsOf t))
theorem YV{cs:List Value}{n:Nat}:∀ {fs:List Field} {o:Nat},A34 P o fs=true->(∀(i:Nat) (f:Field),fs[i]?=some f->∃ x,DataW.trod enc P w 0 (fun _=>true) true n f.type ((cs.drop f.offset).take (P.cellsOf f.type))=some x) ->
  cs.length=o+(fs.map fun f=>P.cellsOf f.type).sum->iE enc P w (fs.map (·.type)) (cs.drop o)
 | [],o,_,_,hl=>by simp_all[iE]
 | f::r,o,ho,hf,hl=>by
  simp only[A34,Bool.and_eq_true] at ho
  have h0:f.offset=o:=zaL
  simp only[List.map_cons,List.sum_cons] at hl
  simp only[List.map_cons,iE]
  refine⟨by simp_all,?_,?_⟩
  ·obtain⟨x,hx⟩:=hf 0 f rfl
   grind
  ·rw[List.drop_drop]
   exact YV ho.2 (fun i g hg=>hf (i+1) g zaU) zaa
theorem yD{cs:List Value}{n:Nat}{e:TypeId}:∀ {k j:Nat},(∀ i,j<=i->i<j+k->∃ x,DataW.trod enc P w 0 (fun _=>true) true n e ((cs.drop (i*P.cellsOf e)).take (P.cellsOf e))=some x) ->
  cs.length=(j+k)*P.cellsOf e->iE enc P w (List.replicate k e) (cs.drop (j*P.cellsOf e))
 | 0,j,_,hl=>by simp_all[iE]
 | k+1,j,h,hl=>by
  simp only[List.replicate_succ,iE]
  have e1:(j+(k+1))*P.cellsOf e=j*P.cellsOf e+P.cellsOf e+k*P.cellsOf e:=zaU
  refine⟨by grind,?_,?_⟩
  ·obtain⟨x,hx⟩:=h j zaa zaa
   grind
  ·rw[List.drop_drop]
   have:=yD (cs:=cs) (n:=n) (e:=e) (k:=k) (j:=j+1) (fun i hi hk=>h i zaa zaa) zaU
   grind
theorem iE.len:∀ {ts:List TypeId} {cs:List Value},iE enc P w ts cs->cs.length=(ts.map fun t=>P.cellsOf t).sum
 | [],cs,h=>by simp_all[iE]
 | t::r,cs,h=>by
  have:=iE.len h.2.2
  rw[List.length_drop] at this
  simp only[List.map_cons,List.sum_cons]
  have h1:=h.1
  omega
theorem WC{α:Type}{p:Nat->α->Prop}:∀(n:Nat),(∀ i,i<n->∃ a,p i a)->∃ l:List α,l.length=n/\∀(i:Nat) (a:α),l[i]?=some a->p i a
 | 0,_=>⟨[],rfl,fun i a h=>by simp at h⟩
 | n+1,h=>by
  obtain⟨l,h1,h2⟩:=WC n fun i hi=>h i zaa
  obtain⟨a,ha⟩:=h n zaa
  refine⟨l++[a],by simp[h1],fun i b hb=>?_⟩
  grind
theorem yE{α β:Type}{R:α->β->Prop}:∀ {l:List α} {m:List β},l.length=m.length->(∀(i:Nat) (a:α) (b:β),l[i]?=some a->m[i]?=some b->R a b)->Ec R l m
 | [],[],_,_=>trivial
 | a::l,b::m,h,hR=>⟨hR 0 a b rfl rfl,yE za8 fun i x y hx hy=>hR (i+1) x y zaU zaU⟩
 | [],_::_,h,_|_::_,[],h,_=>zbq
theorem flat_get{n:Nat}{d:List Value}:∀ {l:List (List Value)} (hl:∀ x∈l,x.length=n) {j:Nat} {u:Value},l.flatten[j]?=some u->∃ i k c,l[i]?=some c/\c[k]?=some u/\j=i*n+k/\k<n
 | [],_,j,u,h=>zbq
 | x::l,hl,j,u,h=>by
  have hx:=hl x zat
  rw[List.flatten_cons] at h
  rcases Nat.lt_or_ge j x.length with hj|hj
  ·rw[List.getElem?_append_left hj] at h
   exact⟨0,j,x,rfl,h,by omega,by omega⟩
  ·rw[List.getElem?_append_right hj] at h
   obtain⟨i,k,c,h1,h2,h3,h4⟩:=flat_get (d:=d) (fun y hy=>hl y (by simp[hy])) h
   exact⟨i+1,k,c,by grind,h2,by grind,h4⟩
theorem flat_length{n:Nat}:∀ {l:List (List Value)} (hl:∀ x∈l,x.length=n),l.flatten.length=l.length*n
 | [],_=>zat
 | x::l,hl=>by
  rw[List.flatten_cons,List.length_append,flat_length (fun y hy=>hl y (by simp[hy])),hl x zat,List.length_cons,Nat.add_mul];omega
theorem opens:∀(n:Nat) {τ:Ty} {ts:List TypeId} {cs:List Value},N9 P n τ ts=true->iE enc P w ts cs->∃ x:El τ,CR τ x cs w/\Wf τ x:=by
 intro n
 induction n with
 | zero=>intro τ ts cs h;cases h
 | succ n ih =>
  intro τ ts cs h hp
  match ts,h,hp with
  | [],h,hp =>
   cases τ with
   | unit=>exact⟨(),by simpa only[CR,iE] using hp,trivial⟩
   | _=>simp[N9] at h
  | t::u::r,h,hp =>
   cases τ with
   | pair a b =>
    simp only[N9,Bool.and_eq_true] at h
    obtain⟨h1,h2,h3⟩:=hp
    obtain⟨m,x,hx⟩:=h2
    have hp1:iE enc P w [t] (cs.take (P.cellsOf t)):=by
     have hl:(cs.take (P.cellsOf t)).length=P.cellsOf t:=zaD
     refine⟨by omega,⟨m,x,by rw[List.take_of_length_le zaa];exact hx⟩,?_⟩
     simp only[iE];exact List.drop_eq_nil_of_le zaa
    obtain⟨y,hy,hy'⟩:=ih h.1 hp1
    obtain⟨z,hz,hz'⟩:=ih h.2 h3
    refine⟨(y,z),?_,hy',hz'⟩
    simp only[CR]
    exact⟨_,_,(List.take_append_drop _ _).symm,hy,hz⟩
   | _=>simp[N9] at h
  | [t],h,hp =>
   obtain⟨h1,⟨m,x,hx⟩,h3⟩:=hp
   simp only[iE] at h3
   have hcs:cs.length=P.cellsOf t:=by
    have:=congrArg List.length h3
    simp at this;omega
   rw[List.take_of_length_le zaa] at hx
   rw[A35] at h
   unfold ABT at h
   split at h
   ·rename_i hu _;obtain⟨b,rfl,_⟩:=DataW.trod_bool hu hx;exact⟨b,by simp only[CR],trivial⟩
   ·rename_i hu _;obtain⟨b,rfl,_,hw⟩:=DataW.trod_int hu hx;exact⟨b,by simp only[CR],bounds_i64 hw⟩
   ·rename_i hu _
    obtain⟨b,rfl,_,hw⟩:=DataW.trod_int hu hx
    have:=bounds_u8 hw
    refine⟨UInt8.ofNat b.toNat,?_,trivial⟩
    simp only[CR,byteV,UInt8.toNat_ofNat',List.cons.injEq,Value.int.injEq,true_and,and_true]
    omega
   ·rename_i hu _
    obtain⟨b,rfl,_,hw⟩:=DataW.trod_int hu hx
    have hb:=bounds_u32 hw
    refine⟨UInt32.ofNat b.toNat,?_,trivial⟩
    simp only[CR,wordV,UInt32.toNat_ofNat',List.cons.injEq,Value.int.injEq,true_and,and_true]
    omega
   ·rename_i hu _
    obtain⟨b,rfl,_,hw⟩:=DataW.trod_int hu hx
    have hb:=bounds_u64 hw
    refine⟨UInt64.ofNat b.toNat,?_,trivial⟩
    simp only[CR,IL,UInt64.toNat_ofNat',List.cons.injEq,Value.int.injEq,true_and,and_true]
    omega
   ·rename_i hu _
    obtain⟨b,rfl,_,hw⟩:=DataW.trod_string hu hx
    exact⟨b.data.toList,by simp only[CR],hw⟩
   ·rename_i e a hu _
    rcases DataW.trod_slice hu hx with⟨rfl,_⟩|⟨ad,len,cap,elems,rest,n',_,rfl,_,_,hl,hmx,hlen,hel,_⟩
    ·exact⟨[],by simp only[CR];exact⟨_,[],rfl,trivial,Sl.nil _ _⟩,by show List.length _<=maxLen/\_;exact⟨by simp,fun x hx=>by cases hx⟩⟩
    ·have each:∀ i,i<len->∃ q:El a×List Value,(CR a q.1 q.2 w/\Wf a q.1)/\q.2.length=P.cellsOf e/\∀ k,k<P.cellsOf e->w.cell? (ad.add (i*P.cellsOf e+k))=q.2[k]?:=by
      intro i hi
      have h1:=hel i hi
      rw[List.getElem?_eq_getElem zaa,Option.bind_eq_some_iff] at h1
      obtain⟨ci,h2,h3⟩:=h1
      obtain⟨_,h4,h5⟩:=World.cells?_some h2
      have hp1:iE enc P w [e] ci:=by
       refine⟨by omega,⟨n',_,by rw[List.take_of_length_le zaa];exact h3⟩,?_⟩
       simp only[iE];exact List.drop_eq_nil_of_le zaa
      obtain⟨y,hy,hy'⟩:=ih h hp1
      exact⟨(y,ci),⟨hy,hy'⟩,h4,fun k hk=>by have:=h5 k hk;rw[add_add] at this;exact this⟩
     obtain⟨l,hll,hl2⟩:=WC len each
     have hsz:∀ x∈l.map (·.2),x.length=a.n:=by
      intro x hx
      obtain⟨q,hq,rfl⟩:=List.mem_map.1 hx
      obtain⟨i,hi⟩:=List.getElem?_of_mem hq
      exact(hl2 i q hi).1.1.len
     refine⟨l.map (·.1),?_,by
      show List.length _<=maxLen/\_
      refine⟨by rw[List.length_map,hll];omega,fun x hx=>?_⟩
      obtain⟨q,hq,rfl⟩:=List.mem_map.1 hx
      obtain⟨i,hi⟩:=List.getElem?_of_mem hq
      exact(hl2 i q hi).1.2⟩
     simp only[CR]
     refine⟨_,l.map (·.2),rfl,yE zat fun i x c hx hc=>?_,?_⟩
     ·rw[List.getElem?_map,Option.map_eq_some_iff] at hx hc
      obtain⟨q,hq,rfl⟩:=hx
      obtain⟨q',hq',rfl⟩:=hc
      rw[hq] at hq';obtain rfl:=Option.some.inj hq'
      exact(hl2 i q hq).1.1
     ·refine⟨some ad,cap,by simp[hll],by rw[flat_length hsz];simp,by simp[hll];exact hl,hmx,(fun h=>by cases h),fun q hq j u hu=>?_⟩
      obtain rfl:=Option.some.inj hq
      obtain⟨i,k,c,h1,h2,h3,h4⟩:=flat_get (d:=[]) hsz hu
      rw[List.getElem?_map,Option.map_eq_some_iff] at h1
      obtain⟨q,hq,rfl⟩:=h1
      obtain⟨g1,g2,g3⟩:=hl2 i q hq
      have hn:a.n=P.cellsOf e:=by rw[<-g1.1.len,g2]
      rw[h3,hn,g3 k zaa];exact h2
   ·rename_i fs hu _
    simp only[Bool.and_eq_true] at h
    obtain⟨xs,n',_,_,hl,hxl,hf⟩:=DataW.trod_struct hu hx
    refine ih h.2 ?_
    have:=YV (enc:=enc) (w:=w) (cs:=cs) (n:=n') h.1.1 (fun i f hif=>?_) (by rw[hl];have:=h.1.2;simp only[Nat.zero_add];simpa using this)
    ·simpa using this
    ·have hif':fs[i]?=some f:=by simpa using hif
     have hlt:i<xs.length:=by rw[hxl];exact(Array.getElem?_eq_some_iff.1 hif').1
     exact⟨xs[i],by rw[hf i f hif',List.getElem?_eq_getElem hlt]⟩
   ·rename_i k e hu _
    simp only[Bool.and_eq_true] at h
    obtain⟨xs,n',_,_,hl,hxl,hf⟩:=DataW.trod_array hu hx
    refine ih h.2 ?_
    have:=yD (enc:=enc) (P:=P) (w:=w) (cs:=cs) (n:=n') (e:=e) (k:=k) (j:=0) (fun i _ hi=>⟨xs[i]'zaa,by rw[hf i zaa,List.getElem?_eq_getElem zaa]⟩) (by rw[hl];have:=h.1;simp only[Nat.zero_add];simpa using this)
    simpa using this
   ·cases h
theorem Ik{t:TypeId}{v:Value}{d:DataW H}{ps:List MemPlace}{τ:Ty}(n:Nat)(ht:N9 P n τ [t]=true)(h:DataW.Trod enc P w 0 (fun _=>true) true t v d ps)(hl:v.cells.toList.length=P.cellsOf t):∃ x:El τ,CR τ x v.cells.toList w/\Wf τ x:=by
 obtain⟨m,hm⟩:=h
 refine opens n ht ⟨by omega,⟨m,_,by rw[List.take_of_length_le zaa];exact hm⟩,?_⟩
 simp_all[iE]
end
theorem CR.ext:∀ {t:Ty} {x:El t} {us:List Value} {w w':World},Ext w w'->CR t x us w->CR t x us w'
 | .bool,x,us,w,w',he,h|.i64,x,us,w,w',he,h|.u8,x,us,w,w',he,h|.u32,x,us,w,w',he,h|.u64,x,us,w,w',he,h|.str,x,us,w,w',he,h|.unit,x,us,w,w',he,h=>by simp_all[CR]
 | .pair a b,x,us,w,w',he,h=>by
  simp only[CR] at h ⊢
  obtain⟨u1,u2,h0,h1,h2⟩:=h
  exact⟨u1,u2,h0,h1.ext he,h2.ext he⟩
 | .sl e,l,us,w,w',he,h=>by
  simp only[CR] at h ⊢
  obtain⟨v,cs,h0,h1,h2⟩:=h
  exact⟨v,cs,h0,Ec.mono (fun x c hx=>hx.ext he) h1,h2.ext he⟩
end Go.Ax
namespace Go.Ax
open Go Go.Eng Go.RowKit
variable {ws:List UInt32}{n i:Nat}{x:UInt32}(a b:UInt32)
theorem VO{a:UInt32}{c:Nat}(h:c<32):Ae a c=a<<<UInt32.ofNat c:=by
 rw[kM];unfold u32shl0
 apply UInt32.toNat_inj.1
 rw[Nat.min_eq_left zaa,UInt32.toNat_shiftLeft,Nat.shiftLeft_eq,UInt32.toNat_ofNat']
 have h2:c%2^32%32=c:=zaa
 grind[UInt32.ofInt,UInt32.toNat_ofNat']
theorem A36(a:UInt8):BM a=a.toUInt32:=by rw[xJ];rfl
theorem YW:Au .or a b=a|||b:=by rw[TY];rfl
theorem Jd:Au .xor a b=a^^^b:=by rw[TY];rfl
theorem MC:Au .and a b=a&&&b:=by rw[TY];rfl
theorem KU:Au .add a b=a+b:=by rw[TY];rfl
theorem A9k(x:UInt32){m:UInt64}(s:Nat)(h0:0<s/\s<32)(hk:m.toNat=s):Au .or (Ae x m.toNat) (AY x (BI .sub (UInt64.ofNat 32) m).toNat)=zi x s:=by
 have h32:(BI .sub (UInt64.ofNat 32) m).toNat=32-s:=by
  rw[EU]
  show(TG .sub (UInt64.ofNat 32) m).toNat=32-s
  grind[TG,UInt64.toNat_sub_of_le,UInt64.le_iff_toNat_le]
 rw[h32,hk,VO h0.2,I9 zaa,YW];rfl
theorem A9l(x:UInt32){m:UInt64}(s:Nat)(h0:0<s/\s<32)(hk:m.toNat=s):Au .or (AY x m.toNat) (Ae x (BI .sub (UInt64.ofNat 32) m).toNat)=Oq x s:=by
 have h32:(BI .sub (UInt64.ofNat 32) m).toNat=32-s:=by
  rw[EU]
  show(TG .sub (UInt64.ofNat 32) m).toNat=32-s
  grind[TG,UInt64.toNat_sub_of_le,UInt64.le_iff_toNat_le]
 rw[h32,hk,VO zaa,I9 h0.2,YW];rfl
theorem yF(l:List UInt8)(k:Nat){a b c d:UInt8}(ha:l[k]?=some a)(hb:l[k+1]?=some b)(hc:l[k+2]?=some c)(hd:l[k+3]?=some d):
  Au .or (Au .or (Au .or (Ae (BM a) (UInt64.ofNat 24).toNat) (Ae (BM b) (UInt64.ofNat 16).toNat)) (Ae (BM c) (UInt64.ofNat 8).toNat)) (BM d)=be32 l k:=by
 simp_all[YW,A36,VO,be32]
def G8(ws:List UInt32):List AV:=ws.map AV.u32
theorem ET(h:i<ws.length):List.drop i (G8 ws)=.u32 (ws.getD i 0)::List.drop (i+1) (G8 ws):=by
 simp_all[List.drop_eq_getElem_cons,G8]
theorem ABU{a b:Nat}(h:a<=b):Nat.ble a b=true:=zaL
theorem E5(h:ws.length=n):G8 ws=(List.range n).map fun i=>AV.u32 (ws.getD i 0):=by
 subst h;apply List.ext_getElem (by simp[G8]);simp_all[G8]
theorem A37{t:Nat}(h:ws.length=n)(ht:n<=t):G8 ws=(List.range n).map fun i=>AV.u32 (ws.getD i 0):=E5 h
theorem A38(ws:List UInt32):(G8 ws).length=ws.length:=by simp[G8]
theorem MF{x:AV}(h:i<ws.length):Nat.ble (i+[x].length) (G8 ws).length=true:=by rw[A38];exact ABU h
theorem A39(h:i<ws.length):(G8 ws).take i++[AV.u32 x]++(G8 ws).drop (i+1)=G8 (ws.set i x):=by
 simp[G8,List.set_eq_take_append_cons_drop,h]
theorem O3{R:Type}{K:List AV->Option R}(h:i<ws.length):Ie ((G8 ws).take i++[AV.u32 x]++(G8 ws).drop (i+[AV.u32 x].length)) K=K (G8 (ws.set i x)):=by
 rw[H5];exact congrArg K (A39 h)
theorem LU(h:ws.length=n):G8 (ws.set i x)=(List.range n).map fun j=>AV.u32 ((ws.set i x).getD j 0):=E5 za8
end Go.Ax
