/-
  Own texts, laid together for this claim: the rules that every walk uses, which claim nothing of any program.
-/
import Derived.OpenShut
import Derived.ChangeSlices
import Derived.Test.YtanagnimhaemgaaGreatDoorKgc
set_option linter.all false
namespace Go.Ax
noncomputable section
open Go Go.RowKit Go.Eng
set_option linter.unusedVariables false
set_option linter.unusedSimpArgs false
def JC:Code->List Bool->Code
 | c,[]=>c
 | .seq a b,x::p|.cond _ a b,x::p=>(match x with|true=>JC b p|false=>JC a p)
 | .block _ c,_::p|.loop c,_::p=>JC c p
 | _,_::_=>.skip
theorem Oo:∀(c:Code) (p q:List Bool),JC c (p++q)=JC (JC c p) q:=by
 intro c
 induction c with
 | seq a b iha ihb|cond x a b iha ihb=>intro p q;cases p with|nil=>rfl|cons x p=>cases x<;>simp only[List.cons_append,JC]<;>first|exact iha p q|exact ihb p q
 | block id c ih|loop c ih=>intro p q;cases p with|nil=>rfl|cons x p=>simp_all[JC]
 | _=>intro p q;cases p with|nil=>rfl|cons x p=>(simp only[List.cons_append,JC];cases q<;>simp only[JC])
def Jr(C:CT)(f:Nat):Code:=match wF f C with
 | some fn=>(match fn.body with|some c=>c|none=>.skip)
 | none=>.skip
def Js(G:FT)(f:Nat):List (Plc×Plc):=match Us f G with|some fi=>fi.keep|none=>[]
def opsOf:Code->List Oper
 | .region _ ops _=>ops.toList
 | _=>[]
def Mc{R:Type}:List Bool->(List Bool->R)->R
 | [],K=>K []
 | true::r,K=>Mc r fun r=>K (true::r)
 | false::r,K=>Mc r fun r=>K (false::r)
theorem Gf{R:Type}:∀(l:List Bool) (K:List Bool->R),Mc l K=K l
 | [],K=>rfl
 | true::r,K|false::r,K=>by simp only[Mc,Gf r]
def QB:Code->Nat->Option (List Bool)
 | .seq a b,k|.cond _ a b,k=>bif Nat.blt k (D9 a) then(QB a k).map (false :: ·) else(QB b (k-D9 a)).map (true :: ·)
 | .block _ c,k=>(QB c k).map (false :: ·)
 | .loop c,k=>bif Nat.beq k 0 then some [false] else(QB c (k-1)).map (false :: ·)
 | _,_=>none
theorem yx:∀ {c:Code} {k:Nat} {p:List Bool},QB c k=some p->Eg c k=some (JC c p):=by
 intro c
 induction c with
 | seq a b iha ihb =>
  intro k p h
  simp only[QB] at h
  simp only[Eg]
  cases hb:Nat.blt k (D9 a) with
  | true=>rw[hb] at h;obtain⟨q,h1,rfl⟩:=Option.map_eq_some_iff.1 h;exact iha h1
  | false=>rw[hb] at h;obtain⟨q,h1,rfl⟩:=Option.map_eq_some_iff.1 h;exact ihb h1
 | cond x a b iha ihb =>
  intro k p h
  simp only[QB] at h
  simp only[Eg]
  cases hb:Nat.blt k (D9 a) with
  | true=>rw[hb] at h;obtain⟨q,h1,rfl⟩:=Option.map_eq_some_iff.1 h;exact iha h1
  | false=>rw[hb] at h;obtain⟨q,h1,rfl⟩:=Option.map_eq_some_iff.1 h;exact ihb h1
 | block id c ih =>
  intro k p h
  simp only[QB] at h
  obtain⟨q,h1,rfl⟩:=Option.map_eq_some_iff.1 h
  exact ih h1
 | loop c ih =>
  intro k p h
  simp only[QB] at h
  simp only[Eg]
  cases hb:Nat.beq k 0 with
  | true=>rw[hb] at h;obtain rfl:=Option.some.inj h;simp_all[JC]
  | false=>rw[hb] at h;obtain⟨q,h1,rfl⟩:=Option.map_eq_some_iff.1 h;exact ih h1
 | _=>intro k p h;cases h
inductive Fr where
 | seq (p:List Bool) (k:Nat)
 | blk (id:Nat)
 | ret
 | lup (k:Nat)
structure Fx where
 n:Nat
 f:Nat
 n0:Nat
inductive Rq where
 | call (f:Nat) (args:List AV) (H:List Rs)
 | loop (f k n0 m:Nat) (L:LX) (H:HX)
 | code (X:Fx) (p:List Bool) (k:Nat) (fr:List Fr) (m:Nat) (L:LX) (H:HX)
 | nxt (X:Fx) (e:Exit) (fr:List Fr) (m:Nat) (L:LX) (H:HX)
 | ops (X:Fx) (p:List Bool) (i:Nat) (fr:List Fr) (m:Nat) (L:LX) (H:HX)
 | one (X:Fx) (p:List Bool) (i:Nat) (fr:List Fr) (m:Nat) (L:LX) (H:HX)
 | drw (X:Fx) (p:List Bool) (i:Nat) (tr:List Tr) (fr:List Fr) (m:Nat) (L:LX) (H:HX)
 | drw1 (X:Fx) (p:List Bool) (i:Nat) (tr:List Tr) (fr:List Fr) (m:Nat) (L:LX) (H:HX)
abbrev Oyr:=Rq->Option Rsp
def Bd(Q:Oyr):Orc:=fun q=>match q with
 | .call f a H=>Q (.call f a H)
 | .loop f k n0 m L H=>Q (.loop f k n0 m L H)
theorem Aj(Q:Oyr)(f:Nat)(a:List AV)(H:List Rs):Bd Q (.call f a H)=Q (.call f a H):=rfl
theorem Eo(Q:Oyr)(f k n0 m:Nat)(L:LX)(H:HX):Bd Q (.loop f k n0 m L H)=Q (.loop f k n0 m L H):=rfl
def Ua{R:Type}(d:Option Nat)(s:AV)(L:LX)(K:LX->R):R:=match d with
 | some d=>K ((d,s)::L)
 | none=>K L
theorem WO{R:Type}(d:Option Nat)(s:AV)(L:LX)(K:LX->R):Ua d s L K=K (Ut d s L):=by cases d<;>rfl
theorem A2O{R:Type}(d:Option Nat)(s:AV)(L:LX)(K:LX->R):Ua d s L K=K (match d with|some d=>(d,s)::L|none=>L):=by cases d<;>rfl
def quiet:Op->Bool
 | .move _|.assign _|.nilCheck _|.extract _ _|.unOp _ _ _=>true
 | .binOp op _ _ _ _=>(match op with|.quo=>false|.rem=>false|.shl=>false|.shr=>false|_=>true)
 | .convert _ _ _|.alloc _|.box _ _|.load _ _|.store _ _ _|.fieldAddr _ _ _|.field _ _ _|.build _ _|.makeFunc _ _ _=>true
 | .call {callee:=.builtin b,..}=>(match b with|.len=>true|.min=>true|.max=>true|_=>false)
 | _=>false
def A4d(E:Env)(X:Fx)(m:Nat)(L:LX)(H:HX):Option Rsp:=match wF X.f E.C,Us X.f E.G with
 | some fn,some fi=>A4U E.T fi X.n0 fn.results.toList m L H
 | _,_=>none
def Rn(E:Env)(Qc:Orc)(Q:Oyr)(X:Fx):List Fr->Exit->Nat->LX->HX->Option Rsp
 | [],_,_,_,_=>none
 | .seq p k::fr,e,m,L,H=>(match e with
  | .normal=>Q (.code X p k fr m L H)
  | e=>Rn E Qc Q X fr e m L H)
 | .blk id::fr,e,m,L,H=>(match e with
  | .exit id'=>bif Nat.beq id' id then Rn E Qc Q X fr .normal m L H else Rn E Qc Q X fr (.exit id') m L H
  | e=>Rn E Qc Q X fr e m L H)
 | .ret::_,e,m,L,H=>(match e with
  | .normal|.ret=>A4d E X m L H
  | _=>none)
 | .lup k::_,e,m,L,H=>(match(Js E.G X.f)[k]? with
  | some kp=>(match e with
   | .normal=>MX kp.1 X.n0 m L H fun m L H=>Qc (.loop X.f k X.n0 m L H)
   | e=>MX kp.2 X.n0 m L H fun m L H=>some (.fin e m L H))
  | none=>none)
def Uw(E:Env)(Qc:Orc)(Q:Oyr)(X:Fx)(p:List Bool)(fr:List Fr):List Oper->Nat->Nat->LX->HX->Option Rsp
 | [],i,m,L,H=>Rn E Qc Q X fr .normal m L H
 | o::r,i,m,L,H=>match o.guard with
  | none=>bif VY X.n o.dst then addN 1 i fun i=>(bif quiet o.op
    then Hy (E.tt X.f) E.G Qc (F8 L) (fun k=>hlk k H) m o.op fun t=>IW o.dst t m L H fun m L H=>Uw E Qc Q X p fr r i m L H
    else Hy (E.tt X.f) E.G Qc (F8 L) (fun k=>hlk k H) m o.op fun t=>IW o.dst t m L H fun m L H=>Q (.ops X p i fr m L H)) else none
  | some (j,want)=>(match((opsOf (JC (Jr E.C X.f) p))[j]?).bind (·.dst) with
   | some d'=>(match Iq d' L with
    | some (.b c)=>bif VY X.n o.dst&&Nat.blt d' X.n then
      (addN 1 i fun i1=>bif c then
       bif want then Q (.one X p i fr m ((d',.b true)::L) H)
       else Ua o.dst (.tup []) ((d',.b true)::L) fun L=>Q (.ops X p i1 fr m L H)
      else
       bif want then Ua o.dst (.tup []) ((d',.b false)::L) fun L=>Q (.ops X p i1 fr m L H)
       else Q (.one X p i fr m ((d',.b false)::L) H))
     else none
    | some (.tup [])=>bif VY X.n o.dst&&Nat.blt d' X.n then addN 1 i fun i=>Ua o.dst (.tup []) L fun L=>Uw E Qc Q X p fr r i m L H else none
    | _=>none)
   | none=>none)
def U1(E:Env)(Qc:Orc)(Q:Oyr)(X:Fx)(p:List Bool)(fr:List Fr):List Oper->Nat->List Tr->Nat->LX->HX->Option Rsp
 | [],i,tr,m,L,H=>bif AA X.n (opsOf (JC (Jr E.C X.f) p)).toArray tr then Q (.nxt X .normal fr m L H) else none
 | o::r,i,tr,m,L,H=>match o.guard with
  | none=>Ic (o.looksAt (opsOf (JC (Jr E.C X.f) p)).toArray) fun lk=>J9 (bF lk L) fun L'=>addN 1 i fun i=>(bif quiet o.op
    then Hy (E.tt X.f) E.G Qc (F8 L') (fun k=>hlk k H) m o.op fun t=>IW o.dst t m L H fun m L H=>U1 E Qc Q X p fr r i (tr++[t]) m L H
    else Hy (E.tt X.f) E.G Qc (F8 L') (fun k=>hlk k H) m o.op fun t=>IW o.dst t m L H fun m L H=>Q (.drw X p i (tr++[t]) fr m L H))
  | some (j,want)=>(match((opsOf (JC (Jr E.C X.f) p))[j]?).bind (·.dst) with
   | some d'=>(match Iq d' L with
    | some (.b c)=>addN 1 i fun i1=>bif c then
      bif want then Q (.drw1 X p i tr fr m L H)
      else Ua o.dst (.tup []) L fun L=>Q (.drw X p i1 (tr++[⟨.tup [],[],[],true,0⟩]) fr m L H)
     else
      bif want then Ua o.dst (.tup []) L fun L=>Q (.drw X p i1 (tr++[⟨.tup [],[],[],true,0⟩]) fr m L H)
      else Q (.drw1 X p i tr fr m L H)
    | some (.tup [])=>addN 1 i fun i=>Ua o.dst (.tup []) L fun L=>U1 E Qc Q X p fr r i (tr++[⟨.tup [],[],[],true,0⟩]) m L H
    | _=>none)
   | none=>none)
def I5(E:Env)(Qc:Orc)(Qs Q:Oyr)(X:Fx):Code->List Bool->Nat->List Fr->Nat->LX->HX->Option Rsp
 | .skip,p,k,fr,m,L,H|.label _,p,k,fr,m,L,H=>Rn E Qc Q X fr .normal m L H
 | .seq a b,p,k,fr,m,L,H=>addN k (D9 a) fun k2=>Mc (p++[true]) fun p2=>I5 E Qc Qs Q X a (p++[false]) k (.seq p2 k2::fr) m L H
 | .cond c a b,p,k,fr,m,L,H=>addN 0 k fun k=>addN k (D9 a) fun k2=>Mc (p++[false]) fun p1=>Mc (p++[true]) fun p2=>(match F8 L c with
  | some (.b t)=>bif t then Q (.code X p1 k fr m L H) else Q (.code X p2 k2 fr m L H)
  | _=>none)
 | .block id c,p,k,fr,m,L,H=>I5 E Qc Qs Q X c (p++[false]) k (.blk id::fr) m L H
 | .exit id,p,k,fr,m,L,H=>Rn E Qc Q X fr (.exit id) m L H
 | .ret,p,k,fr,m,L,H=>Rn E Qc Q X fr .ret m L H
 | .region id ops false,p,k,fr,m,L,H=>Mc p fun p=>MX (UX E.G X.f id) X.n0 m L H fun m L H=>bif (UX E.G X.f id).meet then Qs (.ops X p 0 fr m L H) else Uw E Qc Q X p fr ops.toList 0 m L H
 | .region id ops true,p,k,fr,m,L,H=>Mc p fun p=>MX (UX E.G X.f id) X.n0 m L H fun m L H=>bif (UX E.G X.f id).meet then Qs (.drw X p 0 [] fr m L H) else U1 E Qc Q X p fr ops.toList 0 [] m L H
 | .loop c,p,k,fr,m,L,H=>addN 0 k fun k=>(match(Js E.G X.f)[k]? with
  | some kp=>MX kp.1 X.n0 m L H fun m L H=>(Qc (.loop X.f k X.n0 m L H)).bind fun r=>match r with
   | .fin e m L H=>Q (.nxt X e fr m L H)
   | _=>none
  | none=>none)
 | _,_,_,_,_,_,_=>none
def BU(E:Env)(Qc:Orc)(Qs Q:Oyr)(q:Rq):Option Rsp:=match q with
 | .call f args H=>(match E.ov (.call f args H) with
  | some r=>some r
  | none=>(match wF f E.C,Us f E.G with
   | some fn,some _=>(match fn.body with
    | some _=>bif Nat.ble args.length fn.ntmps then addN 0 fn.ntmps fun n=>addN 0 H.length fun n0=>Q (.code ⟨n,f,n0⟩ [] 0 [.ret] n0 (argX 0 args) (hOf 0 H)) else none
    | none=>none)
   | _,_=>none))
 | .loop f k n0 m L H=>(match E.ov (.loop f k n0 m L H) with
  | some r=>some r
  | none=>addN 0 n0 fun n0=>(match wF f E.C,Us f E.G with
   | some fn,some fi=>(match fn.body,fi.keep[k]? with
    | some c,some _=>(match QB c k with
     | some p=>addN 0 fn.ntmps fun n=>Mc p fun p=>Q (.code ⟨n,f,n0⟩ p (k+1) [.lup k] m L H)
     | none=>none)
    | _,_=>none)
   | _,_=>none))
 | .code X p k fr m L H=>I5 E Qc Qs Q X (JC (Jr E.C X.f) p) p k fr m L H
 | .nxt X e fr m L H=>Rn E Qc Q X fr e m L H
 | .ops X p i fr m L H=>Uw E Qc Q X p fr ((opsOf (JC (Jr E.C X.f) p)).drop i) i m L H
 | .one X p i fr m L H=>(match(opsOf (JC (Jr E.C X.f) p))[i]? with
  | some o=>addN 1 i fun i=>Hy (E.tt X.f) E.G Qc (F8 L) (fun k=>hlk k H) m o.op fun t=>IW o.dst t m L H fun m L H=>Q (.ops X p i fr m L H)
  | none=>none)
 | .drw X p i tr fr m L H=>U1 E Qc Q X p fr ((opsOf (JC (Jr E.C X.f) p)).drop i) i tr m L H
 | .drw1 X p i tr fr m L H=>(match(opsOf (JC (Jr E.C X.f) p))[i]? with
  | some o=>Ic (o.looksAt (opsOf (JC (Jr E.C X.f) p)).toArray) fun lk=>J9 (bF lk L) fun L'=>addN 1 i fun i=>Hy (E.tt X.f) E.G Qc (F8 L') (fun k=>hlk k H) m o.op fun t=>IW o.dst t m L H fun m L H=>Q (.drw X p i (tr++[t]) fr m L H)
  | none=>none)
def Oq(Q Q':Oyr):Prop:=∀ q r,Q q=some r->Q' q=some r
section
variable {E:Env}{Qc Qc':Orc}{Q Q' Qs Qs':Oyr}{X:Fx}{r:Rsp}
theorem kV(h:Oq Q Q'):Xo (Bd Q) (Bd Q'):=by
 intro q r
 cases q with
 | call f a H|loop f k n0 m L H=>exact h _ _
theorem Jt(hc:Xo Qc Qc')(h:Oq Q Q'):∀(fr:List Fr) {e:Exit} {m:Nat} {L:LX} {H:HX},Rn E Qc Q X fr e m L H=some r->Rn E Qc' Q' X fr e m L H=some r
 | [],e,m,L,H=>id
 | .seq p k::fr,e,m,L,H=>by
  cases e<;>first|exact h (.code X p k fr m L H) r|exact Jt hc h fr
 | .blk id::fr,e,m,L,H=>by
  cases e<;>first|exact Ae (Jt hc h fr) (Jt hc h fr)|exact Jt hc h fr
 | .ret::fr,e,m,L,H=>by cases e<;>exact id
 | .lup k::fr,e,m,L,H=>by
  simp only[Rn]
  generalize (Js E.G X.f)[k]?=z
  cases z with
  | none=>exact id
  | some kp=>cases e<;>first|exact Fj fun m L H=>hc (.loop X.f k X.n0 m L H) r|exact id
theorem Pe(hc:Xo Qc Qc')(h:Oq Q Q'){p:List Bool}{fr:List Fr}:∀(l:List Oper) {i m:Nat} {L:LX} {H:HX},Uw E Qc Q X p fr l i m L H=some r->Uw E Qc' Q' X p fr l i m L H=some r
 | [],i,m,L,H=>by grind[Uw,Jt]
 | o::l,i,m,L,H=>by
  rw[Uw,Uw]
  simp only[DI,WO]
  split
  ·exact Ae (Ae (Df hc fun t=>Dh fun m L H=>Pe hc h l) (Df hc fun t=>Dh fun m L H=>h _ _)) id
  ·split
   ·split
    ·exact Ae (Ae (Ae (h _ _) (h _ _)) (Ae (h _ _) (h _ _))) id
    ·exact Ae (Pe hc h l) id
    ·exact id
   ·exact id
theorem Pg(hc:Xo Qc Qc')(h:Oq Q Q'){p:List Bool}{fr:List Fr}:∀(l:List Oper) {i:Nat} {tr:List Tr} {m:Nat} {L:LX} {H:HX},U1 E Qc Q X p fr l i tr m L H=some r->U1 E Qc' Q' X p fr l i tr m L H=some r
 | [],i,tr,m,L,H=>by rw[U1,U1];exact Ae (h _ _) id
 | o::l,i,tr,m,L,H=>by
  rw[U1,U1]
  simp only[DI,Dw,EC,WO]
  split
  ·exact Ae (Df hc fun t=>Dh fun m L H=>Pg hc h l) (Df hc fun t=>Dh fun m L H=>h _ _)
  ·split
   ·split
    ·exact Ae (Ae (h _ _) (h _ _)) (Ae (h _ _) (h _ _))
    ·exact Pg hc h l
    ·exact id
   ·exact id
theorem kW(hc:Xo Qc Qc')(hs:Oq Qs Qs')(h:Oq Q Q'):∀(c:Code) {p:List Bool} {k:Nat} {fr:List Fr} {m:Nat} {L:LX} {H:HX},I5 E Qc Qs Q X c p k fr m L H=some r->I5 E Qc' Qs' Q' X c p k fr m L H=some r:=by
 intro c
 induction c with
 | skip|label l|exit id|ret=>intro p k fr m L H;exact Jt hc h fr
 | seq a b iha ihb=>simp_all[I5,DI,Gf]
 | block id c ih=>simp_all[I5]
 | cond x a b iha ihb =>
  intro p k fr m L H
  rw[I5,I5]
  simp only[DI,Gf]
  split
  ·exact Ae (h _ _) (h _ _)
  ·exact id
 | region id ops b =>
  intro p k fr m L H
  cases b with
  | false=>rw[I5,I5];simp only[Gf];exact Fj fun m L H=>Ae (hs _ _) (Pe hc h _)
  | true=>rw[I5,I5];simp only[Gf];exact Fj fun m L H=>Ae (hs _ _) (Pg hc h _)
 | loop c ih =>
  intro p k fr m L H
  rw[I5,I5]
  simp only[DI,Nat.zero_add]
  split
  ·refine Fj fun m L H hh=>?_
   obtain⟨x,h1,h2⟩:=Option.bind_eq_some_iff.1 hh
   rw[hc _ _ h1]
   simp only[Option.bind_some]
   revert h2
   split
   ·exact h _ _
   ·exact id
  ·exact id
 | _=>simp_all[I5]
theorem kX(hc:Xo Qc Qc')(hs:Oq Qs Qs')(h:Oq Q Q'):Oq (BU E Qc Qs Q) (BU E Qc' Qs' Q'):=by
 intro q r
 cases q with
 | call f args H =>
  simp only[BU,DI]
  split
  ·exact id
  ·split
   ·split
    ·exact Ae (h _ _) id
    ·exact id
   ·exact id
 | loop f k n0 m L H =>
  simp only[BU,DI,Gf]
  split
  ·exact id
  ·split
   ·split
    ·split
     ·exact h _ _
     ·exact id
    ·exact id
   ·exact id
 | code X p k fr m L H=>exact kW hc hs h _
 | nxt X e fr m L H=>exact Jt hc h fr
 | ops X p i fr m L H=>exact Pe hc h _
 | one X p i fr m L H =>
  simp only[BU,DI]
  split
  ·exact Df hc fun t=>Dh fun m L H=>h _ _
  ·exact id
 | drw X p i tr fr m L H=>exact Pg hc h _
 | drw1 X p i tr fr m L H =>
  simp only[BU,Dw,EC,DI]
  split
  ·exact Df hc fun t=>Dh fun m L H=>h _ _
  ·exact id
end
def Y(E:Env)(q:Rq):Option Rsp:=BU E (Bd (Y E)) (Y E) (Y E) q
partial_fixpoint monotonicity by
 intro F1 F2 h q
 have hQ:Oq F1 F2:=fun q r hq=>by
  have hr:=h q
  generalize F2 q=z at hr ⊢
  generalize F1 q=y at hr hq
  subst hq
  cases hr
  rfl
 have hm:=kX (E:=E) (kV hQ) hQ hQ q
 dsimp only
 generalize BU E (Bd F2) F2 F2 q=z at hm ⊢
 generalize BU E (Bd F1) F1 F1 q=y at hm ⊢
 cases y with
 | none=>exact .bot
 | some r=>grind
abbrev wG(E:Env)(X:Fx)(p:List Bool):Code:=JC (Jr E.C X.f) p
abbrev QC(E:Env)(X:Fx)(p:List Bool):List Oper:=opsOf (wG E X p)
def KF(E:Env)(X:Fx):List Fr->Exit->Nat->LX->HX->Option Rsp
 | [],_,_,_,_=>none
 | .seq p k::fr,e,m,L,H=>(match e with
  | .normal=>OG (E.tt X.f) E.G (F E) X.n X.f X.n0 (Js E.G X.f) (wG E X p) k m L H (KF E X fr)
  | e=>KF E X fr e m L H)
 | .blk id::fr,e,m,L,H=>(match e with
  | .exit id'=>bif Nat.beq id' id then KF E X fr .normal m L H else KF E X fr (.exit id') m L H
  | e=>KF E X fr e m L H)
 | .ret::_,e,m,L,H=>(match e with
  | .normal|.ret=>A4d E X m L H
  | _=>none)
 | .lup k::_,e,m,L,H=>(match(Js E.G X.f)[k]? with
  | some kp=>(match e with
   | .normal=>MX kp.1 X.n0 m L H fun m L H=>F E (.loop X.f k X.n0 m L H)
   | e=>MX kp.2 X.n0 m L H fun m L H=>some (.fin e m L H))
  | none=>none)
def den(E:Env):Rq->Option Rsp
 | .call f args H=>F E (.call f args H)
 | .loop f k n0 m L H=>F E (.loop f k n0 m L H)
 | .code X p k fr m L H=>OG (E.tt X.f) E.G (F E) X.n X.f X.n0 (Js E.G X.f) (wG E X p) k m L H (KF E X fr)
 | .nxt X e fr m L H=>KF E X fr e m L H
 | .ops X p i fr m L H=>Il (E.tt X.f) E.G (F E) X.n (QC E X p) ((QC E X p).drop i) m L H fun m L H=>KF E X fr .normal m L H
 | .one X p i fr m L H=>(match(QC E X p)[i]? with
  | some o=>Hy (E.tt X.f) E.G (F E) (F8 L) (fun k=>hlk k H) m o.op fun t=>IW o.dst t m L H fun m L H=>Il (E.tt X.f) E.G (F E) X.n (QC E X p) ((QC E X p).drop (1+i)) m L H fun m L H=>KF E X fr .normal m L H
  | none=>none)
 | .drw X p i tr fr m L H=>I4 (E.tt X.f) E.G (F E) (QC E X p) ((QC E X p).drop i) tr m L H fun tr m L H=>bif AA X.n (QC E X p).toArray tr then KF E X fr .normal m L H else none
 | .drw1 X p i tr fr m L H=>(match(QC E X p)[i]? with
  | some o=>Ic (o.looksAt (QC E X p).toArray) fun lk=>J9 (bF lk L) fun L'=>Hy (E.tt X.f) E.G (F E) (F8 L') (fun k=>hlk k H) m o.op fun t=>IW o.dst t m L H fun m L H=>I4 (E.tt X.f) E.G (F E) (QC E X p) ((QC E X p).drop (1+i)) (tr++[t]) m L H fun tr m L H=>bif AA X.n (QC E X p).toArray tr then KF E X fr .normal m L H else none
  | none=>none)
section
variable {E:Env}{Qc:Orc}{Q Qs:Oyr}{X:Fx}{r:Rsp}
theorem uB(h:Oq Q (den E)):Xo (Bd Q) (F E):=by
 intro q r
 cases q with
 | call f a H=>exact h (.call f a H) r
 | loop f k n0 m L H=>exact h (.loop f k n0 m L H) r
theorem Ld(hc:Xo Qc (F E))(h:Oq Q (den E)):∀(fr:List Fr) {e:Exit} {m:Nat} {L:LX} {H:HX},Rn E Qc Q X fr e m L H=some r->KF E X fr e m L H=some r
 | [],e,m,L,H=>id
 | .seq p k::fr,e,m,L,H=>by
  cases e<;>first|exact h (.code X p k fr m L H) r|exact Ld hc h fr
 | .blk id::fr,e,m,L,H=>by
  cases e<;>first|exact Ae (Ld hc h fr) (Ld hc h fr)|exact Ld hc h fr
 | .ret::fr,e,m,L,H=>by cases e<;>exact id
 | .lup k::fr,e,m,L,H=>by
  simp only[Rn,KF]
  generalize (Js E.G X.f)[k]?=z
  cases z with
  | none=>exact id
  | some kp=>cases e<;>first|exact Fj fun m L H=>hc (.loop X.f k X.n0 m L H) r|exact id
theorem oK{α:Type}{l t:List α}{i:Nat}{o:α}(h:l.drop i=o::t):l[i]?=some o/\l.drop (1+i)=t:=by
 constructor
 ·have:=congrArg (fun z=>z[0]?) h
  grind
 ·have:=congrArg (fun z=>z.drop 1) h
  grind[List.drop_drop]
theorem Ro(hc:Xo Qc (F E))(h:Oq Q (den E)){p:List Bool}{fr:List Fr}:∀(l:List Oper) {i m:Nat} {L:LX} {H:HX},(QC E X p).drop i=l->Uw E Qc Q X p fr l i m L H=some r->Il (E.tt X.f) E.G (F E) X.n (QC E X p) l m L H (fun m L H=>KF E X fr .normal m L H)=some r
 | [],i,m,L,H,_=>by grind[Uw,Il,Ld]
 | o::l,i,m,L,H,hl=>by
  obtain⟨h1,h2⟩:=oK hl
  have hops:∀ {m L H},Q (.ops X p (1+i) fr m L H)=some r->Il (E.tt X.f) E.G (F E) X.n (QC E X p) l m L H (fun m L H=>KF E X fr .normal m L H)=some r:=fun hh=>by
   have:=h _ _ hh
   simp_all[den]
  have hone:∀ {m L H},Q (.one X p i fr m L H)=some r->(Hy (E.tt X.f) E.G (F E) (F8 L) (fun k=>hlk k H) m o.op fun t=>IW o.dst t m L H fun m L H=>Il (E.tt X.f) E.G (F E) X.n (QC E X p) l m L H fun m L H=>KF E X fr .normal m L H)=some r:=fun hh=>by
   have:=h _ _ hh
   simp_all[den]
  rw[Uw,Il]
  simp only[DI,A2O]
  generalize o.guard=g
  cases g with
  | none =>
   refine Ae (fun hh=>?_) id
   cases hq:quiet o.op with
   | true =>
    rw[hq,cond_true] at hh
    exact Df hc (fun t=>Dh fun m L H=>Ro hc h l h2) hh
   | false =>
    rw[hq,cond_false] at hh
    exact Df hc (fun t=>Dh fun m L H=>hops) hh
  | some q =>
   obtain⟨j,want⟩:=q
   simp only
   generalize ((QC E X p)[j]?).bind (·.dst)=x
   cases x with
   | none=>exact id
   | some d' =>
    simp only
    generalize Iq d' L=y
    match y with
    | some (.b c)=>grind
    | some (.tup [])=>exact Ae (Ro hc h l h2) id
    | none|some .un|some (.i _)|some (.u8 _)|some (.u32 _)|some (.u64 _)|some (.str _)|some (.sl _ _)|some (.st _ _)|some (.sn _ _)|some .nil|some (.gp _)|some (.nm _)|some (.pa _ _)|some (.pe _ _ _ _)|some (.vs _ _ _ _)|some (.pt _)|some (.agg _)|some (.tup (_::_))|some (.fn _ _ _)=>exact fun hh=>by cases hh
theorem Rt(hc:Xo Qc (F E))(h:Oq Q (den E)){p:List Bool}{fr:List Fr}:∀(l:List Oper) {i:Nat} {tr:List Tr} {m:Nat} {L:LX} {H:HX},(QC E X p).drop i=l->U1 E Qc Q X p fr l i tr m L H=some r->I4 (E.tt X.f) E.G (F E) (QC E X p) l tr m L H (fun tr m L H=>bif AA X.n (QC E X p).toArray tr then KF E X fr .normal m L H else none)=some r
 | [],i,tr,m,L,H,_=>by rw[U1,I4];exact Ae (h (.nxt X .normal fr m L H) r) id
 | o::l,i,tr,m,L,H,hl=>by
  obtain⟨h1,h2⟩:=oK hl
  have hops:∀ {tr m L H},Q (.drw X p (1+i) tr fr m L H)=some r->I4 (E.tt X.f) E.G (F E) (QC E X p) l tr m L H (fun tr m L H=>bif AA X.n (QC E X p).toArray tr then KF E X fr .normal m L H else none)=some r:=fun hh=>by
   have:=h _ _ hh
   simp_all[den]
  have hone:∀ {tr m L H},Q (.drw1 X p i tr fr m L H)=some r->(Hy (E.tt X.f) E.G (F E) (F8 (bF (o.looksAt (QC E X p).toArray) L)) (fun k=>hlk k H) m o.op fun t=>IW o.dst t m L H fun m L H=>I4 (E.tt X.f) E.G (F E) (QC E X p) l (tr++[t]) m L H (fun tr m L H=>bif AA X.n (QC E X p).toArray tr then KF E X fr .normal m L H else none))=some r:=fun hh=>by
   have:=h _ _ hh
   simp_all[den,Dw,EC]
  rw[U1,I4]
  simp only[DI,Dw,EC,WO]
  generalize o.guard=g
  cases g with
  | none =>
   intro hh
   cases hq:quiet o.op with
   | true =>
    rw[hq,cond_true] at hh
    exact Df hc (fun t=>Dh fun m L H=>Rt hc h l h2) hh
   | false =>
    rw[hq,cond_false] at hh
    exact Df hc (fun t=>Dh fun m L H=>hops) hh
  | some q =>
   obtain⟨j,want⟩:=q
   simp only
   generalize ((QC E X p)[j]?).bind (·.dst)=x
   cases x with
   | none=>exact id
   | some d' =>
    simp only
    generalize Iq d' L=y
    match y with
    | some (.b c)=>grind
    | some (.tup [])=>exact Rt hc h l h2
    | none|some .un|some (.i _)|some (.u8 _)|some (.u32 _)|some (.u64 _)|some (.str _)|some (.sl _ _)|some (.st _ _)|some (.sn _ _)|some .nil|some (.gp _)|some (.nm _)|some (.pa _ _)|some (.pe _ _ _ _)|some (.vs _ _ _ _)|some (.pt _)|some (.agg _)|some (.tup (_::_))|some (.fn _ _ _)=>exact fun hh=>by cases hh
theorem yz(c:Code):JC c []=c:=by simp_all[JC]
theorem uC(hc:Xo Qc (F E))(hs:Oq Qs (den E))(h:Oq Q (den E)):∀(c:Code) {p:List Bool} {k:Nat} {fr:List Fr} {m:Nat} {L:LX} {H:HX},wG E X p=c->I5 E Qc Qs Q X c p k fr m L H=some r->OG (E.tt X.f) E.G (F E) X.n X.f X.n0 (Js E.G X.f) c k m L H (KF E X fr)=some r:=by
 intro c
 induction c with
 | skip|label l|exit id|ret=>intro p k fr m L H _;exact Ld hc h fr
 | seq a b iha ihb =>
  intro p k fr m L H hcd hh
  rw[I5] at hh
  simp only[DI,Gf] at hh
  have ha:wG E X (p++[false])=a:=za6
  have hb:wG E X (p++[true])=b:=za6
  have:=iha ha hh
  rw[OG]
  refine NM (fun _ _ h=>h) a (fun e m L H=>?_) this
  grind[KF]
 | block id c ih =>
  intro p k fr m L H hcd hh
  rw[I5] at hh
  have ha:wG E X (p++[false])=c:=za6
  have:=ih ha hh
  rw[OG]
  refine NM (fun _ _ h=>h) c (fun e m L H=>?_) this
  cases e<;>exact _root_.id
 | cond x a b iha ihb =>
  intro p k fr m L H hcd
  have ha:wG E X (p++[false])=a:=za6
  have hb:wG E X (p++[true])=b:=za6
  rw[I5,OG]
  simp only[DI,Gf,Nat.zero_add]
  generalize F8 L x=y
  match y with
  | some (.b c)=>exact Ae (fun hh=>by have:=h _ _ hh;simp_all[den]) (fun hh=>by have:=h _ _ hh;simp_all[den])
  | none|some .un|some (.i _)|some (.u8 _)|some (.u32 _)|some (.u64 _)|some (.str _)|some (.sl _ _)|some (.st _ _)|some (.sn _ _)|some .nil|some (.gp _)|some (.nm _)|some (.pa _ _)|some (.pe _ _ _ _)|some (.vs _ _ _ _)|some (.pt _)|some (.agg _)|some (.tup _)|some (.fn _ _ _)=>exact fun hh=>by cases hh
 | region id ops b =>
  intro p k fr m L H hcd
  have ho:QC E X p=ops.toList:=by unfold QC;rw[hcd];rfl
  cases b with
  | false =>
   rw[I5,OG];simp only[Gf]
   refine Fj fun m L H hh=>?_
   revert hh
   cases (UX E.G X.f id).meet with
   | true =>
    intro hh
    have:=hs _ _ hh
    simp_all[den]
   | false =>
    intro hh
    have:=Ro hc h ops.toList (p:=p) (fr:=fr) zau hh
    simp_all
  | true =>
   rw[I5,OG];simp only[Gf]
   refine Fj fun m L H hh=>?_
   revert hh
   cases (UX E.G X.f id).meet with
   | true =>
    intro hh
    have:=hs _ _ hh
    simp_all[den]
   | false =>
    intro hh
    have:=Rt hc h ops.toList (p:=p) (fr:=fr) zau hh
    simp_all
 | loop c ih =>
  intro p k fr m L H hcd
  rw[I5,OG]
  simp only[DI,Nat.zero_add]
  generalize (Js E.G X.f)[k]?=z
  cases z with
  | none=>exact id
  | some kp =>
   refine Fj fun m L H hh=>?_
   obtain⟨x,h1,h2⟩:=Option.bind_eq_some_iff.1 hh
   rw[show F E (.loop X.f k X.n0 m L H)=some x from hc (.loop X.f k X.n0 m L H) x h1]
   simp only[Option.bind_some]
   cases x with
   | fin e m L H=>exact h (.nxt X e fr m L H) r h2
   | ret s H=>cases h2
 | _=>simp_all[I5]
theorem A5r:∀ q r,Y E q=some r->den E q=some r:=by
 refine Y.partial_correctness E _ fun Q hQ q r hr=>?_
 have h:Oq Q (den E):=hQ
 have hc:=uB h
 cases q with
 | call f args H =>
  rw[den,F.eq_1]
  simp only[BU,DI,Nat.zero_add] at hr
  unfold Oi
  split at hr
  ·simp_all
  ·rename_i ho
   rw[ho]
   simp only[DI,Nat.zero_add]
   split at hr
   ·rename_i fn fi hcf hfi
    rw[hcf,hfi]
    simp only
    split at hr
    ·rename_i c hb
     rw[hb]
     simp only
     revert hr
     refine Ae (fun hr=>?_) id
     have:=h _ _ hr
     have e1:wG E ⟨fn.ntmps,f,H.length⟩ []=c:=by simp_all[Jr,yz]
     have e2:Js E.G f=fi.keep:=by grind[Js]
     rw[den,e1] at this
     simp only[e2] at this
     refine NM (fun _ _ h=>h) c (fun e m L H=>?_) this
     grind[KF,A4d]
    ·cases hr
   ·cases hr
 | loop f k n0 m L H =>
  rw[den,F.eq_1]
  simp only[BU,DI,Nat.zero_add,Gf] at hr
  unfold Oi
  split at hr
  ·simp_all
  ·rename_i ho
   rw[ho]
   simp only
   split at hr
   ·rename_i fn fi hcf hfi
    rw[hcf,hfi]
    simp only
    split at hr
    ·rename_i c kp hb hkp
     rw[hb,hkp]
     simp only
     split at hr
     ·rename_i p hl
      rw[yx hl]
      simp only
      have:=h _ _ hr
      have e1:wG E ⟨fn.ntmps,f,n0⟩ p=JC c p:=by simp_all[wG,Jr]
      have e2:Js E.G f=fi.keep:=by grind[Js]
      rw[den,e1] at this
      simp only[e2] at this
      refine NM (fun _ _ h=>h) _ (fun e m L H=>?_) this
      grind[KF]
     ·cases hr
    ·cases hr
   ·cases hr
 | code X p k fr m L H=>exact uC hc h h _ rfl hr
 | nxt X e fr m L H=>exact Ld hc h fr hr
 | ops X p i fr m L H=>exact Ro hc h _ rfl hr
 | one X p i fr m L H =>
  rw[den]
  simp only[BU,DI] at hr
  show(match(QC E X p)[i]? with|some o=>_|none=>none)=some r
  generalize (QC E X p)[i]?=z at hr ⊢
  cases z with
  | none=>cases hr
  | some o=>exact Df hc (fun t=>Dh fun m L H=>h (.ops X p (1+i) fr m L H) r) hr
 | drw X p i tr fr m L H=>exact Rt hc h _ rfl hr
 | drw1 X p i tr fr m L H =>
  rw[den]
  simp only[BU,DI,Dw,EC] at hr ⊢
  generalize hz:(QC E X p)[i]?=z at hr ⊢
  cases z with
  | none=>cases hr
  | some o=>exact Df hc (fun t=>Dh fun m L H=>h (.drw X p (1+i) _ fr m L H) r) hr
def Y1(E:Env)(q:Rq):Option Rsp:=BU E (Bd (Y E)) (Y E) (Y E) q
def Y2(E:Env)(q:Rq):Option Rsp:=BU E (Bd (Y E)) (Y E) (Y1 E) q
def Y3(E:Env)(q:Rq):Option Rsp:=BU E (Bd (Y E)) (Y E) (Y2 E) q
def Y4(E:Env)(q:Rq):Option Rsp:=BU E (Bd (Y E)) (Y E) (Y3 E) q
def Y5(E:Env)(q:Rq):Option Rsp:=BU E (Bd (Y E)) (Y E) (Y4 E) q
def Y6(E:Env)(q:Rq):Option Rsp:=BU E (Bd (Y E)) (Y E) (Y5 E) q
def Y7(E:Env)(q:Rq):Option Rsp:=BU E (Bd (Y E)) (Y E) (Y6 E) q
def Y8(E:Env)(q:Rq):Option Rsp:=BU E (Bd (Y E)) (Y E) (Y7 E) q
def Y9(E:Env)(q:Rq):Option Rsp:=BU E (Bd (Y E)) (Y E) (Y8 E) q
def Y10(E:Env)(q:Rq):Option Rsp:=BU E (Bd (Y E)) (Y E) (Y9 E) q
def Y11(E:Env)(q:Rq):Option Rsp:=BU E (Bd (Y E)) (Y E) (Y10 E) q
def Y12(E:Env)(q:Rq):Option Rsp:=BU E (Bd (Y E)) (Y E) (Y11 E) q
def Y13(E:Env)(q:Rq):Option Rsp:=BU E (Bd (Y E)) (Y E) (Y12 E) q
def Y14(E:Env)(q:Rq):Option Rsp:=BU E (Bd (Y E)) (Y E) (Y13 E) q
def Y15(E:Env)(q:Rq):Option Rsp:=BU E (Bd (Y E)) (Y E) (Y14 E) q
def Y16(E:Env)(q:Rq):Option Rsp:=BU E (Bd (Y E)) (Y E) (Y15 E) q
def Y17(E:Env)(q:Rq):Option Rsp:=BU E (Bd (Y E)) (Y E) (Y16 E) q
def Y18(E:Env)(q:Rq):Option Rsp:=BU E (Bd (Y E)) (Y E) (Y17 E) q
def Y19(E:Env)(q:Rq):Option Rsp:=BU E (Bd (Y E)) (Y E) (Y18 E) q
def Y20(E:Env)(q:Rq):Option Rsp:=BU E (Bd (Y E)) (Y E) (Y19 E) q
def Y21(E:Env)(q:Rq):Option Rsp:=BU E (Bd (Y E)) (Y E) (Y20 E) q
def Y22(E:Env)(q:Rq):Option Rsp:=BU E (Bd (Y E)) (Y E) (Y21 E) q
def Y23(E:Env)(q:Rq):Option Rsp:=BU E (Bd (Y E)) (Y E) (Y22 E) q
def Y24(E:Env)(q:Rq):Option Rsp:=BU E (Bd (Y E)) (Y E) (Y23 E) q
def Y25(E:Env)(q:Rq):Option Rsp:=BU E (Bd (Y E)) (Y E) (Y24 E) q
def Y26(E:Env)(q:Rq):Option Rsp:=BU E (Bd (Y E)) (Y E) (Y25 E) q
def Y27(E:Env)(q:Rq):Option Rsp:=BU E (Bd (Y E)) (Y E) (Y26 E) q
def Y28(E:Env)(q:Rq):Option Rsp:=BU E (Bd (Y E)) (Y E) (Y27 E) q
def Y29(E:Env)(q:Rq):Option Rsp:=BU E (Bd (Y E)) (Y E) (Y28 E) q
def Y30(E:Env)(q:Rq):Option Rsp:=BU E (Bd (Y E)) (Y E) (Y29 E) q
def Y31(E:Env)(q:Rq):Option Rsp:=BU E (Bd (Y E)) (Y E) (Y30 E) q
def Y32(E:Env)(q:Rq):Option Rsp:=BU E (Bd (Y E)) (Y E) (Y31 E) q
def Y33(E:Env)(q:Rq):Option Rsp:=BU E (Bd (Y E)) (Y E) (Y32 E) q
def Y34(E:Env)(q:Rq):Option Rsp:=BU E (Bd (Y E)) (Y E) (Y33 E) q
def Y35(E:Env)(q:Rq):Option Rsp:=BU E (Bd (Y E)) (Y E) (Y34 E) q
def Y36(E:Env)(q:Rq):Option Rsp:=BU E (Bd (Y E)) (Y E) (Y35 E) q
def Y37(E:Env)(q:Rq):Option Rsp:=BU E (Bd (Y E)) (Y E) (Y36 E) q
def Y38(E:Env)(q:Rq):Option Rsp:=BU E (Bd (Y E)) (Y E) (Y37 E) q
def Y39(E:Env)(q:Rq):Option Rsp:=BU E (Bd (Y E)) (Y E) (Y38 E) q
def Y40(E:Env)(q:Rq):Option Rsp:=BU E (Bd (Y E)) (Y E) (Y39 E) q
theorem Y_0:Y=Y:=rfl
theorem Y_1:Y=Y1:=by funext E q;rw[Y.eq_1];show _=BU E (Bd (Y E)) (Y E) (Y E) q;rw[<-Y_0]
theorem Y_2:Y=Y2:=by funext E q;rw[Y.eq_1];show _=BU E (Bd (Y E)) (Y E) (Y1 E) q;rw[<-Y_1]
theorem Y_3:Y=Y3:=by funext E q;rw[Y.eq_1];show _=BU E (Bd (Y E)) (Y E) (Y2 E) q;rw[<-Y_2]
theorem Y_4:Y=Y4:=by funext E q;rw[Y.eq_1];show _=BU E (Bd (Y E)) (Y E) (Y3 E) q;rw[<-Y_3]
theorem Y_5:Y=Y5:=by funext E q;rw[Y.eq_1];show _=BU E (Bd (Y E)) (Y E) (Y4 E) q;rw[<-Y_4]
theorem Y_6:Y=Y6:=by funext E q;rw[Y.eq_1];show _=BU E (Bd (Y E)) (Y E) (Y5 E) q;rw[<-Y_5]
theorem Y_7:Y=Y7:=by funext E q;rw[Y.eq_1];show _=BU E (Bd (Y E)) (Y E) (Y6 E) q;rw[<-Y_6]
theorem Y_8:Y=Y8:=by funext E q;rw[Y.eq_1];show _=BU E (Bd (Y E)) (Y E) (Y7 E) q;rw[<-Y_7]
theorem Y_9:Y=Y9:=by funext E q;rw[Y.eq_1];show _=BU E (Bd (Y E)) (Y E) (Y8 E) q;rw[<-Y_8]
theorem A72:Y=Y10:=by funext E q;rw[Y.eq_1];show _=BU E (Bd (Y E)) (Y E) (Y9 E) q;rw[<-Y_9]
theorem A73:Y=Y11:=by funext E q;rw[Y.eq_1];show _=BU E (Bd (Y E)) (Y E) (Y10 E) q;rw[<-A72]
theorem A74:Y=Y12:=by funext E q;rw[Y.eq_1];show _=BU E (Bd (Y E)) (Y E) (Y11 E) q;rw[<-A73]
theorem A75:Y=Y13:=by funext E q;rw[Y.eq_1];show _=BU E (Bd (Y E)) (Y E) (Y12 E) q;rw[<-A74]
theorem A76:Y=Y14:=by funext E q;rw[Y.eq_1];show _=BU E (Bd (Y E)) (Y E) (Y13 E) q;rw[<-A75]
theorem A77:Y=Y15:=by funext E q;rw[Y.eq_1];show _=BU E (Bd (Y E)) (Y E) (Y14 E) q;rw[<-A76]
theorem A78:Y=Y16:=by funext E q;rw[Y.eq_1];show _=BU E (Bd (Y E)) (Y E) (Y15 E) q;rw[<-A77]
theorem A79:Y=Y17:=by funext E q;rw[Y.eq_1];show _=BU E (Bd (Y E)) (Y E) (Y16 E) q;rw[<-A78]
theorem A7A:Y=Y18:=by funext E q;rw[Y.eq_1];show _=BU E (Bd (Y E)) (Y E) (Y17 E) q;rw[<-A79]
theorem A7B:Y=Y19:=by funext E q;rw[Y.eq_1];show _=BU E (Bd (Y E)) (Y E) (Y18 E) q;rw[<-A7A]
theorem A7C:Y=Y20:=by funext E q;rw[Y.eq_1];show _=BU E (Bd (Y E)) (Y E) (Y19 E) q;rw[<-A7B]
theorem A7D:Y=Y21:=by funext E q;rw[Y.eq_1];show _=BU E (Bd (Y E)) (Y E) (Y20 E) q;rw[<-A7C]
theorem A7E:Y=Y22:=by funext E q;rw[Y.eq_1];show _=BU E (Bd (Y E)) (Y E) (Y21 E) q;rw[<-A7D]
theorem A7F:Y=Y23:=by funext E q;rw[Y.eq_1];show _=BU E (Bd (Y E)) (Y E) (Y22 E) q;rw[<-A7E]
theorem A7G:Y=Y24:=by funext E q;rw[Y.eq_1];show _=BU E (Bd (Y E)) (Y E) (Y23 E) q;rw[<-A7F]
theorem A7H:Y=Y25:=by funext E q;rw[Y.eq_1];show _=BU E (Bd (Y E)) (Y E) (Y24 E) q;rw[<-A7G]
theorem A7I:Y=Y26:=by funext E q;rw[Y.eq_1];show _=BU E (Bd (Y E)) (Y E) (Y25 E) q;rw[<-A7H]
theorem A7J:Y=Y27:=by funext E q;rw[Y.eq_1];show _=BU E (Bd (Y E)) (Y E) (Y26 E) q;rw[<-A7I]
theorem A7K:Y=Y28:=by funext E q;rw[Y.eq_1];show _=BU E (Bd (Y E)) (Y E) (Y27 E) q;rw[<-A7J]
theorem A7L:Y=Y29:=by funext E q;rw[Y.eq_1];show _=BU E (Bd (Y E)) (Y E) (Y28 E) q;rw[<-A7K]
theorem A7M:Y=Y30:=by funext E q;rw[Y.eq_1];show _=BU E (Bd (Y E)) (Y E) (Y29 E) q;rw[<-A7L]
theorem A7N:Y=Y31:=by funext E q;rw[Y.eq_1];show _=BU E (Bd (Y E)) (Y E) (Y30 E) q;rw[<-A7M]
theorem A7O:Y=Y32:=by funext E q;rw[Y.eq_1];show _=BU E (Bd (Y E)) (Y E) (Y31 E) q;rw[<-A7N]
theorem A7P:Y=Y33:=by funext E q;rw[Y.eq_1];show _=BU E (Bd (Y E)) (Y E) (Y32 E) q;rw[<-A7O]
theorem A7Q:Y=Y34:=by funext E q;rw[Y.eq_1];show _=BU E (Bd (Y E)) (Y E) (Y33 E) q;rw[<-A7P]
theorem A7R:Y=Y35:=by funext E q;rw[Y.eq_1];show _=BU E (Bd (Y E)) (Y E) (Y34 E) q;rw[<-A7Q]
theorem A7S:Y=Y36:=by funext E q;rw[Y.eq_1];show _=BU E (Bd (Y E)) (Y E) (Y35 E) q;rw[<-A7R]
theorem A7T:Y=Y37:=by funext E q;rw[Y.eq_1];show _=BU E (Bd (Y E)) (Y E) (Y36 E) q;rw[<-A7S]
theorem A7U:Y=Y38:=by funext E q;rw[Y.eq_1];show _=BU E (Bd (Y E)) (Y E) (Y37 E) q;rw[<-A7T]
theorem A7V:Y=Y39:=by funext E q;rw[Y.eq_1];show _=BU E (Bd (Y E)) (Y E) (Y38 E) q;rw[<-A7U]
theorem A7W:Y=Y40:=by funext E q;rw[Y.eq_1];show _=BU E (Bd (Y E)) (Y E) (Y39 E) q;rw[<-A7V]
theorem AU(E:Env)(q:Rq):Y E q=Y40 E q:=by rw[<-A7W]
theorem KU{P:Program}{I:World->Prop}(h:EnvOK P I E){f:FuncId}{args:List AV}{Hin:List Rs}{s:AV}{Hout:List (Option Rs)}(hY:Y E (.call f args Hin)=some (.ret s Hout)):XD P I f args Hin s Hout:=A4V h (A5r _ _ hY)
end
end
end Go.Ax
namespace Go.Ax
open Go Go.Eng Go.RowKit
set_option linter.unusedVariables false
variable (E:Env)(a:Int)(X:Fx)(b:Int)(p:List Bool)(i:Nat)
@[irreducible] def OH {α:Type} (a b:α):Prop:=a=b
theorem OH.rf{α:Type}(a:α):OH a a:=by unfold OH;rfl
theorem OH.eq{α:Type}{a b:α}(h:OH a b):a=b:=by simp_all[OH]
theorem DU:a<b\/b<=a:=zaa
theorem dm:a<=b\/b<a:=zaa
theorem I7:a=b\/a≠b:=zaa
theorem Dc:a≠b\/a=b:=zaa
theorem Xw(f:Nat)(a:List AV)(H:List Rs):Y E (.call f a H)=Y40 E (.call f a H):=AU _ _
theorem Xx(f k n0 m:Nat)(L:LX)(H:HX):Y E (.loop f k n0 m L H)=Y40 E (.loop f k n0 m L H):=AU _ _
theorem Xy(fr:List Fr)(m:Nat)(L:LX)(H:HX):Y E (.ops X p i fr m L H)=Y40 E (.ops X p i fr m L H):=AU _ _
theorem Xz(tr:List Tr)(fr:List Fr)(m:Nat)(L:LX)(H:HX):Y E (.drw X p i tr fr m L H)=Y40 E (.drw X p i tr fr m L H):=AU _ _
theorem Y0(tr:List Tr)(fr:List Fr)(m:Nat)(L:LX)(H:HX):Y E (.drw1 X p i tr fr m L H)=Y40 E (.drw1 X p i tr fr m L H):=AU _ _
theorem U2{a b:Bool}(h:a=b):CE a b=true:=by rw[xC,h];simp[beq0]
theorem U3{a b:Bool}(h:a≠b):CE a b=false:=by simp_all[xC,beq0]
theorem Ux{p:Prop}(h:p:=by simp[Hq,JA,DJ]):p:=h
end Go.Ax
namespace Go.Ax
open Go Go.Eng Go.RowKit
set_option linter.unusedVariables false
variable {α:Type}
theorem Bq{p:Prop}(h:p:=by first|omega|decide|assumption|(simp only[A7,aZ,Bf,DF,dh,Ad,BQ,BO,LL] at *<;>omega)|(simp;omega)):p:=h
theorem A7X{a b:α}(e:OH a b:=by(try rewrite[Xw]);(try rewrite[Xx]);(conv=>arg 1;whnf);(repeat first|(dsimp -iota -beta -eta -zeta only)|((first|rewrite[EF Bq]|rewrite[QV Bq]|rewrite[Jk Bq]|rewrite[DJ]|rewrite[GZ]|rewrite[U2 Ux]|rewrite[U3 Ux]|rewrite[Xy]|rewrite[Xz]|rewrite[Y0]|rewrite[Y_go2]|rewrite[Y_go3]|rewrite[Y_go4]|rewrite[decide_eq_true Bq]|rewrite[decide_eq_false Bq]|rewrite[Dn Bq]|rewrite[Iw Bq]|rewrite[Fh Bq]|rewrite[UY Bq]|rewrite[Ep Bq]|rewrite[JK Bq]|rewrite[Ko Bq]|rewrite[Jh Bq]|rewrite[WG Bq]|rewrite[Xq Bq]|rewrite[U0 rfl]|rewrite[drw zai]|rewrite[LP rfl]|rewrite[NP]|rewrite[QX Bq]|rewrite[Lc Bq]|rewrite[O4 Bq]);(conv=>arg 1;whnf))|rewrite[JL]|rewrite[L9]|rewrite[LC]|rewrite[LD]|rewrite[LG]|rewrite[LH]|rewrite[Jl]|rewrite[Jm]|rewrite[Jn]|rewrite[Jo]|rewrite[Jp]|rewrite[IX]|rewrite[D7 Bq]|rewrite[EI Bq]|rewrite[MG Bq]|rewrite[RX Bq]|rewrite[O3 Bq]|rewrite[RY Bq]|rewrite[RZ Bq]|rewrite[PY Bq]|rewrite[Aj]|rewrite[Eo]);exact OH.rf _):OH a b:=e
theorem BM{a b c:α}(h:b=c)(e:OH a b:=by exact A7X):a=c:=(OH.eq e).trans h
theorem A7Y{a b:α}(e:OH a b:=by(try rewrite[Xw]);(try rewrite[Xx]);(conv=>arg 1;whnf);(repeat first|(dsimp -iota -beta -eta -zeta only)|((first|rewrite[EF Bq]|rewrite[QV Bq]|rewrite[Jk Bq]|rewrite[DJ]|rewrite[GZ]|rewrite[U2 Ux]|rewrite[U3 Ux]|rewrite[Xy]|rewrite[Xz]|rewrite[Y0]|rewrite[Y_go2]|rewrite[Y_go3]|rewrite[Y_go4]|rewrite[decide_eq_true Bq]|rewrite[decide_eq_false Bq]|rewrite[Dn Bq]|rewrite[Iw Bq]|rewrite[Fh Bq]|rewrite[UY Bq]|rewrite[Ep Bq]|rewrite[JK Bq]|rewrite[Ko Bq]|rewrite[Jh Bq]|rewrite[WG Bq]|rewrite[Xq Bq]|rewrite[U0 rfl]|rewrite[drw zai]|rewrite[LP rfl]|rewrite[NP]|rewrite[QX Bq]|rewrite[Lc Bq]);(conv=>arg 1;whnf))|rewrite[JL]|rewrite[L9]|rewrite[LC]|rewrite[LD]|rewrite[LG]|rewrite[LH]|rewrite[Jl]|rewrite[Jm]|rewrite[Jn]|rewrite[Jo]|rewrite[Jp]|rewrite[IX]|rewrite[D7 Bq]|rewrite[EI Bq]|rewrite[MG Bq]|rewrite[RX Bq]|rewrite[O3 Bq]|rewrite[RY Bq]|rewrite[RZ Bq]|rewrite[PY Bq]|rewrite[Aj]|rewrite[Eo]);exact OH.rf _):OH a b:=e
theorem toA{a b c:α}(h:b=c)(e:OH a b:=by exact A7Y):a=c:=(OH.eq e).trans h
end Go.Ax
namespace Go.Ax
open Go Go.RowKit Go.Eng Go.ChangeShapes Go.WideShapes
set_option linter.unusedVariables false
set_option linter.unusedSimpArgs false
def zA(P:Program):Nat->List Field->Bool
 | _,[]=>true
 | o,f::r=>Nat.beq f.offset o&&zA P (o+P.cellsOf f.type) r
def Ot(P:Program):Nat->Ty->List TypeId->Bool
 | 0,_,_=>false
 | n+1,.unit,[]=>true
 | n+1,τ,[t]=>match P.underlying t,τ with
  | some .bool,.bool|some (.int .i64),.i64|some (.int .u8),.u8|some (.int .u32),.u32|some (.int .u64),.u64|some .string,.str=>true
  | some (.slice e),.sl a=>Ot P n a [e]
  | some (.struct fs),τ=>zA P 0 fs.toList&&Nat.beq (P.cellsOf t) ((fs.toList.map fun f=>P.cellsOf f.type).sum)&&Ot P n τ (fs.toList.map (·.type))
  | some (.array k e),τ=>Nat.beq (P.cellsOf t) (k*P.cellsOf e)&&Ot P n τ (List.replicate k e)
  | _,_=>false
 | n+1,.pair a b,t::u::r=>Ot P n a [t]&&Ot P n b (u::r)
 | _,_,_=>false
def A5s(P:Program)(n:Nat)(t:TypeId)(τ:Ty):Bool:=match P.underlying t,τ with
  | some .bool,.bool|some (.int .i64),.i64|some (.int .u8),.u8|some (.int .u32),.u32|some (.int .u64),.u64|some .string,.str=>true
  | some (.slice e),.sl a=>Ot P n a [e]
  | some (.struct fs),τ=>zA P 0 fs.toList&&Nat.beq (P.cellsOf t) ((fs.toList.map fun f=>P.cellsOf f.type).sum)&&Ot P n τ (fs.toList.map (·.type))
  | some (.array k e),τ=>Nat.beq (P.cellsOf t) (k*P.cellsOf e)&&Ot P n τ (List.replicate k e)
  | _,_=>false
theorem zB(P:Program)(n:Nat)(t:TypeId)(τ:Ty):Ot P (n+1) τ [t]=A5s P n t τ:=by cases τ<;>rfl
def Wf:(t:Ty)->El t->Prop
 | .i64,x => -9223372036854775808<=x/\x<=9223372036854775807
 | .pair a b,x=>Wf a x.1/\Wf b x.2
 | .sl e,l=>List.length l<=maxLen/\∀ x∈l,Wf e x
 | .str,l=>List.length l<=maxLen
 | _,_=>True
section
variable {H:Type}{enc:TypeId×Value->H}{P:Program}{w:World}
def Zb(enc:TypeId×Value->H)(P:Program)(w:World):List TypeId->List Value->Prop
 | [],cs=>cs=[]
 | t::r,cs=>P.cellsOf t<=cs.length/\(∃ n x,DataW.trod enc P w 0 (fun _=>true) true n t (cs.take (P.cellsOf t))=some x)/\Zb enc P w r (cs.drop (P.cellsOf t))
theorem WP{cs:List Value}{n:Nat}:∀ {fs:List Field} {o:Nat},zA P o fs=true->(∀(i:Nat) (f:Field),fs[i]?=some f->∃ x,DataW.trod enc P w 0 (fun _=>true) true n f.type ((cs.drop f.offset).take (P.cellsOf f.type))=some x) ->
  cs.length=o+(fs.map fun f=>P.cellsOf f.type).sum->Zb enc P w (fs.map (·.type)) (cs.drop o)
 | [],o,_,_,hl=>by simp_all[Zb]
 | f::r,o,ho,hf,hl=>by
  simp only[zA,Bool.and_eq_true] at ho
  have h0:f.offset=o:=zau
  simp only[List.map_cons,List.sum_cons] at hl
  simp only[List.map_cons,Zb]
  refine⟨by simp_all,?_,?_⟩
  ·obtain⟨x,hx⟩:=hf 0 f rfl
   grind
  ·rw[List.drop_drop]
   exact WP ho.2 (fun i g hg=>hf (i+1) g zaB) zaa
theorem oL{cs:List Value}{n:Nat}{e:TypeId}:∀ {k j:Nat},(∀ i,j<=i->i<j+k->∃ x,DataW.trod enc P w 0 (fun _=>true) true n e ((cs.drop (i*P.cellsOf e)).take (P.cellsOf e))=some x) ->
  cs.length=(j+k)*P.cellsOf e->Zb enc P w (List.replicate k e) (cs.drop (j*P.cellsOf e))
 | 0,j,_,hl=>by simp_all[Zb]
 | k+1,j,h,hl=>by
  simp only[List.replicate_succ,Zb]
  have e1:(j+(k+1))*P.cellsOf e=j*P.cellsOf e+P.cellsOf e+k*P.cellsOf e:=zaB
  refine⟨by grind,?_,?_⟩
  ·obtain⟨x,hx⟩:=h j zaa zaa
   grind
  ·rw[List.drop_drop]
   have:=oL (cs:=cs) (n:=n) (e:=e) (k:=k) (j:=j+1) (fun i hi hk=>h i zaa zaa) zaB
   grind
theorem Zb.len:∀ {ts:List TypeId} {cs:List Value},Zb enc P w ts cs->cs.length=(ts.map fun t=>P.cellsOf t).sum
 | [],cs,h=>by simp_all[Zb]
 | t::r,cs,h=>by
  have:=Zb.len h.2.2
  rw[List.length_drop] at this
  simp only[List.map_cons,List.sum_cons]
  have h1:=h.1
  omega
theorem Ub{α:Type}{p:Nat->α->Prop}:∀(n:Nat),(∀ i,i<n->∃ a,p i a)->∃ l:List α,l.length=n/\∀(i:Nat) (a:α),l[i]?=some a->p i a
 | 0,_=>⟨[],rfl,fun i a h=>by simp at h⟩
 | n+1,h=>by
  obtain⟨l,h1,h2⟩:=Ub n fun i hi=>h i zaa
  obtain⟨a,ha⟩:=h n zaa
  refine⟨l++[a],by simp[h1],fun i b hb=>?_⟩
  grind
theorem oM{α β:Type}{R:α->β->Prop}:∀ {l:List α} {m:List β},l.length=m.length->(∀(i:Nat) (a:α) (b:β),l[i]?=some a->m[i]?=some b->R a b)->EE R l m
 | [],[],_,_=>trivial
 | a::l,b::m,h,hR=>⟨hR 0 a b rfl rfl,oM zaJ fun i x y hx hy=>hR (i+1) x y zaB zaB⟩
 | [],_::_,h,_|_::_,[],h,_=>zaY
theorem flat_get{n:Nat}{d:List Value}:∀ {l:List (List Value)} (hl:∀ x∈l,x.length=n) {j:Nat} {u:Value},l.flatten[j]?=some u->∃ i k c,l[i]?=some c/\c[k]?=some u/\j=i*n+k/\k<n
 | [],_,j,u,h=>zaY
 | x::l,hl,j,u,h=>by
  have hx:=hl x zan
  rw[List.flatten_cons] at h
  rcases Nat.lt_or_ge j x.length with hj|hj
  ·rw[List.getElem?_append_left hj] at h
   exact⟨0,j,x,rfl,h,by omega,by omega⟩
  ·rw[List.getElem?_append_right hj] at h
   obtain⟨i,k,c,h1,h2,h3,h4⟩:=flat_get (d:=d) (fun y hy=>hl y (by simp[hy])) h
   exact⟨i+1,k,c,by grind,h2,by grind,h4⟩
theorem flat_length{n:Nat}:∀ {l:List (List Value)} (hl:∀ x∈l,x.length=n),l.flatten.length=l.length*n
 | [],_=>zan
 | x::l,hl=>by
  rw[List.flatten_cons,List.length_append,flat_length (fun y hy=>hl y (by simp[hy])),hl x zan,List.length_cons,Nat.add_mul];omega
theorem opens:∀(n:Nat) {τ:Ty} {ts:List TypeId} {cs:List Value},Ot P n τ ts=true->Zb enc P w ts cs->∃ x:El τ,CR τ x cs w/\Wf τ x:=by
 intro n
 induction n with
 | zero=>intro τ ts cs h;cases h
 | succ n ih =>
  intro τ ts cs h hp
  match ts,h,hp with
  | [],h,hp =>
   cases τ with
   | unit=>exact⟨(),by simpa only[CR,Zb] using hp,trivial⟩
   | _=>simp[Ot] at h
  | t::u::r,h,hp =>
   cases τ with
   | pair a b =>
    simp only[Ot,Bool.and_eq_true] at h
    obtain⟨h1,h2,h3⟩:=hp
    obtain⟨m,x,hx⟩:=h2
    have hp1:Zb enc P w [t] (cs.take (P.cellsOf t)):=by
     have hl:(cs.take (P.cellsOf t)).length=P.cellsOf t:=zar
     refine⟨by omega,⟨m,x,by rw[List.take_of_length_le zaa];exact hx⟩,?_⟩
     simp only[Zb];exact List.drop_eq_nil_of_le zaa
    obtain⟨y,hy,hy'⟩:=ih h.1 hp1
    obtain⟨z,hz,hz'⟩:=ih h.2 h3
    refine⟨(y,z),?_,hy',hz'⟩
    simp only[CR]
    exact⟨_,_,(List.take_append_drop _ _).symm,hy,hz⟩
   | _=>simp[Ot] at h
  | [t],h,hp =>
   obtain⟨h1,⟨m,x,hx⟩,h3⟩:=hp
   simp only[Zb] at h3
   have hcs:cs.length=P.cellsOf t:=by
    have:=congrArg List.length h3
    simp at this;omega
   rw[List.take_of_length_le zaa] at hx
   rw[zB] at h
   unfold A5s at h
   split at h
   ·rename_i hu _;obtain⟨b,rfl,_⟩:=DataW.trod_bool hu hx;exact⟨b,by simp only[CR],trivial⟩
   ·rename_i hu _;obtain⟨b,rfl,_,hw⟩:=DataW.trod_int hu hx;exact⟨b,by simp only[CR],bounds_i64 hw⟩
   ·rename_i hu _
    obtain⟨b,rfl,_,hw⟩:=DataW.trod_int hu hx
    have:=bounds_u8 hw
    refine⟨UInt8.ofNat b.toNat,?_,trivial⟩
    simp only[CR,byteV,UInt8.toNat_ofNat',List.cons.injEq,Value.int.injEq,true_and,and_true]
    omega
   ·rename_i hu _
    obtain⟨b,rfl,_,hw⟩:=DataW.trod_int hu hx
    have hb:=bounds_u32 hw
    refine⟨UInt32.ofNat b.toNat,?_,trivial⟩
    simp only[CR,wordV,UInt32.toNat_ofNat',List.cons.injEq,Value.int.injEq,true_and,and_true]
    omega
   ·rename_i hu _
    obtain⟨b,rfl,_,hw⟩:=DataW.trod_int hu hx
    have hb:=bounds_u64 hw
    refine⟨UInt64.ofNat b.toNat,?_,trivial⟩
    simp only[CR,FD,UInt64.toNat_ofNat',List.cons.injEq,Value.int.injEq,true_and,and_true]
    omega
   ·rename_i hu _
    obtain⟨b,rfl,_,hw⟩:=DataW.trod_string hu hx
    exact⟨b.data.toList,by simp only[CR],hw⟩
   ·rename_i e a hu _
    rcases DataW.trod_slice hu hx with⟨rfl,_⟩|⟨ad,len,cap,elems,rest,n',_,rfl,_,_,hl,hmx,hlen,hel,_⟩
    ·exact⟨[],by simp only[CR];exact⟨_,[],rfl,trivial,Sl.nil _ _⟩,by show List.length _<=maxLen/\_;exact⟨by simp,fun x hx=>by cases hx⟩⟩
    ·have each:∀ i,i<len->∃ q:El a×List Value,(CR a q.1 q.2 w/\Wf a q.1)/\q.2.length=P.cellsOf e/\∀ k,k<P.cellsOf e->w.cell? (ad.add (i*P.cellsOf e+k))=q.2[k]?:=by
      intro i hi
      have h1:=hel i hi
      rw[List.getElem?_eq_getElem zaa,Option.bind_eq_some_iff] at h1
      obtain⟨ci,h2,h3⟩:=h1
      obtain⟨_,h4,h5⟩:=World.cells?_some h2
      have hp1:Zb enc P w [e] ci:=by
       refine⟨by omega,⟨n',_,by rw[List.take_of_length_le zaa];exact h3⟩,?_⟩
       simp only[Zb];exact List.drop_eq_nil_of_le zaa
      obtain⟨y,hy,hy'⟩:=ih h hp1
      exact⟨(y,ci),⟨hy,hy'⟩,h4,fun k hk=>by have:=h5 k hk;rw[add_add] at this;exact this⟩
     obtain⟨l,hll,hl2⟩:=Ub len each
     have hsz:∀ x∈l.map (·.2),x.length=a.n:=by
      intro x hx
      obtain⟨q,hq,rfl⟩:=List.mem_map.1 hx
      obtain⟨i,hi⟩:=List.getElem?_of_mem hq
      exact(hl2 i q hi).1.1.len
     refine⟨l.map (·.1),?_,by
      show List.length _<=maxLen/\_
      refine⟨by rw[List.length_map,hll];omega,fun x hx=>?_⟩
      obtain⟨q,hq,rfl⟩:=List.mem_map.1 hx
      obtain⟨i,hi⟩:=List.getElem?_of_mem hq
      exact(hl2 i q hi).1.2⟩
     simp only[CR]
     refine⟨_,l.map (·.2),rfl,oM zan fun i x c hx hc=>?_,?_⟩
     ·rw[List.getElem?_map,Option.map_eq_some_iff] at hx hc
      obtain⟨q,hq,rfl⟩:=hx
      obtain⟨q',hq',rfl⟩:=hc
      rw[hq] at hq';obtain rfl:=Option.some.inj hq'
      exact(hl2 i q hq).1.1
     ·refine⟨some ad,cap,by simp[hll],by rw[flat_length hsz];simp,by simp[hll];exact hl,hmx,(fun h=>by cases h),fun q hq j u hu=>?_⟩
      obtain rfl:=Option.some.inj hq
      obtain⟨i,k,c,h1,h2,h3,h4⟩:=flat_get (d:=[]) hsz hu
      rw[List.getElem?_map,Option.map_eq_some_iff] at h1
      obtain⟨q,hq,rfl⟩:=h1
      obtain⟨g1,g2,g3⟩:=hl2 i q hq
      have hn:a.n=P.cellsOf e:=by rw[<-g1.1.len,g2]
      rw[h3,hn,g3 k zaa];exact h2
   ·rename_i fs hu _
    simp only[Bool.and_eq_true] at h
    obtain⟨xs,n',_,_,hl,hxl,hf⟩:=DataW.trod_struct hu hx
    refine ih h.2 ?_
    have:=WP (enc:=enc) (w:=w) (cs:=cs) (n:=n') h.1.1 (fun i f hif=>?_) (by rw[hl];have:=h.1.2;simp only[Nat.zero_add];simpa using this)
    ·simpa using this
    ·have hif':fs[i]?=some f:=by simpa using hif
     have hlt:i<xs.length:=by rw[hxl];exact(Array.getElem?_eq_some_iff.1 hif').1
     exact⟨xs[i],by rw[hf i f hif',List.getElem?_eq_getElem hlt]⟩
   ·rename_i k e hu _
    simp only[Bool.and_eq_true] at h
    obtain⟨xs,n',_,_,hl,hxl,hf⟩:=DataW.trod_array hu hx
    refine ih h.2 ?_
    have:=oL (enc:=enc) (P:=P) (w:=w) (cs:=cs) (n:=n') (e:=e) (k:=k) (j:=0) (fun i _ hi=>⟨xs[i]'zaa,by rw[hf i zaa,List.getElem?_eq_getElem zaa]⟩) (by rw[hl];have:=h.1;simp only[Nat.zero_add];simpa using this)
    simpa using this
   ·cases h
theorem QY{t:TypeId}{v:Value}{d:DataW H}{ps:List MemPlace}{τ:Ty}(n:Nat)(ht:Ot P n τ [t]=true)(h:DataW.Trod enc P w 0 (fun _=>true) true t v d ps)(hl:v.cells.toList.length=P.cellsOf t):∃ x:El τ,CR τ x v.cells.toList w/\Wf τ x:=by
 obtain⟨m,hm⟩:=h
 refine opens n ht ⟨by omega,⟨m,_,by rw[List.take_of_length_le zaa];exact hm⟩,?_⟩
 simp_all[Zb]
end
theorem CR.ext:∀ {t:Ty} {x:El t} {us:List Value} {w w':World},Ext w w'->CR t x us w->CR t x us w'
 | .bool,x,us,w,w',he,h|.i64,x,us,w,w',he,h|.u8,x,us,w,w',he,h|.u32,x,us,w,w',he,h|.u64,x,us,w,w',he,h|.str,x,us,w,w',he,h|.unit,x,us,w,w',he,h=>by simp_all[CR]
 | .pair a b,x,us,w,w',he,h=>by
  simp only[CR] at h ⊢
  obtain⟨u1,u2,h0,h1,h2⟩:=h
  exact⟨u1,u2,h0,h1.ext he,h2.ext he⟩
 | .sl e,l,us,w,w',he,h=>by
  simp only[CR] at h ⊢
  obtain⟨v,cs,h0,h1,h2⟩:=h
  exact⟨v,cs,h0,EE.mono (fun x c hx=>hx.ext he) h1,h2.ext he⟩
end Go.Ax
namespace Go.Ax
open Go Go.Eng Go.RowKit
variable {ws:List UInt32}{n i:Nat}{x:UInt32}(a b:UInt32)
theorem U4{a:UInt32}{c:Nat}(h:c<32):AX a c=a<<<UInt32.ofNat c:=by
 rw[ak];unfold u32shl0
 apply UInt32.toNat_inj.1
 rw[Nat.min_eq_left zaa,UInt32.toNat_shiftLeft,Nat.shiftLeft_eq,UInt32.toNat_ofNat']
 have h2:c%2^32%32=c:=zaa
 grind[UInt32.ofInt,UInt32.toNat_ofNat']
theorem zC(a:UInt8):BA a=a.toUInt32:=by rw[nS];rfl
theorem WQ:Ag .or a b=a|||b:=by rw[Qv];rfl
theorem JM:Ag .xor a b=a^^^b:=by rw[Qv];rfl
theorem LJ:Ag .and a b=a&&&b:=by rw[Qv];rfl
theorem Ju:Ag .add a b=a+b:=by rw[Qv];rfl
theorem A4e(x:UInt32){m:UInt64}(s:Nat)(h0:0<s/\s<32)(hk:m.toNat=s):Ag .or (AX x m.toNat) (AP x (Ar .sub (UInt64.ofNat 32) m).toNat)=rQ x s:=by
 have h32:(Ar .sub (UInt64.ofNat 32) m).toNat=32-s:=by
  rw[Dq]
  show(Q7 .sub (UInt64.ofNat 32) m).toNat=32-s
  grind[Q7,UInt64.toNat_sub_of_le,UInt64.le_iff_toNat_le]
 rw[h32,hk,U4 h0.2,Ha zaa,WQ];rfl
theorem A4f(x:UInt32){m:UInt64}(s:Nat)(h0:0<s/\s<32)(hk:m.toNat=s):Ag .or (AP x m.toNat) (AX x (Ar .sub (UInt64.ofNat 32) m).toNat)=OD x s:=by
 have h32:(Ar .sub (UInt64.ofNat 32) m).toNat=32-s:=by
  rw[Dq]
  show(Q7 .sub (UInt64.ofNat 32) m).toNat=32-s
  grind[Q7,UInt64.toNat_sub_of_le,UInt64.le_iff_toNat_le]
 rw[h32,hk,U4 zaa,Ha h0.2,WQ];rfl
theorem oN(l:List UInt8)(k:Nat){a b c d:UInt8}(ha:l[k]?=some a)(hb:l[k+1]?=some b)(hc:l[k+2]?=some c)(hd:l[k+3]?=some d):
  Ag .or (Ag .or (Ag .or (AX (BA a) (UInt64.ofNat 24).toNat) (AX (BA b) (UInt64.ofNat 16).toNat)) (AX (BA c) (UInt64.ofNat 8).toNat)) (BA d)=be32 l k:=by
 simp_all[WQ,zC,U4,be32]
def FP(ws:List UInt32):List AV:=ws.map AV.u32
theorem Dp(h:i<ws.length):List.drop i (FP ws)=.u32 (ws.getD i 0)::List.drop (i+1) (FP ws):=by
 simp_all[List.drop_eq_getElem_cons,FP]
theorem A5t{a b:Nat}(h:a<=b):Nat.ble a b=true:=zau
theorem DV(h:ws.length=n):FP ws=(List.range n).map fun i=>AV.u32 (ws.getD i 0):=by
 subst h;apply List.ext_getElem (by simp[FP]);simp_all[FP]
theorem zD{t:Nat}(h:ws.length=n)(ht:n<=t):FP ws=(List.range n).map fun i=>AV.u32 (ws.getD i 0):=DV h
theorem zF(ws:List UInt32):(FP ws).length=ws.length:=by simp[FP]
theorem LK{x:AV}(h:i<ws.length):Nat.ble (i+[x].length) (FP ws).length=true:=by rw[zF];exact A5t h
theorem zG(h:i<ws.length):(FP ws).take i++[AV.u32 x]++(FP ws).drop (i+1)=FP (ws.set i x):=by
 simp[FP,List.set_eq_take_append_cons_drop,h]
theorem NR{R:Type}{K:List AV->Option R}(h:i<ws.length):IV ((FP ws).take i++[AV.u32 x]++(FP ws).drop (i+[AV.u32 x].length)) K=K (FP (ws.set i x)):=by
 rw[GY];exact congrArg K (zG h)
theorem KW(h:ws.length=n):FP (ws.set i x)=(List.range n).map fun j=>AV.u32 ((ws.set i x).getD j 0):=DV zaJ
end Go.Ax
