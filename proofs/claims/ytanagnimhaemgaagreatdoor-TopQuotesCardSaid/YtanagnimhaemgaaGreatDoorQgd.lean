/-
  Own texts, laid together for this claim: the rules that every walk uses, which claim nothing of any program.
-/
import Derived.OpenShut
import Derived.ChangeSlices
import Derived.Test.YtanagnimhaemgaaGreatDoorQgc
set_option linter.all false
namespace Go.Ax
noncomputable section
open Go Go.RowKit Go.Eng
set_option linter.unusedVariables false
set_option linter.unusedSimpArgs false
def JF:Code->List Bool->Code
 | c,[]=>c
 | .seq a b,x::p|.cond _ a b,x::p=>(match x with|true=>JF b p|false=>JF a p)
 | .block _ c,_::p|.loop c,_::p=>JF c p
 | _,_::_=>.skip
theorem PG:∀(c:Code) (p q:List Bool),JF c (p++q)=JF (JF c p) q:=by
 intro c
 induction c with
 | seq a b iha ihb|cond x a b iha ihb=>intro p q;cases p with|nil=>rfl|cons x p=>cases x<;>simp only[List.cons_append,JF]<;>first|exact iha p q|exact ihb p q
 | block id c ih|loop c ih=>intro p q;cases p with|nil=>rfl|cons x p=>simp_all[JF]
 | _=>intro p q;cases p with|nil=>rfl|cons x p=>(simp only[List.cons_append,JF];cases q<;>simp only[JF])
def Jv(C:CT)(f:Nat):Code:=match cfk f C with
 | some fn=>(match fn.body with|some c=>c|none=>.skip)
 | none=>.skip
def Jw(G:FT)(f:Nat):List (Plc×Plc):=match WA f G with|some fi=>fi.keep|none=>[]
def opsOf:Code->List Oper
 | .region _ ops _=>ops.toList
 | _=>[]
def NK{R:Type}:List Bool->(List Bool->R)->R
 | [],K=>K []
 | true::r,K=>NK r fun r=>K (true::r)
 | false::r,K=>NK r fun r=>K (false::r)
theorem H5{R:Type}:∀(l:List Bool) (K:List Bool->R),NK l K=K l
 | [],K=>rfl
 | true::r,K|false::r,K=>by simp only[NK,H5 r]
def Qh:Code->Nat->Option (List Bool)
 | .seq a b,k|.cond _ a b,k=>bif Nat.blt k (DK a) then(Qh a k).map (false :: ·) else(Qh b (k-DK a)).map (true :: ·)
 | .block _ c,k=>(Qh c k).map (false :: ·)
 | .loop c,k=>bif Nat.beq k 0 then some [false] else(Qh c (k-1)).map (false :: ·)
 | _,_=>none
theorem A2D:∀ {c:Code} {k:Nat} {p:List Bool},Qh c k=some p->Ew c k=some (JF c p):=by
 intro c
 induction c with
 | seq a b iha ihb =>
  intro k p h
  simp only[Qh] at h
  simp only[Ew]
  cases hb:Nat.blt k (DK a) with
  | true=>rw[hb] at h;obtain⟨q,h1,rfl⟩:=Option.map_eq_some_iff.1 h;exact iha h1
  | false=>rw[hb] at h;obtain⟨q,h1,rfl⟩:=Option.map_eq_some_iff.1 h;exact ihb h1
 | cond x a b iha ihb =>
  intro k p h
  simp only[Qh] at h
  simp only[Ew]
  cases hb:Nat.blt k (DK a) with
  | true=>rw[hb] at h;obtain⟨q,h1,rfl⟩:=Option.map_eq_some_iff.1 h;exact iha h1
  | false=>rw[hb] at h;obtain⟨q,h1,rfl⟩:=Option.map_eq_some_iff.1 h;exact ihb h1
 | block id c ih =>
  intro k p h
  simp only[Qh] at h
  obtain⟨q,h1,rfl⟩:=Option.map_eq_some_iff.1 h
  exact ih h1
 | loop c ih =>
  intro k p h
  simp only[Qh] at h
  simp only[Ew]
  cases hb:Nat.beq k 0 with
  | true=>rw[hb] at h;obtain rfl:=Option.some.inj h;simp_all[JF]
  | false=>rw[hb] at h;obtain⟨q,h1,rfl⟩:=Option.map_eq_some_iff.1 h;exact ih h1
 | _=>intro k p h;cases h
inductive Fr where
 | seq (p:List Bool) (k:Nat)
 | blk (id:Nat)
 | ret
 | lup (k:Nat)
structure Fx where
 n:Nat
 f:Nat
 n0:Nat
inductive Rq where
 | call (f:Nat) (args:List AV) (H:List Rs)
 | loop (f k n0 m:Nat) (L:LX) (H:HX)
 | code (X:Fx) (p:List Bool) (k:Nat) (fr:List Fr) (m:Nat) (L:LX) (H:HX)
 | nxt (X:Fx) (e:Exit) (fr:List Fr) (m:Nat) (L:LX) (H:HX)
 | ops (X:Fx) (p:List Bool) (i:Nat) (fr:List Fr) (m:Nat) (L:LX) (H:HX)
 | one (X:Fx) (p:List Bool) (i:Nat) (fr:List Fr) (m:Nat) (L:LX) (H:HX)
 | drw (X:Fx) (p:List Bool) (i:Nat) (tr:List Tr) (fr:List Fr) (m:Nat) (L:LX) (H:HX)
 | drw1 (X:Fx) (p:List Bool) (i:Nat) (tr:List Tr) (fr:List Fr) (m:Nat) (L:LX) (H:HX)
abbrev Oyr:=Rq->Option Rsp
def CP(Q:Oyr):Orc:=fun q=>match q with
 | .call f a H=>Q (.call f a H)
 | .loop f k n0 m L H=>Q (.loop f k n0 m L H)
theorem Ak(Q:Oyr)(f:Nat)(a:List AV)(H:List Rs):CP Q (.call f a H)=Q (.call f a H):=rfl
theorem EQ(Q:Oyr)(f k n0 m:Nat)(L:LX)(H:HX):CP Q (.loop f k n0 m L H)=Q (.loop f k n0 m L H):=rfl
def VV{R:Type}(d:Option Nat)(s:AV)(L:LX)(K:LX->R):R:=match d with
 | some d=>K ((d,s)::L)
 | none=>K L
theorem Xj{R:Type}(d:Option Nat)(s:AV)(L:LX)(K:LX->R):VV d s L K=K (WB d s L):=by cases d<;>rfl
theorem A5X{R:Type}(d:Option Nat)(s:AV)(L:LX)(K:LX->R):VV d s L K=K (match d with|some d=>(d,s)::L|none=>L):=by cases d<;>rfl
def quiet:Op->Bool
 | .move _|.assign _|.nilCheck _|.extract _ _|.unOp _ _ _=>true
 | .binOp op _ _ _ _=>(match op with|.quo=>false|.rem=>false|.shl=>false|.shr=>false|_=>true)
 | .convert _ _ _|.alloc _|.box _ _|.load _ _|.store _ _ _|.fieldAddr _ _ _|.field _ _ _|.build _ _|.makeFunc _ _ _=>true
 | .call {callee:=.builtin b,..}=>(match b with|.len=>true|.min=>true|.max=>true|_=>false)
 | _=>false
def A87(E:Env)(X:Fx)(m:Nat)(L:LX)(H:HX):Option Rsp:=match cfk X.f E.C,WA X.f E.G with
 | some fn,some fi=>A7z E.T fi X.n0 fn.results.toList m L H
 | _,_=>none
def TP(E:Env)(Qc:Orc)(Q:Oyr)(X:Fx):List Fr->Exit->Nat->LX->HX->Option Rsp
 | [],_,_,_,_=>none
 | .seq p k::fr,e,m,L,H=>(match e with
  | .normal=>Q (.code X p k fr m L H)
  | e=>TP E Qc Q X fr e m L H)
 | .blk id::fr,e,m,L,H=>(match e with
  | .exit id'=>bif Nat.beq id' id then TP E Qc Q X fr .normal m L H else TP E Qc Q X fr (.exit id') m L H
  | e=>TP E Qc Q X fr e m L H)
 | .ret::_,e,m,L,H=>(match e with
  | .normal|.ret=>A87 E X m L H
  | _=>none)
 | .lup k::_,e,m,L,H=>(match(Jw E.G X.f)[k]? with
  | some kp=>(match e with
   | .normal=>NI kp.1 X.n0 m L H fun m L H=>Qc (.loop X.f k X.n0 m L H)
   | e=>NI kp.2 X.n0 m L H fun m L H=>some (.fin e m L H))
  | none=>none)
def WF(E:Env)(Qc:Orc)(Q:Oyr)(X:Fx)(p:List Bool)(fr:List Fr):List Oper->Nat->Nat->LX->HX->Option Rsp
 | [],i,m,L,H=>TP E Qc Q X fr .normal m L H
 | o::r,i,m,L,H=>match o.guard with
  | none=>bif X8 X.n o.dst then addN 1 i fun i=>(bif quiet o.op
    then II (E.tt X.f) E.G Qc (FB L) (fun k=>hlk k H) m o.op fun t=>IX o.dst t m L H fun m L H=>WF E Qc Q X p fr r i m L H
    else II (E.tt X.f) E.G Qc (FB L) (fun k=>hlk k H) m o.op fun t=>IX o.dst t m L H fun m L H=>Q (.ops X p i fr m L H)) else none
  | some (j,want)=>(match((opsOf (JF (Jv E.C X.f) p))[j]?).bind (·.dst) with
   | some d'=>(match J5 d' L with
    | some (.b c)=>bif X8 X.n o.dst&&Nat.blt d' X.n then
      (addN 1 i fun i1=>bif c then
       bif want then Q (.one X p i fr m ((d',.b true)::L) H)
       else VV o.dst (.tup []) ((d',.b true)::L) fun L=>Q (.ops X p i1 fr m L H)
      else
       bif want then VV o.dst (.tup []) ((d',.b false)::L) fun L=>Q (.ops X p i1 fr m L H)
       else Q (.one X p i fr m ((d',.b false)::L) H))
     else none
    | some (.tup [])=>bif X8 X.n o.dst&&Nat.blt d' X.n then addN 1 i fun i=>VV o.dst (.tup []) L fun L=>WF E Qc Q X p fr r i m L H else none
    | _=>none)
   | none=>none)
def Uo(E:Env)(Qc:Orc)(Q:Oyr)(X:Fx)(p:List Bool)(fr:List Fr):List Oper->Nat->List Tr->Nat->LX->HX->Option Rsp
 | [],i,tr,m,L,H=>bif AA X.n (opsOf (JF (Jv E.C X.f) p)).toArray tr then Q (.nxt X .normal fr m L H) else none
 | o::r,i,tr,m,L,H=>match o.guard with
  | none=>Ij (o.looksAt (opsOf (JF (Jv E.C X.f) p)).toArray) fun lk=>JE (iV lk L) fun L'=>addN 1 i fun i=>(bif quiet o.op
    then II (E.tt X.f) E.G Qc (FB L') (fun k=>hlk k H) m o.op fun t=>IX o.dst t m L H fun m L H=>Uo E Qc Q X p fr r i (tr++[t]) m L H
    else II (E.tt X.f) E.G Qc (FB L') (fun k=>hlk k H) m o.op fun t=>IX o.dst t m L H fun m L H=>Q (.drw X p i (tr++[t]) fr m L H))
  | some (j,want)=>(match((opsOf (JF (Jv E.C X.f) p))[j]?).bind (·.dst) with
   | some d'=>(match J5 d' L with
    | some (.b c)=>addN 1 i fun i1=>bif c then
      bif want then Q (.drw1 X p i tr fr m L H)
      else VV o.dst (.tup []) L fun L=>Q (.drw X p i1 (tr++[⟨.tup [],[],[],true,0⟩]) fr m L H)
     else
      bif want then VV o.dst (.tup []) L fun L=>Q (.drw X p i1 (tr++[⟨.tup [],[],[],true,0⟩]) fr m L H)
      else Q (.drw1 X p i tr fr m L H)
    | some (.tup [])=>addN 1 i fun i=>VV o.dst (.tup []) L fun L=>Uo E Qc Q X p fr r i (tr++[⟨.tup [],[],[],true,0⟩]) m L H
    | _=>none)
   | none=>none)
def IL(E:Env)(Qc:Orc)(Qs Q:Oyr)(X:Fx):Code->List Bool->Nat->List Fr->Nat->LX->HX->Option Rsp
 | .skip,p,k,fr,m,L,H|.label _,p,k,fr,m,L,H=>TP E Qc Q X fr .normal m L H
 | .seq a b,p,k,fr,m,L,H=>addN k (DK a) fun k2=>NK (p++[true]) fun p2=>IL E Qc Qs Q X a (p++[false]) k (.seq p2 k2::fr) m L H
 | .cond c a b,p,k,fr,m,L,H=>addN 0 k fun k=>addN k (DK a) fun k2=>NK (p++[false]) fun p1=>NK (p++[true]) fun p2=>(match FB L c with
  | some (.b t)=>bif t then Q (.code X p1 k fr m L H) else Q (.code X p2 k2 fr m L H)
  | _=>none)
 | .block id c,p,k,fr,m,L,H=>IL E Qc Qs Q X c (p++[false]) k (.blk id::fr) m L H
 | .exit id,p,k,fr,m,L,H=>TP E Qc Q X fr (.exit id) m L H
 | .ret,p,k,fr,m,L,H=>TP E Qc Q X fr .ret m L H
 | .region id ops false,p,k,fr,m,L,H=>NK p fun p=>NI (VS E.G X.f id) X.n0 m L H fun m L H=>bif (VS E.G X.f id).meet then Qs (.ops X p 0 fr m L H) else WF E Qc Q X p fr ops.toList 0 m L H
 | .region id ops true,p,k,fr,m,L,H=>NK p fun p=>NI (VS E.G X.f id) X.n0 m L H fun m L H=>bif (VS E.G X.f id).meet then Qs (.drw X p 0 [] fr m L H) else Uo E Qc Q X p fr ops.toList 0 [] m L H
 | .loop c,p,k,fr,m,L,H=>addN 0 k fun k=>(match(Jw E.G X.f)[k]? with
  | some kp=>NI kp.1 X.n0 m L H fun m L H=>(Qc (.loop X.f k X.n0 m L H)).bind fun r=>match r with
   | .fin e m L H=>Q (.nxt X e fr m L H)
   | _=>none
  | none=>none)
 | _,_,_,_,_,_,_=>none
def Bi(E:Env)(Qc:Orc)(Qs Q:Oyr)(q:Rq):Option Rsp:=match q with
 | .call f args H=>(match E.ov (.call f args H) with
  | some r=>some r
  | none=>(match cfk f E.C,WA f E.G with
   | some fn,some _=>(match fn.body with
    | some _=>bif Nat.ble args.length fn.ntmps then addN 0 fn.ntmps fun n=>addN 0 H.length fun n0=>Q (.code ⟨n,f,n0⟩ [] 0 [.ret] n0 (argX 0 args) (hOf 0 H)) else none
    | none=>none)
   | _,_=>none))
 | .loop f k n0 m L H=>(match E.ov (.loop f k n0 m L H) with
  | some r=>some r
  | none=>addN 0 n0 fun n0=>(match cfk f E.C,WA f E.G with
   | some fn,some fi=>(match fn.body,fi.keep[k]? with
    | some c,some _=>(match Qh c k with
     | some p=>addN 0 fn.ntmps fun n=>NK p fun p=>Q (.code ⟨n,f,n0⟩ p (k+1) [.lup k] m L H)
     | none=>none)
    | _,_=>none)
   | _,_=>none))
 | .code X p k fr m L H=>IL E Qc Qs Q X (JF (Jv E.C X.f) p) p k fr m L H
 | .nxt X e fr m L H=>TP E Qc Q X fr e m L H
 | .ops X p i fr m L H=>WF E Qc Q X p fr ((opsOf (JF (Jv E.C X.f) p)).drop i) i m L H
 | .one X p i fr m L H=>(match(opsOf (JF (Jv E.C X.f) p))[i]? with
  | some o=>addN 1 i fun i=>II (E.tt X.f) E.G Qc (FB L) (fun k=>hlk k H) m o.op fun t=>IX o.dst t m L H fun m L H=>Q (.ops X p i fr m L H)
  | none=>none)
 | .drw X p i tr fr m L H=>Uo E Qc Q X p fr ((opsOf (JF (Jv E.C X.f) p)).drop i) i tr m L H
 | .drw1 X p i tr fr m L H=>(match(opsOf (JF (Jv E.C X.f) p))[i]? with
  | some o=>Ij (o.looksAt (opsOf (JF (Jv E.C X.f) p)).toArray) fun lk=>JE (iV lk L) fun L'=>addN 1 i fun i=>II (E.tt X.f) E.G Qc (FB L') (fun k=>hlk k H) m o.op fun t=>IX o.dst t m L H fun m L H=>Q (.drw X p i (tr++[t]) fr m L H)
  | none=>none)
def PH(Q Q':Oyr):Prop:=∀ q r,Q q=some r->Q' q=some r
section
variable {E:Env}{Qc Qc':Orc}{Q Q' Qs Qs':Oyr}{X:Fx}{r:Rsp}
theorem qg(h:PH Q Q'):ZM (CP Q) (CP Q'):=by
 intro q r
 cases q with
 | call f a H|loop f k n0 m L H=>exact h _ _
theorem Jy(hc:ZM Qc Qc')(h:PH Q Q'):∀(fr:List Fr) {e:Exit} {m:Nat} {L:LX} {H:HX},TP E Qc Q X fr e m L H=some r->TP E Qc' Q' X fr e m L H=some r
 | [],e,m,L,H=>id
 | .seq p k::fr,e,m,L,H=>by
  cases e<;>first|exact h (.code X p k fr m L H) r|exact Jy hc h fr
 | .blk id::fr,e,m,L,H=>by
  cases e<;>first|exact Az (Jy hc h fr) (Jy hc h fr)|exact Jy hc h fr
 | .ret::fr,e,m,L,H=>by cases e<;>exact id
 | .lup k::fr,e,m,L,H=>by
  simp only[TP]
  generalize (Jw E.G X.f)[k]?=z
  cases z with
  | none=>exact id
  | some kp=>cases e<;>first|exact GN fun m L H=>hc (.loop X.f k X.n0 m L H) r|exact id
theorem QH(hc:ZM Qc Qc')(h:PH Q Q'){p:List Bool}{fr:List Fr}:∀(l:List Oper) {i m:Nat} {L:LX} {H:HX},WF E Qc Q X p fr l i m L H=some r->WF E Qc' Q' X p fr l i m L H=some r
 | [],i,m,L,H=>by grind[WF,Jy]
 | o::l,i,m,L,H=>by
  rw[WF,WF]
  simp only[DX,Xj]
  split
  ·exact Az (Az (ED hc fun t=>EE fun m L H=>QH hc h l) (ED hc fun t=>EE fun m L H=>h _ _)) id
  ·split
   ·split
    ·exact Az (Az (Az (h _ _) (h _ _)) (Az (h _ _) (h _ _))) id
    ·exact Az (QH hc h l) id
    ·exact id
   ·exact id
theorem QI(hc:ZM Qc Qc')(h:PH Q Q'){p:List Bool}{fr:List Fr}:∀(l:List Oper) {i:Nat} {tr:List Tr} {m:Nat} {L:LX} {H:HX},Uo E Qc Q X p fr l i tr m L H=some r->Uo E Qc' Q' X p fr l i tr m L H=some r
 | [],i,tr,m,L,H=>by rw[Uo,Uo];exact Az (h _ _) id
 | o::l,i,tr,m,L,H=>by
  rw[Uo,Uo]
  simp only[DX,EO,ET,Xj]
  split
  ·exact Az (ED hc fun t=>EE fun m L H=>QI hc h l) (ED hc fun t=>EE fun m L H=>h _ _)
  ·split
   ·split
    ·exact Az (Az (h _ _) (h _ _)) (Az (h _ _) (h _ _))
    ·exact QI hc h l
    ·exact id
   ·exact id
theorem qh(hc:ZM Qc Qc')(hs:PH Qs Qs')(h:PH Q Q'):∀(c:Code) {p:List Bool} {k:Nat} {fr:List Fr} {m:Nat} {L:LX} {H:HX},IL E Qc Qs Q X c p k fr m L H=some r->IL E Qc' Qs' Q' X c p k fr m L H=some r:=by
 intro c
 induction c with
 | skip|label l|exit id|ret=>intro p k fr m L H;exact Jy hc h fr
 | seq a b iha ihb=>simp_all[IL,DX,H5]
 | block id c ih=>simp_all[IL]
 | cond x a b iha ihb =>
  intro p k fr m L H
  rw[IL,IL]
  simp only[DX,H5]
  split
  ·exact Az (h _ _) (h _ _)
  ·exact id
 | region id ops b =>
  intro p k fr m L H
  cases b with
  | false=>rw[IL,IL];simp only[H5];exact GN fun m L H=>Az (hs _ _) (QH hc h _)
  | true=>rw[IL,IL];simp only[H5];exact GN fun m L H=>Az (hs _ _) (QI hc h _)
 | loop c ih =>
  intro p k fr m L H
  rw[IL,IL]
  simp only[DX,Nat.zero_add]
  split
  ·refine GN fun m L H hh=>?_
   obtain⟨x,h1,h2⟩:=Option.bind_eq_some_iff.1 hh
   rw[hc _ _ h1]
   simp only[Option.bind_some]
   revert h2
   split
   ·exact h _ _
   ·exact id
  ·exact id
 | _=>simp_all[IL]
theorem qj(hc:ZM Qc Qc')(hs:PH Qs Qs')(h:PH Q Q'):PH (Bi E Qc Qs Q) (Bi E Qc' Qs' Q'):=by
 intro q r
 cases q with
 | call f args H =>
  simp only[Bi,DX]
  split
  ·exact id
  ·split
   ·split
    ·exact Az (h _ _) id
    ·exact id
   ·exact id
 | loop f k n0 m L H =>
  simp only[Bi,DX,H5]
  split
  ·exact id
  ·split
   ·split
    ·split
     ·exact h _ _
     ·exact id
    ·exact id
   ·exact id
 | code X p k fr m L H=>exact qh hc hs h _
 | nxt X e fr m L H=>exact Jy hc h fr
 | ops X p i fr m L H=>exact QH hc h _
 | one X p i fr m L H =>
  simp only[Bi,DX]
  split
  ·exact ED hc fun t=>EE fun m L H=>h _ _
  ·exact id
 | drw X p i tr fr m L H=>exact QI hc h _
 | drw1 X p i tr fr m L H =>
  simp only[Bi,EO,ET,DX]
  split
  ·exact ED hc fun t=>EE fun m L H=>h _ _
  ·exact id
end
def Y(E:Env)(q:Rq):Option Rsp:=Bi E (CP (Y E)) (Y E) (Y E) q
partial_fixpoint monotonicity by
 intro F1 F2 h q
 have hQ:PH F1 F2:=fun q r hq=>by
  have hr:=h q
  generalize F2 q=z at hr ⊢
  generalize F1 q=y at hr hq
  subst hq
  cases hr
  rfl
 have hm:=qj (E:=E) (qg hQ) hQ hQ q
 dsimp only
 generalize Bi E (CP F2) F2 F2 q=z at hm ⊢
 generalize Bi E (CP F1) F1 F1 q=y at hm ⊢
 cases y with
 | none=>exact .bot
 | some r=>grind
abbrev cdA(E:Env)(X:Fx)(p:List Bool):Code:=JF (Jv E.C X.f) p
abbrev Qi(E:Env)(X:Fx)(p:List Bool):List Oper:=opsOf (cdA E X p)
def KF(E:Env)(X:Fx):List Fr->Exit->Nat->LX->HX->Option Rsp
 | [],_,_,_,_=>none
 | .seq p k::fr,e,m,L,H=>(match e with
  | .normal=>OY (E.tt X.f) E.G (F E) X.n X.f X.n0 (Jw E.G X.f) (cdA E X p) k m L H (KF E X fr)
  | e=>KF E X fr e m L H)
 | .blk id::fr,e,m,L,H=>(match e with
  | .exit id'=>bif Nat.beq id' id then KF E X fr .normal m L H else KF E X fr (.exit id') m L H
  | e=>KF E X fr e m L H)
 | .ret::_,e,m,L,H=>(match e with
  | .normal|.ret=>A87 E X m L H
  | _=>none)
 | .lup k::_,e,m,L,H=>(match(Jw E.G X.f)[k]? with
  | some kp=>(match e with
   | .normal=>NI kp.1 X.n0 m L H fun m L H=>F E (.loop X.f k X.n0 m L H)
   | e=>NI kp.2 X.n0 m L H fun m L H=>some (.fin e m L H))
  | none=>none)
def den(E:Env):Rq->Option Rsp
 | .call f args H=>F E (.call f args H)
 | .loop f k n0 m L H=>F E (.loop f k n0 m L H)
 | .code X p k fr m L H=>OY (E.tt X.f) E.G (F E) X.n X.f X.n0 (Jw E.G X.f) (cdA E X p) k m L H (KF E X fr)
 | .nxt X e fr m L H=>KF E X fr e m L H
 | .ops X p i fr m L H=>Iy (E.tt X.f) E.G (F E) X.n (Qi E X p) ((Qi E X p).drop i) m L H fun m L H=>KF E X fr .normal m L H
 | .one X p i fr m L H=>(match(Qi E X p)[i]? with
  | some o=>II (E.tt X.f) E.G (F E) (FB L) (fun k=>hlk k H) m o.op fun t=>IX o.dst t m L H fun m L H=>Iy (E.tt X.f) E.G (F E) X.n (Qi E X p) ((Qi E X p).drop (1+i)) m L H fun m L H=>KF E X fr .normal m L H
  | none=>none)
 | .drw X p i tr fr m L H=>IK (E.tt X.f) E.G (F E) (Qi E X p) ((Qi E X p).drop i) tr m L H fun tr m L H=>bif AA X.n (Qi E X p).toArray tr then KF E X fr .normal m L H else none
 | .drw1 X p i tr fr m L H=>(match(Qi E X p)[i]? with
  | some o=>Ij (o.looksAt (Qi E X p).toArray) fun lk=>JE (iV lk L) fun L'=>II (E.tt X.f) E.G (F E) (FB L') (fun k=>hlk k H) m o.op fun t=>IX o.dst t m L H fun m L H=>IK (E.tt X.f) E.G (F E) (Qi E X p) ((Qi E X p).drop (1+i)) (tr++[t]) m L H fun tr m L H=>bif AA X.n (Qi E X p).toArray tr then KF E X fr .normal m L H else none
  | none=>none)
section
variable {E:Env}{Qc:Orc}{Q Qs:Oyr}{X:Fx}{r:Rsp}
theorem yl(h:PH Q (den E)):ZM (CP Q) (F E):=by
 intro q r
 cases q with
 | call f a H=>exact h (.call f a H) r
 | loop f k n0 m L H=>exact h (.loop f k n0 m L H) r
theorem MC(hc:ZM Qc (F E))(h:PH Q (den E)):∀(fr:List Fr) {e:Exit} {m:Nat} {L:LX} {H:HX},TP E Qc Q X fr e m L H=some r->KF E X fr e m L H=some r
 | [],e,m,L,H=>id
 | .seq p k::fr,e,m,L,H=>by
  cases e<;>first|exact h (.code X p k fr m L H) r|exact MC hc h fr
 | .blk id::fr,e,m,L,H=>by
  cases e<;>first|exact Az (MC hc h fr) (MC hc h fr)|exact MC hc h fr
 | .ret::fr,e,m,L,H=>by cases e<;>exact id
 | .lup k::fr,e,m,L,H=>by
  simp only[TP,KF]
  generalize (Jw E.G X.f)[k]?=z
  cases z with
  | none=>exact id
  | some kp=>cases e<;>first|exact GN fun m L H=>hc (.loop X.f k X.n0 m L H) r|exact id
theorem vW{α:Type}{l t:List α}{i:Nat}{o:α}(h:l.drop i=o::t):l[i]?=some o/\l.drop (1+i)=t:=by
 constructor
 ·have:=congrArg (fun z=>z[0]?) h
  grind
 ·have:=congrArg (fun z=>z.drop 1) h
  grind[List.drop_drop]
theorem TQ(hc:ZM Qc (F E))(h:PH Q (den E)){p:List Bool}{fr:List Fr}:∀(l:List Oper) {i m:Nat} {L:LX} {H:HX},(Qi E X p).drop i=l->WF E Qc Q X p fr l i m L H=some r->Iy (E.tt X.f) E.G (F E) X.n (Qi E X p) l m L H (fun m L H=>KF E X fr .normal m L H)=some r
 | [],i,m,L,H,_=>by grind[WF,Iy,MC]
 | o::l,i,m,L,H,hl=>by
  obtain⟨h1,h2⟩:=vW hl
  have hops:∀ {m L H},Q (.ops X p (1+i) fr m L H)=some r->Iy (E.tt X.f) E.G (F E) X.n (Qi E X p) l m L H (fun m L H=>KF E X fr .normal m L H)=some r:=fun hh=>by
   have:=h _ _ hh
   simp_all[den]
  have hone:∀ {m L H},Q (.one X p i fr m L H)=some r->(II (E.tt X.f) E.G (F E) (FB L) (fun k=>hlk k H) m o.op fun t=>IX o.dst t m L H fun m L H=>Iy (E.tt X.f) E.G (F E) X.n (Qi E X p) l m L H fun m L H=>KF E X fr .normal m L H)=some r:=fun hh=>by
   have:=h _ _ hh
   simp_all[den]
  rw[WF,Iy]
  simp only[DX,A5X]
  generalize o.guard=g
  cases g with
  | none =>
   refine Az (fun hh=>?_) id
   cases hq:quiet o.op with
   | true =>
    rw[hq,cond_true] at hh
    exact ED hc (fun t=>EE fun m L H=>TQ hc h l h2) hh
   | false =>
    rw[hq,cond_false] at hh
    exact ED hc (fun t=>EE fun m L H=>hops) hh
  | some q =>
   obtain⟨j,want⟩:=q
   simp only
   generalize ((Qi E X p)[j]?).bind (·.dst)=x
   cases x with
   | none=>exact id
   | some d' =>
    simp only
    generalize J5 d' L=y
    match y with
    | some (.b c)=>grind
    | some (.tup [])=>exact Az (TQ hc h l h2) id
    | none|some .un|some (.i _)|some (.u8 _)|some (.u32 _)|some (.u64 _)|some (.str _)|some (.sl _ _)|some (.st _ _)|some (.sn _ _)|some .nil|some (.gp _)|some (.nm _)|some (.pa _ _)|some (.pe _ _ _ _)|some (.vs _ _ _ _)|some (.pt _)|some (.agg _)|some (.tup (_::_))|some (.fn _ _ _)=>exact fun hh=>by cases hh
theorem TR(hc:ZM Qc (F E))(h:PH Q (den E)){p:List Bool}{fr:List Fr}:∀(l:List Oper) {i:Nat} {tr:List Tr} {m:Nat} {L:LX} {H:HX},(Qi E X p).drop i=l->Uo E Qc Q X p fr l i tr m L H=some r->IK (E.tt X.f) E.G (F E) (Qi E X p) l tr m L H (fun tr m L H=>bif AA X.n (Qi E X p).toArray tr then KF E X fr .normal m L H else none)=some r
 | [],i,tr,m,L,H,_=>by rw[Uo,IK];exact Az (h (.nxt X .normal fr m L H) r) id
 | o::l,i,tr,m,L,H,hl=>by
  obtain⟨h1,h2⟩:=vW hl
  have hops:∀ {tr m L H},Q (.drw X p (1+i) tr fr m L H)=some r->IK (E.tt X.f) E.G (F E) (Qi E X p) l tr m L H (fun tr m L H=>bif AA X.n (Qi E X p).toArray tr then KF E X fr .normal m L H else none)=some r:=fun hh=>by
   have:=h _ _ hh
   simp_all[den]
  have hone:∀ {tr m L H},Q (.drw1 X p i tr fr m L H)=some r->(II (E.tt X.f) E.G (F E) (FB (iV (o.looksAt (Qi E X p).toArray) L)) (fun k=>hlk k H) m o.op fun t=>IX o.dst t m L H fun m L H=>IK (E.tt X.f) E.G (F E) (Qi E X p) l (tr++[t]) m L H (fun tr m L H=>bif AA X.n (Qi E X p).toArray tr then KF E X fr .normal m L H else none))=some r:=fun hh=>by
   have:=h _ _ hh
   simp_all[den,EO,ET]
  rw[Uo,IK]
  simp only[DX,EO,ET,Xj]
  generalize o.guard=g
  cases g with
  | none =>
   intro hh
   cases hq:quiet o.op with
   | true =>
    rw[hq,cond_true] at hh
    exact ED hc (fun t=>EE fun m L H=>TR hc h l h2) hh
   | false =>
    rw[hq,cond_false] at hh
    exact ED hc (fun t=>EE fun m L H=>hops) hh
  | some q =>
   obtain⟨j,want⟩:=q
   simp only
   generalize ((Qi E X p)[j]?).bind (·.dst)=x
   cases x with
   | none=>exact id
   | some d' =>
    simp only
    generalize J5 d' L=y
    match y with
    | some (.b c)=>grind
    | some (.tup [])=>exact TR hc h l h2
    | none|some .un|some (.i _)|some (.u8 _)|some (.u32 _)|some (.u64 _)|some (.str _)|some (.sl _ _)|some (.st _ _)|some (.sn _ _)|some .nil|some (.gp _)|some (.nm _)|some (.pa _ _)|some (.pe _ _ _ _)|some (.vs _ _ _ _)|some (.pt _)|some (.agg _)|some (.tup (_::_))|some (.fn _ _ _)=>exact fun hh=>by cases hh
theorem A2E(c:Code):JF c []=c:=by simp_all[JF]
theorem yu(hc:ZM Qc (F E))(hs:PH Qs (den E))(h:PH Q (den E)):∀(c:Code) {p:List Bool} {k:Nat} {fr:List Fr} {m:Nat} {L:LX} {H:HX},cdA E X p=c->IL E Qc Qs Q X c p k fr m L H=some r->OY (E.tt X.f) E.G (F E) X.n X.f X.n0 (Jw E.G X.f) c k m L H (KF E X fr)=some r:=by
 intro c
 induction c with
 | skip|label l|exit id|ret=>intro p k fr m L H _;exact MC hc h fr
 | seq a b iha ihb =>
  intro p k fr m L H hcd hh
  rw[IL] at hh
  simp only[DX,H5] at hh
  have ha:cdA E X (p++[false])=a:=zbl
  have hb:cdA E X (p++[true])=b:=zbl
  have:=iha ha hh
  rw[OY]
  refine Nl (fun _ _ h=>h) a (fun e m L H=>?_) this
  grind[KF]
 | block id c ih =>
  intro p k fr m L H hcd hh
  rw[IL] at hh
  have ha:cdA E X (p++[false])=c:=zbl
  have:=ih ha hh
  rw[OY]
  refine Nl (fun _ _ h=>h) c (fun e m L H=>?_) this
  cases e<;>exact _root_.id
 | cond x a b iha ihb =>
  intro p k fr m L H hcd
  have ha:cdA E X (p++[false])=a:=zbl
  have hb:cdA E X (p++[true])=b:=zbl
  rw[IL,OY]
  simp only[DX,H5,Nat.zero_add]
  generalize FB L x=y
  match y with
  | some (.b c)=>exact Az (fun hh=>by have:=h _ _ hh;simp_all[den]) (fun hh=>by have:=h _ _ hh;simp_all[den])
  | none|some .un|some (.i _)|some (.u8 _)|some (.u32 _)|some (.u64 _)|some (.str _)|some (.sl _ _)|some (.st _ _)|some (.sn _ _)|some .nil|some (.gp _)|some (.nm _)|some (.pa _ _)|some (.pe _ _ _ _)|some (.vs _ _ _ _)|some (.pt _)|some (.agg _)|some (.tup _)|some (.fn _ _ _)=>exact fun hh=>by cases hh
 | region id ops b =>
  intro p k fr m L H hcd
  have ho:Qi E X p=ops.toList:=by unfold Qi;rw[hcd];rfl
  cases b with
  | false =>
   rw[IL,OY];simp only[H5]
   refine GN fun m L H hh=>?_
   revert hh
   cases (VS E.G X.f id).meet with
   | true =>
    intro hh
    have:=hs _ _ hh
    simp_all[den]
   | false =>
    intro hh
    have:=TQ hc h ops.toList (p:=p) (fr:=fr) zay hh
    simp_all
  | true =>
   rw[IL,OY];simp only[H5]
   refine GN fun m L H hh=>?_
   revert hh
   cases (VS E.G X.f id).meet with
   | true =>
    intro hh
    have:=hs _ _ hh
    simp_all[den]
   | false =>
    intro hh
    have:=TR hc h ops.toList (p:=p) (fr:=fr) zay hh
    simp_all
 | loop c ih =>
  intro p k fr m L H hcd
  rw[IL,OY]
  simp only[DX,Nat.zero_add]
  generalize (Jw E.G X.f)[k]?=z
  cases z with
  | none=>exact id
  | some kp =>
   refine GN fun m L H hh=>?_
   obtain⟨x,h1,h2⟩:=Option.bind_eq_some_iff.1 hh
   rw[show F E (.loop X.f k X.n0 m L H)=some x from hc (.loop X.f k X.n0 m L H) x h1]
   simp only[Option.bind_some]
   cases x with
   | fin e m L H=>exact h (.nxt X e fr m L H) r h2
   | ret s H=>cases h2
 | _=>simp_all[IL]
theorem A9Y:∀ q r,Y E q=some r->den E q=some r:=by
 refine Y.partial_correctness E _ fun Q hQ q r hr=>?_
 have h:PH Q (den E):=hQ
 have hc:=yl h
 cases q with
 | call f args H =>
  rw[den,F.eq_1]
  simp only[Bi,DX,Nat.zero_add] at hr
  unfold P8
  split at hr
  ·simp_all
  ·rename_i ho
   rw[ho]
   simp only[DX,Nat.zero_add]
   split at hr
   ·rename_i fn fi hcf hfi
    rw[hcf,hfi]
    simp only
    split at hr
    ·rename_i c hb
     rw[hb]
     simp only
     revert hr
     refine Az (fun hr=>?_) id
     have:=h _ _ hr
     have e1:cdA E ⟨fn.ntmps,f,H.length⟩ []=c:=by simp_all[Jv,A2E]
     have e2:Jw E.G f=fi.keep:=by grind[Jw]
     rw[den,e1] at this
     simp only[e2] at this
     refine Nl (fun _ _ h=>h) c (fun e m L H=>?_) this
     grind[KF,A87]
    ·cases hr
   ·cases hr
 | loop f k n0 m L H =>
  rw[den,F.eq_1]
  simp only[Bi,DX,Nat.zero_add,H5] at hr
  unfold P8
  split at hr
  ·simp_all
  ·rename_i ho
   rw[ho]
   simp only
   split at hr
   ·rename_i fn fi hcf hfi
    rw[hcf,hfi]
    simp only
    split at hr
    ·rename_i c kp hb hkp
     rw[hb,hkp]
     simp only
     split at hr
     ·rename_i p hl
      rw[A2D hl]
      simp only
      have:=h _ _ hr
      have e1:cdA E ⟨fn.ntmps,f,n0⟩ p=JF c p:=by simp_all[cdA,Jv]
      have e2:Jw E.G f=fi.keep:=by grind[Jw]
      rw[den,e1] at this
      simp only[e2] at this
      refine Nl (fun _ _ h=>h) _ (fun e m L H=>?_) this
      grind[KF]
     ·cases hr
    ·cases hr
   ·cases hr
 | code X p k fr m L H=>exact yu hc h h _ rfl hr
 | nxt X e fr m L H=>exact MC hc h fr hr
 | ops X p i fr m L H=>exact TQ hc h _ rfl hr
 | one X p i fr m L H =>
  rw[den]
  simp only[Bi,DX] at hr
  show(match(Qi E X p)[i]? with|some o=>_|none=>none)=some r
  generalize (Qi E X p)[i]?=z at hr ⊢
  cases z with
  | none=>cases hr
  | some o=>exact ED hc (fun t=>EE fun m L H=>h (.ops X p (1+i) fr m L H) r) hr
 | drw X p i tr fr m L H=>exact TR hc h _ rfl hr
 | drw1 X p i tr fr m L H =>
  rw[den]
  simp only[Bi,DX,EO,ET] at hr ⊢
  generalize hz:(Qi E X p)[i]?=z at hr ⊢
  cases z with
  | none=>cases hr
  | some o=>exact ED hc (fun t=>EE fun m L H=>h (.drw X p (1+i) _ fr m L H) r) hr
def Y1(E:Env)(q:Rq):Option Rsp:=Bi E (CP (Y E)) (Y E) (Y E) q
def Y2(E:Env)(q:Rq):Option Rsp:=Bi E (CP (Y E)) (Y E) (Y1 E) q
def Y3(E:Env)(q:Rq):Option Rsp:=Bi E (CP (Y E)) (Y E) (Y2 E) q
def Y4(E:Env)(q:Rq):Option Rsp:=Bi E (CP (Y E)) (Y E) (Y3 E) q
def Y5(E:Env)(q:Rq):Option Rsp:=Bi E (CP (Y E)) (Y E) (Y4 E) q
def Y6(E:Env)(q:Rq):Option Rsp:=Bi E (CP (Y E)) (Y E) (Y5 E) q
def Y7(E:Env)(q:Rq):Option Rsp:=Bi E (CP (Y E)) (Y E) (Y6 E) q
def Y8(E:Env)(q:Rq):Option Rsp:=Bi E (CP (Y E)) (Y E) (Y7 E) q
def Y9(E:Env)(q:Rq):Option Rsp:=Bi E (CP (Y E)) (Y E) (Y8 E) q
def Y10(E:Env)(q:Rq):Option Rsp:=Bi E (CP (Y E)) (Y E) (Y9 E) q
def Y11(E:Env)(q:Rq):Option Rsp:=Bi E (CP (Y E)) (Y E) (Y10 E) q
def Y12(E:Env)(q:Rq):Option Rsp:=Bi E (CP (Y E)) (Y E) (Y11 E) q
def Y13(E:Env)(q:Rq):Option Rsp:=Bi E (CP (Y E)) (Y E) (Y12 E) q
def Y14(E:Env)(q:Rq):Option Rsp:=Bi E (CP (Y E)) (Y E) (Y13 E) q
def Y15(E:Env)(q:Rq):Option Rsp:=Bi E (CP (Y E)) (Y E) (Y14 E) q
def Y16(E:Env)(q:Rq):Option Rsp:=Bi E (CP (Y E)) (Y E) (Y15 E) q
def Y17(E:Env)(q:Rq):Option Rsp:=Bi E (CP (Y E)) (Y E) (Y16 E) q
def Y18(E:Env)(q:Rq):Option Rsp:=Bi E (CP (Y E)) (Y E) (Y17 E) q
def Y19(E:Env)(q:Rq):Option Rsp:=Bi E (CP (Y E)) (Y E) (Y18 E) q
def Y20(E:Env)(q:Rq):Option Rsp:=Bi E (CP (Y E)) (Y E) (Y19 E) q
def Y21(E:Env)(q:Rq):Option Rsp:=Bi E (CP (Y E)) (Y E) (Y20 E) q
def Y22(E:Env)(q:Rq):Option Rsp:=Bi E (CP (Y E)) (Y E) (Y21 E) q
def Y23(E:Env)(q:Rq):Option Rsp:=Bi E (CP (Y E)) (Y E) (Y22 E) q
def Y24(E:Env)(q:Rq):Option Rsp:=Bi E (CP (Y E)) (Y E) (Y23 E) q
def Y25(E:Env)(q:Rq):Option Rsp:=Bi E (CP (Y E)) (Y E) (Y24 E) q
def Y26(E:Env)(q:Rq):Option Rsp:=Bi E (CP (Y E)) (Y E) (Y25 E) q
def Y27(E:Env)(q:Rq):Option Rsp:=Bi E (CP (Y E)) (Y E) (Y26 E) q
def Y28(E:Env)(q:Rq):Option Rsp:=Bi E (CP (Y E)) (Y E) (Y27 E) q
def Y29(E:Env)(q:Rq):Option Rsp:=Bi E (CP (Y E)) (Y E) (Y28 E) q
def Y30(E:Env)(q:Rq):Option Rsp:=Bi E (CP (Y E)) (Y E) (Y29 E) q
def Y31(E:Env)(q:Rq):Option Rsp:=Bi E (CP (Y E)) (Y E) (Y30 E) q
def Y32(E:Env)(q:Rq):Option Rsp:=Bi E (CP (Y E)) (Y E) (Y31 E) q
def Y33(E:Env)(q:Rq):Option Rsp:=Bi E (CP (Y E)) (Y E) (Y32 E) q
def Y34(E:Env)(q:Rq):Option Rsp:=Bi E (CP (Y E)) (Y E) (Y33 E) q
def Y35(E:Env)(q:Rq):Option Rsp:=Bi E (CP (Y E)) (Y E) (Y34 E) q
def Y36(E:Env)(q:Rq):Option Rsp:=Bi E (CP (Y E)) (Y E) (Y35 E) q
def Y37(E:Env)(q:Rq):Option Rsp:=Bi E (CP (Y E)) (Y E) (Y36 E) q
def Y38(E:Env)(q:Rq):Option Rsp:=Bi E (CP (Y E)) (Y E) (Y37 E) q
def Y39(E:Env)(q:Rq):Option Rsp:=Bi E (CP (Y E)) (Y E) (Y38 E) q
def Y40(E:Env)(q:Rq):Option Rsp:=Bi E (CP (Y E)) (Y E) (Y39 E) q
theorem Y_0:Y=Y:=rfl
theorem Y_1:Y=Y1:=by funext E q;rw[Y.eq_1];show _=Bi E (CP (Y E)) (Y E) (Y E) q;rw[<-Y_0]
theorem Y_2:Y=Y2:=by funext E q;rw[Y.eq_1];show _=Bi E (CP (Y E)) (Y E) (Y1 E) q;rw[<-Y_1]
theorem Y_3:Y=Y3:=by funext E q;rw[Y.eq_1];show _=Bi E (CP (Y E)) (Y E) (Y2 E) q;rw[<-Y_2]
theorem Y_4:Y=Y4:=by funext E q;rw[Y.eq_1];show _=Bi E (CP (Y E)) (Y E) (Y3 E) q;rw[<-Y_3]
theorem Y_5:Y=Y5:=by funext E q;rw[Y.eq_1];show _=Bi E (CP (Y E)) (Y E) (Y4 E) q;rw[<-Y_4]
theorem Y_6:Y=Y6:=by funext E q;rw[Y.eq_1];show _=Bi E (CP (Y E)) (Y E) (Y5 E) q;rw[<-Y_5]
theorem Y_7:Y=Y7:=by funext E q;rw[Y.eq_1];show _=Bi E (CP (Y E)) (Y E) (Y6 E) q;rw[<-Y_6]
theorem Y_8:Y=Y8:=by funext E q;rw[Y.eq_1];show _=Bi E (CP (Y E)) (Y E) (Y7 E) q;rw[<-Y_7]
theorem Y_9:Y=Y9:=by funext E q;rw[Y.eq_1];show _=Bi E (CP (Y E)) (Y E) (Y8 E) q;rw[<-Y_8]
theorem ABG:Y=Y10:=by funext E q;rw[Y.eq_1];show _=Bi E (CP (Y E)) (Y E) (Y9 E) q;rw[<-Y_9]
theorem ABH:Y=Y11:=by funext E q;rw[Y.eq_1];show _=Bi E (CP (Y E)) (Y E) (Y10 E) q;rw[<-ABG]
theorem ABJ:Y=Y12:=by funext E q;rw[Y.eq_1];show _=Bi E (CP (Y E)) (Y E) (Y11 E) q;rw[<-ABH]
theorem ABK:Y=Y13:=by funext E q;rw[Y.eq_1];show _=Bi E (CP (Y E)) (Y E) (Y12 E) q;rw[<-ABJ]
theorem ABL:Y=Y14:=by funext E q;rw[Y.eq_1];show _=Bi E (CP (Y E)) (Y E) (Y13 E) q;rw[<-ABK]
theorem ABM:Y=Y15:=by funext E q;rw[Y.eq_1];show _=Bi E (CP (Y E)) (Y E) (Y14 E) q;rw[<-ABL]
theorem ABN:Y=Y16:=by funext E q;rw[Y.eq_1];show _=Bi E (CP (Y E)) (Y E) (Y15 E) q;rw[<-ABM]
theorem ABO:Y=Y17:=by funext E q;rw[Y.eq_1];show _=Bi E (CP (Y E)) (Y E) (Y16 E) q;rw[<-ABN]
theorem ABP:Y=Y18:=by funext E q;rw[Y.eq_1];show _=Bi E (CP (Y E)) (Y E) (Y17 E) q;rw[<-ABO]
theorem ABQ:Y=Y19:=by funext E q;rw[Y.eq_1];show _=Bi E (CP (Y E)) (Y E) (Y18 E) q;rw[<-ABP]
theorem ABR:Y=Y20:=by funext E q;rw[Y.eq_1];show _=Bi E (CP (Y E)) (Y E) (Y19 E) q;rw[<-ABQ]
theorem ABS:Y=Y21:=by funext E q;rw[Y.eq_1];show _=Bi E (CP (Y E)) (Y E) (Y20 E) q;rw[<-ABR]
theorem ABT:Y=Y22:=by funext E q;rw[Y.eq_1];show _=Bi E (CP (Y E)) (Y E) (Y21 E) q;rw[<-ABS]
theorem ABU:Y=Y23:=by funext E q;rw[Y.eq_1];show _=Bi E (CP (Y E)) (Y E) (Y22 E) q;rw[<-ABT]
theorem ABV:Y=Y24:=by funext E q;rw[Y.eq_1];show _=Bi E (CP (Y E)) (Y E) (Y23 E) q;rw[<-ABU]
theorem ABW:Y=Y25:=by funext E q;rw[Y.eq_1];show _=Bi E (CP (Y E)) (Y E) (Y24 E) q;rw[<-ABV]
theorem ABX:Y=Y26:=by funext E q;rw[Y.eq_1];show _=Bi E (CP (Y E)) (Y E) (Y25 E) q;rw[<-ABW]
theorem ABY:Y=Y27:=by funext E q;rw[Y.eq_1];show _=Bi E (CP (Y E)) (Y E) (Y26 E) q;rw[<-ABX]
theorem ABZ:Y=Y28:=by funext E q;rw[Y.eq_1];show _=Bi E (CP (Y E)) (Y E) (Y27 E) q;rw[<-ABY]
theorem ABa:Y=Y29:=by funext E q;rw[Y.eq_1];show _=Bi E (CP (Y E)) (Y E) (Y28 E) q;rw[<-ABZ]
theorem ABb:Y=Y30:=by funext E q;rw[Y.eq_1];show _=Bi E (CP (Y E)) (Y E) (Y29 E) q;rw[<-ABa]
theorem ABc:Y=Y31:=by funext E q;rw[Y.eq_1];show _=Bi E (CP (Y E)) (Y E) (Y30 E) q;rw[<-ABb]
theorem ABd:Y=Y32:=by funext E q;rw[Y.eq_1];show _=Bi E (CP (Y E)) (Y E) (Y31 E) q;rw[<-ABc]
theorem ABe:Y=Y33:=by funext E q;rw[Y.eq_1];show _=Bi E (CP (Y E)) (Y E) (Y32 E) q;rw[<-ABd]
theorem ABf:Y=Y34:=by funext E q;rw[Y.eq_1];show _=Bi E (CP (Y E)) (Y E) (Y33 E) q;rw[<-ABe]
theorem ABg:Y=Y35:=by funext E q;rw[Y.eq_1];show _=Bi E (CP (Y E)) (Y E) (Y34 E) q;rw[<-ABf]
theorem ABh:Y=Y36:=by funext E q;rw[Y.eq_1];show _=Bi E (CP (Y E)) (Y E) (Y35 E) q;rw[<-ABg]
theorem ABi:Y=Y37:=by funext E q;rw[Y.eq_1];show _=Bi E (CP (Y E)) (Y E) (Y36 E) q;rw[<-ABh]
theorem ABj:Y=Y38:=by funext E q;rw[Y.eq_1];show _=Bi E (CP (Y E)) (Y E) (Y37 E) q;rw[<-ABi]
theorem ABk:Y=Y39:=by funext E q;rw[Y.eq_1];show _=Bi E (CP (Y E)) (Y E) (Y38 E) q;rw[<-ABj]
theorem ABl:Y=Y40:=by funext E q;rw[Y.eq_1];show _=Bi E (CP (Y E)) (Y E) (Y39 E) q;rw[<-ABk]
theorem AO(E:Env)(q:Rq):Y E q=Y40 E q:=by rw[<-ABl]
theorem Kv{P:Program}{I:World->Prop}(h:EnvOK P I E){f:FuncId}{args:List AV}{Hin:List Rs}{s:AV}{Hout:List (Option Rs)}(hY:Y E (.call f args Hin)=some (.ret s Hout)):Yh P I f args Hin s Hout:=A80 h (A9Y _ _ hY)
end
end
end Go.Ax
namespace Go.Ax
open Go Go.Eng Go.RowKit
set_option linter.unusedVariables false
variable (E:Env)(a:Int)(X:Fx)(b:Int)(p:List Bool)(i:Nat)
@[irreducible] def OZ {α:Type} (a b:α):Prop:=a=b
theorem OZ.rf{α:Type}(a:α):OZ a a:=by unfold OZ;rfl
theorem OZ.eq{α:Type}{a b:α}(h:OZ a b):a=b:=by simp_all[OZ]
theorem D7:a<b\/b<=a:=zaa
theorem ZV:a<=b\/b<a:=zaa
theorem FK:a=b\/a≠b:=zaa
theorem Bj:a≠b\/a=b:=zaa
theorem ZW(f:Nat)(a:List AV)(H:List Rs):Y E (.call f a H)=Y40 E (.call f a H):=AO _ _
theorem ZX(f k n0 m:Nat)(L:LX)(H:HX):Y E (.loop f k n0 m L H)=Y40 E (.loop f k n0 m L H):=AO _ _
theorem ZY(fr:List Fr)(m:Nat)(L:LX)(H:HX):Y E (.ops X p i fr m L H)=Y40 E (.ops X p i fr m L H):=AO _ _
theorem ZZ(tr:List Tr)(fr:List Fr)(m:Nat)(L:LX)(H:HX):Y E (.drw X p i tr fr m L H)=Y40 E (.drw X p i tr fr m L H):=AO _ _
theorem Za(tr:List Tr)(fr:List Fr)(m:Nat)(L:LX)(H:HX):Y E (.drw1 X p i tr fr m L H)=Y40 E (.drw1 X p i tr fr m L H):=AO _ _
theorem Ur{a b:Bool}(h:a=b):Bv a b=true:=by rw[iM,h];simp[beq0]
theorem Us{a b:Bool}(h:a≠b):Bv a b=false:=by simp_all[iM,beq0]
theorem WG{p:Prop}(h:p:=by simp[J3,Jo,DF]):p:=h
end Go.Ax
namespace Go.Ax
open Go Go.Eng Go.RowKit
set_option linter.unusedVariables false
variable {α:Type}
theorem Cc{p:Prop}(h:p:=by first|omega|decide|assumption|(simp only[A7,KR,BD,Ci,Ej,AB,Aj,Ah,LL] at *<;>omega)|(simp;omega)):p:=h
theorem ABm{a b:α}(e:OZ a b:=by(try rewrite[ZW]);(try rewrite[ZX]);(conv=>arg 1;whnf);(repeat first|(dsimp -iota -beta -eta -zeta only)|((first|rewrite[Dx Cc]|rewrite[RV Cc]|rewrite[GL Cc]|rewrite[DF]|rewrite[IB]|rewrite[Ur WG]|rewrite[Us WG]|rewrite[ZY]|rewrite[ZZ]|rewrite[Za]|rewrite[Y_go2]|rewrite[Y_go3]|rewrite[Y_go4]|rewrite[decide_eq_true Cc]|rewrite[decide_eq_false Cc]|rewrite[Dp Cc]|rewrite[Gz Cc]|rewrite[Fg Cc]|rewrite[TG Cc]|rewrite[Ff Cc]|rewrite[Jc Cc]|rewrite[IY Cc]|rewrite[DY Cc]|rewrite[Xd Cc]|rewrite[ZO Cc]|rewrite[Un rfl]|rewrite[drw zaj]|rewrite[KU rfl]|rewrite[Np]|rewrite[PE Cc]|rewrite[Jm Cc]|rewrite[IC Cc]);(conv=>arg 1;whnf))|rewrite[JL]|rewrite[JM]|rewrite[LQ]|rewrite[LU]|rewrite[LV]|rewrite[LW]|rewrite[Jq]|rewrite[Jr]|rewrite[Js]|rewrite[Jt]|rewrite[Ju]|rewrite[IZ]|rewrite[Bc Cc]|rewrite[DU Cc]|rewrite[JA Cc]|rewrite[QC Cc]|rewrite[MX Cc]|rewrite[TE Cc]|rewrite[TF Cc]|rewrite[QD Cc]|rewrite[Ak]|rewrite[EQ]);exact OZ.rf _):OZ a b:=e
theorem BX{a b c:α}(h:b=c)(e:OZ a b:=by exact ABm):a=c:=(OZ.eq e).trans h
theorem ABn{a b:α}(e:OZ a b:=by(try rewrite[ZW]);(try rewrite[ZX]);(conv=>arg 1;whnf);(repeat first|(dsimp -iota -beta -eta -zeta only)|((first|rewrite[Dx Cc]|rewrite[RV Cc]|rewrite[GL Cc]|rewrite[DF]|rewrite[IB]|rewrite[Ur WG]|rewrite[Us WG]|rewrite[ZY]|rewrite[ZZ]|rewrite[Za]|rewrite[Y_go2]|rewrite[Y_go3]|rewrite[Y_go4]|rewrite[decide_eq_true Cc]|rewrite[decide_eq_false Cc]|rewrite[Dp Cc]|rewrite[Gz Cc]|rewrite[Fg Cc]|rewrite[TG Cc]|rewrite[Ff Cc]|rewrite[Jc Cc]|rewrite[IY Cc]|rewrite[DY Cc]|rewrite[Xd Cc]|rewrite[ZO Cc]|rewrite[Un rfl]|rewrite[drw zaj]|rewrite[KU rfl]|rewrite[Np]|rewrite[PE Cc]|rewrite[Jm Cc]);(conv=>arg 1;whnf))|rewrite[JL]|rewrite[JM]|rewrite[LQ]|rewrite[LU]|rewrite[LV]|rewrite[LW]|rewrite[Jq]|rewrite[Jr]|rewrite[Js]|rewrite[Jt]|rewrite[Ju]|rewrite[IZ]|rewrite[Bc Cc]|rewrite[DU Cc]|rewrite[JA Cc]|rewrite[QC Cc]|rewrite[MX Cc]|rewrite[TE Cc]|rewrite[TF Cc]|rewrite[QD Cc]|rewrite[Ak]|rewrite[EQ]);exact OZ.rf _):OZ a b:=e
theorem toA{a b c:α}(h:b=c)(e:OZ a b:=by exact ABn):a=c:=(OZ.eq e).trans h
end Go.Ax
namespace Go.Ax
open Go Go.RowKit Go.Eng Go.ChangeShapes Go.WideShapes
set_option linter.unusedVariables false
set_option linter.unusedSimpArgs false
def A2F(P:Program):Nat->List Field->Bool
 | _,[]=>true
 | o,f::r=>Nat.beq f.offset o&&A2F P (o+P.cellsOf f.type) r
def QY(P:Program):Nat->Ty->List TypeId->Bool
 | 0,_,_=>false
 | n+1,.unit,[]=>true
 | n+1,τ,[t]=>match P.underlying t,τ with
  | some .bool,.bool|some (.int .i64),.i64|some (.int .u8),.u8|some (.int .u32),.u32|some (.int .u64),.u64|some .string,.str=>true
  | some (.slice e),.sl a=>QY P n a [e]
  | some (.struct fs),τ=>A2F P 0 fs.toList&&Nat.beq (P.cellsOf t) ((fs.toList.map fun f=>P.cellsOf f.type).sum)&&QY P n τ (fs.toList.map (·.type))
  | some (.array k e),τ=>Nat.beq (P.cellsOf t) (k*P.cellsOf e)&&QY P n τ (List.replicate k e)
  | _,_=>false
 | n+1,.pair a b,t::u::r=>QY P n a [t]&&QY P n b (u::r)
 | _,_,_=>false
def A9Z(P:Program)(n:Nat)(t:TypeId)(τ:Ty):Bool:=match P.underlying t,τ with
  | some .bool,.bool|some (.int .i64),.i64|some (.int .u8),.u8|some (.int .u32),.u32|some (.int .u64),.u64|some .string,.str=>true
  | some (.slice e),.sl a=>QY P n a [e]
  | some (.struct fs),τ=>A2F P 0 fs.toList&&Nat.beq (P.cellsOf t) ((fs.toList.map fun f=>P.cellsOf f.type).sum)&&QY P n τ (fs.toList.map (·.type))
  | some (.array k e),τ=>Nat.beq (P.cellsOf t) (k*P.cellsOf e)&&QY P n τ (List.replicate k e)
  | _,_=>false
theorem A2G(P:Program)(n:Nat)(t:TypeId)(τ:Ty):QY P (n+1) τ [t]=A9Z P n t τ:=by cases τ<;>rfl
def Wf:(t:Ty)->El t->Prop
 | .i64,x => -9223372036854775808<=x/\x<=9223372036854775807
 | .pair a b,x=>Wf a x.1/\Wf b x.2
 | .sl e,l=>List.length l<=maxLen/\∀ x∈l,Wf e x
 | .str,l=>List.length l<=maxLen
 | _,_=>True
section
variable {H:Type}{enc:TypeId×Value->H}{P:Program}{w:World}
def dZ(enc:TypeId×Value->H)(P:Program)(w:World):List TypeId->List Value->Prop
 | [],cs=>cs=[]
 | t::r,cs=>P.cellsOf t<=cs.length/\(∃ n x,DataW.trod enc P w 0 (fun _=>true) true n t (cs.take (P.cellsOf t))=some x)/\dZ enc P w r (cs.drop (P.cellsOf t))
theorem Xk{cs:List Value}{n:Nat}:∀ {fs:List Field} {o:Nat},A2F P o fs=true->(∀(i:Nat) (f:Field),fs[i]?=some f->∃ x,DataW.trod enc P w 0 (fun _=>true) true n f.type ((cs.drop f.offset).take (P.cellsOf f.type))=some x) ->
  cs.length=o+(fs.map fun f=>P.cellsOf f.type).sum->dZ enc P w (fs.map (·.type)) (cs.drop o)
 | [],o,_,_,hl=>by simp_all[dZ]
 | f::r,o,ho,hf,hl=>by
  simp only[A2F,Bool.and_eq_true] at ho
  have h0:f.offset=o:=zay
  simp only[List.map_cons,List.sum_cons] at hl
  simp only[List.map_cons,dZ]
  refine⟨by simp_all,?_,?_⟩
  ·obtain⟨x,hx⟩:=hf 0 f rfl
   grind
  ·rw[List.drop_drop]
   exact Xk ho.2 (fun i g hg=>hf (i+1) g zaF) zaa
theorem vX{cs:List Value}{n:Nat}{e:TypeId}:∀ {k j:Nat},(∀ i,j<=i->i<j+k->∃ x,DataW.trod enc P w 0 (fun _=>true) true n e ((cs.drop (i*P.cellsOf e)).take (P.cellsOf e))=some x) ->
  cs.length=(j+k)*P.cellsOf e->dZ enc P w (List.replicate k e) (cs.drop (j*P.cellsOf e))
 | 0,j,_,hl=>by simp_all[dZ]
 | k+1,j,h,hl=>by
  simp only[List.replicate_succ,dZ]
  have e1:(j+(k+1))*P.cellsOf e=j*P.cellsOf e+P.cellsOf e+k*P.cellsOf e:=zaF
  refine⟨by grind,?_,?_⟩
  ·obtain⟨x,hx⟩:=h j zaa zaa
   grind
  ·rw[List.drop_drop]
   have:=vX (cs:=cs) (n:=n) (e:=e) (k:=k) (j:=j+1) (fun i hi hk=>h i zaa zaa) zaF
   grind
theorem dZ.len:∀ {ts:List TypeId} {cs:List Value},dZ enc P w ts cs->cs.length=(ts.map fun t=>P.cellsOf t).sum
 | [],cs,h=>by simp_all[dZ]
 | t::r,cs,h=>by
  have:=dZ.len h.2.2
  rw[List.length_drop] at this
  simp only[List.map_cons,List.sum_cons]
  have h1:=h.1
  omega
theorem VW{α:Type}{p:Nat->α->Prop}:∀(n:Nat),(∀ i,i<n->∃ a,p i a)->∃ l:List α,l.length=n/\∀(i:Nat) (a:α),l[i]?=some a->p i a
 | 0,_=>⟨[],rfl,fun i a h=>by simp at h⟩
 | n+1,h=>by
  obtain⟨l,h1,h2⟩:=VW n fun i hi=>h i zaa
  obtain⟨a,ha⟩:=h n zaa
  refine⟨l++[a],by simp[h1],fun i b hb=>?_⟩
  grind
theorem vY{α β:Type}{R:α->β->Prop}:∀ {l:List α} {m:List β},l.length=m.length->(∀(i:Nat) (a:α) (b:β),l[i]?=some a->m[i]?=some b->R a b)->EW R l m
 | [],[],_,_=>trivial
 | a::l,b::m,h,hR=>⟨hR 0 a b rfl rfl,vY zaN fun i x y hx hy=>hR (i+1) x y zaF zaF⟩
 | [],_::_,h,_|_::_,[],h,_=>za7
theorem flat_get{n:Nat}{d:List Value}:∀ {l:List (List Value)} (hl:∀ x∈l,x.length=n) {j:Nat} {u:Value},l.flatten[j]?=some u->∃ i k c,l[i]?=some c/\c[k]?=some u/\j=i*n+k/\k<n
 | [],_,j,u,h=>za7
 | x::l,hl,j,u,h=>by
  have hx:=hl x zak
  rw[List.flatten_cons] at h
  rcases Nat.lt_or_ge j x.length with hj|hj
  ·rw[List.getElem?_append_left hj] at h
   exact⟨0,j,x,rfl,h,by omega,by omega⟩
  ·rw[List.getElem?_append_right hj] at h
   obtain⟨i,k,c,h1,h2,h3,h4⟩:=flat_get (d:=d) (fun y hy=>hl y zbi) h
   exact⟨i+1,k,c,by grind,h2,by grind,h4⟩
theorem flat_length{n:Nat}:∀ {l:List (List Value)} (hl:∀ x∈l,x.length=n),l.flatten.length=l.length*n
 | [],_=>zak
 | x::l,hl=>by
  rw[List.flatten_cons,List.length_append,flat_length (fun y hy=>hl y zbi),hl x zak,List.length_cons,Nat.add_mul];omega
theorem opens:∀(n:Nat) {τ:Ty} {ts:List TypeId} {cs:List Value},QY P n τ ts=true->dZ enc P w ts cs->∃ x:El τ,CR τ x cs w/\Wf τ x:=by
 intro n
 induction n with
 | zero=>intro τ ts cs h;cases h
 | succ n ih =>
  intro τ ts cs h hp
  match ts,h,hp with
  | [],h,hp =>
   cases τ with
   | unit=>exact⟨(),by simpa only[CR,dZ] using hp,trivial⟩
   | _=>simp[QY] at h
  | t::u::r,h,hp =>
   cases τ with
   | pair a b =>
    simp only[QY,Bool.and_eq_true] at h
    obtain⟨h1,h2,h3⟩:=hp
    obtain⟨m,x,hx⟩:=h2
    have hp1:dZ enc P w [t] (cs.take (P.cellsOf t)):=by
     have hl:(cs.take (P.cellsOf t)).length=P.cellsOf t:=zat
     refine⟨by omega,⟨m,x,by rw[List.take_of_length_le zaa];exact hx⟩,?_⟩
     simp only[dZ];exact List.drop_eq_nil_of_le zaa
    obtain⟨y,hy,hy'⟩:=ih h.1 hp1
    obtain⟨z,hz,hz'⟩:=ih h.2 h3
    refine⟨(y,z),?_,hy',hz'⟩
    simp only[CR]
    exact⟨_,_,(List.take_append_drop _ _).symm,hy,hz⟩
   | _=>simp[QY] at h
  | [t],h,hp =>
   obtain⟨h1,⟨m,x,hx⟩,h3⟩:=hp
   simp only[dZ] at h3
   have hcs:cs.length=P.cellsOf t:=by
    have:=congrArg List.length h3
    simp at this;omega
   rw[List.take_of_length_le zaa] at hx
   rw[A2G] at h
   unfold A9Z at h
   split at h
   ·rename_i hu _;obtain⟨b,rfl,_⟩:=DataW.trod_bool hu hx;exact⟨b,by simp only[CR],trivial⟩
   ·rename_i hu _;obtain⟨b,rfl,_,hw⟩:=DataW.trod_int hu hx;exact⟨b,by simp only[CR],bounds_i64 hw⟩
   ·rename_i hu _
    obtain⟨b,rfl,_,hw⟩:=DataW.trod_int hu hx
    have:=bounds_u8 hw
    refine⟨UInt8.ofNat b.toNat,?_,trivial⟩
    simp only[CR,byteV,UInt8.toNat_ofNat',List.cons.injEq,Value.int.injEq,true_and,and_true]
    omega
   ·rename_i hu _
    obtain⟨b,rfl,_,hw⟩:=DataW.trod_int hu hx
    have hb:=bounds_u32 hw
    refine⟨UInt32.ofNat b.toNat,?_,trivial⟩
    simp only[CR,wordV,UInt32.toNat_ofNat',List.cons.injEq,Value.int.injEq,true_and,and_true]
    omega
   ·rename_i hu _
    obtain⟨b,rfl,_,hw⟩:=DataW.trod_int hu hx
    have hb:=bounds_u64 hw
    refine⟨UInt64.ofNat b.toNat,?_,trivial⟩
    simp only[CR,IE,UInt64.toNat_ofNat',List.cons.injEq,Value.int.injEq,true_and,and_true]
    omega
   ·rename_i hu _
    obtain⟨b,rfl,_,hw⟩:=DataW.trod_string hu hx
    exact⟨b.data.toList,by simp only[CR],hw⟩
   ·rename_i e a hu _
    rcases DataW.trod_slice hu hx with⟨rfl,_⟩|⟨ad,len,cap,elems,rest,n',_,rfl,_,_,hl,hmx,hlen,hel,_⟩
    ·exact⟨[],by simp only[CR];exact⟨_,[],rfl,trivial,Sl.nil _ _⟩,by show List.length _<=maxLen/\_;exact⟨by simp,fun x hx=>by cases hx⟩⟩
    ·have each:∀ i,i<len->∃ q:El a×List Value,(CR a q.1 q.2 w/\Wf a q.1)/\q.2.length=P.cellsOf e/\∀ k,k<P.cellsOf e->w.cell? (ad.add (i*P.cellsOf e+k))=q.2[k]?:=by
      intro i hi
      have h1:=hel i hi
      rw[List.getElem?_eq_getElem zaa,Option.bind_eq_some_iff] at h1
      obtain⟨ci,h2,h3⟩:=h1
      obtain⟨_,h4,h5⟩:=World.cells?_some h2
      have hp1:dZ enc P w [e] ci:=by
       refine⟨by omega,⟨n',_,by rw[List.take_of_length_le zaa];exact h3⟩,?_⟩
       simp only[dZ];exact List.drop_eq_nil_of_le zaa
      obtain⟨y,hy,hy'⟩:=ih h hp1
      exact⟨(y,ci),⟨hy,hy'⟩,h4,fun k hk=>by have:=h5 k hk;rw[add_add] at this;exact this⟩
     obtain⟨l,hll,hl2⟩:=VW len each
     have hsz:∀ x∈l.map (·.2),x.length=a.n:=by
      intro x hx
      obtain⟨q,hq,rfl⟩:=List.mem_map.1 hx
      obtain⟨i,hi⟩:=List.getElem?_of_mem hq
      exact(hl2 i q hi).1.1.len
     refine⟨l.map (·.1),?_,by
      show List.length _<=maxLen/\_
      refine⟨by rw[List.length_map,hll];omega,fun x hx=>?_⟩
      obtain⟨q,hq,rfl⟩:=List.mem_map.1 hx
      obtain⟨i,hi⟩:=List.getElem?_of_mem hq
      exact(hl2 i q hi).1.2⟩
     simp only[CR]
     refine⟨_,l.map (·.2),rfl,vY zak fun i x c hx hc=>?_,?_⟩
     ·rw[List.getElem?_map,Option.map_eq_some_iff] at hx hc
      obtain⟨q,hq,rfl⟩:=hx
      obtain⟨q',hq',rfl⟩:=hc
      rw[hq] at hq';obtain rfl:=Option.some.inj hq'
      exact(hl2 i q hq).1.1
     ·refine⟨some ad,cap,by simp[hll],by rw[flat_length hsz];simp,by simp[hll];exact hl,hmx,(fun h=>by cases h),fun q hq j u hu=>?_⟩
      obtain rfl:=Option.some.inj hq
      obtain⟨i,k,c,h1,h2,h3,h4⟩:=flat_get (d:=[]) hsz hu
      rw[List.getElem?_map,Option.map_eq_some_iff] at h1
      obtain⟨q,hq,rfl⟩:=h1
      obtain⟨g1,g2,g3⟩:=hl2 i q hq
      have hn:a.n=P.cellsOf e:=by rw[<-g1.1.len,g2]
      rw[h3,hn,g3 k zaa];exact h2
   ·rename_i fs hu _
    simp only[Bool.and_eq_true] at h
    obtain⟨xs,n',_,_,hl,hxl,hf⟩:=DataW.trod_struct hu hx
    refine ih h.2 ?_
    have:=Xk (enc:=enc) (w:=w) (cs:=cs) (n:=n') h.1.1 (fun i f hif=>?_) (by rw[hl];have:=h.1.2;simp only[Nat.zero_add];simpa using this)
    ·simpa using this
    ·have hif':fs[i]?=some f:=by simpa using hif
     have hlt:i<xs.length:=by rw[hxl];exact(Array.getElem?_eq_some_iff.1 hif').1
     exact⟨xs[i],by rw[hf i f hif',List.getElem?_eq_getElem hlt]⟩
   ·rename_i k e hu _
    simp only[Bool.and_eq_true] at h
    obtain⟨xs,n',_,_,hl,hxl,hf⟩:=DataW.trod_array hu hx
    refine ih h.2 ?_
    have:=vX (enc:=enc) (P:=P) (w:=w) (cs:=cs) (n:=n') (e:=e) (k:=k) (j:=0) (fun i _ hi=>⟨xs[i]'zaa,by rw[hf i zaa,List.getElem?_eq_getElem zaa]⟩) (by rw[hl];have:=h.1;simp only[Nat.zero_add];simpa using this)
    simpa using this
   ·cases h
theorem Xl{t:TypeId}{v:Value}{d:DataW H}{ps:List MemPlace}{τ:Ty}(n:Nat)(ht:QY P n τ [t]=true)(h:DataW.Trod enc P w 0 (fun _=>true) true t v d ps)(hl:v.cells.toList.length=P.cellsOf t):∃ x:El τ,CR τ x v.cells.toList w/\Wf τ x:=by
 obtain⟨m,hm⟩:=h
 refine opens n ht ⟨by omega,⟨m,_,by rw[List.take_of_length_le zaa];exact hm⟩,?_⟩
 simp_all[dZ]
end
theorem CR.ext:∀ {t:Ty} {x:El t} {us:List Value} {w w':World},Ext w w'->CR t x us w->CR t x us w'
 | .bool,x,us,w,w',he,h|.i64,x,us,w,w',he,h|.u8,x,us,w,w',he,h|.u32,x,us,w,w',he,h|.u64,x,us,w,w',he,h|.str,x,us,w,w',he,h|.unit,x,us,w,w',he,h=>by simp_all[CR]
 | .pair a b,x,us,w,w',he,h=>by
  simp only[CR] at h ⊢
  obtain⟨u1,u2,h0,h1,h2⟩:=h
  exact⟨u1,u2,h0,h1.ext he,h2.ext he⟩
 | .sl e,l,us,w,w',he,h=>by
  simp only[CR] at h ⊢
  obtain⟨v,cs,h0,h1,h2⟩:=h
  exact⟨v,cs,h0,EW.mono (fun x c hx=>hx.ext he) h1,h2.ext he⟩
end Go.Ax
namespace Go.Ax
open Go Go.Eng Go.RowKit
variable {ws:List UInt32}{n i:Nat}{x:UInt32}(a b:UInt32)
theorem Ut{a:UInt32}{c:Nat}(h:c<32):AZ a c=a<<<UInt32.ofNat c:=by
 rw[iQ];unfold u32shl0
 apply UInt32.toNat_inj.1
 rw[Nat.min_eq_left zaa,UInt32.toNat_shiftLeft,Nat.shiftLeft_eq,UInt32.toNat_ofNat']
 have h2:c%2^32%32=c:=zaa
 grind[UInt32.ofInt,UInt32.toNat_ofNat']
theorem A2H(a:UInt8):BF a=a.toUInt32:=by rw[uo];rfl
theorem Xm:Au .or a b=a|||b:=by rw[SN];rfl
theorem JO:Au .xor a b=a^^^b:=by rw[SN];rfl
theorem LY:Au .and a b=a&&&b:=by rw[SN];rfl
theorem Jz:Au .add a b=a+b:=by rw[SN];rfl
theorem A88(x:UInt32){m:UInt64}(s:Nat)(h0:0<s/\s<32)(hk:m.toNat=s):Au .or (AZ x m.toNat) (AP x (BA .sub (UInt64.ofNat 32) m).toNat)=xw x s:=by
 have h32:(BA .sub (UInt64.ofNat 32) m).toNat=32-s:=by
  rw[EM]
  show(Ru .sub (UInt64.ofNat 32) m).toNat=32-s
  grind[Ru,UInt64.toNat_sub_of_le,UInt64.le_iff_toNat_le]
 rw[h32,hk,Ut h0.2,I7 zaa,Xm];rfl
theorem A89(x:UInt32){m:UInt64}(s:Nat)(h0:0<s/\s<32)(hk:m.toNat=s):Au .or (AP x m.toNat) (AZ x (BA .sub (UInt64.ofNat 32) m).toNat)=Jj x s:=by
 have h32:(BA .sub (UInt64.ofNat 32) m).toNat=32-s:=by
  rw[EM]
  show(Ru .sub (UInt64.ofNat 32) m).toNat=32-s
  grind[Ru,UInt64.toNat_sub_of_le,UInt64.le_iff_toNat_le]
 rw[h32,hk,Ut zaa,I7 h0.2,Xm];rfl
theorem vZ(l:List UInt8)(k:Nat){a b c d:UInt8}(ha:l[k]?=some a)(hb:l[k+1]?=some b)(hc:l[k+2]?=some c)(hd:l[k+3]?=some d):
  Au .or (Au .or (Au .or (AZ (BF a) (UInt64.ofNat 24).toNat) (AZ (BF b) (UInt64.ofNat 16).toNat)) (AZ (BF c) (UInt64.ofNat 8).toNat)) (BF d)=be32 l k:=by
 simp_all[Xm,A2H,Ut,be32]
def Fa(ws:List UInt32):List AV:=ws.map AV.u32
theorem EK(h:i<ws.length):List.drop i (Fa ws)=.u32 (ws.getD i 0)::List.drop (i+1) (Fa ws):=by
 simp_all[List.drop_eq_getElem_cons,Fa]
theorem A9a{a b:Nat}(h:a<=b):Nat.ble a b=true:=zay
theorem Dl(h:ws.length=n):Fa ws=(List.range n).map fun i=>AV.u32 (ws.getD i 0):=by
 subst h;apply List.ext_getElem (by simp[Fa]);simp_all[Fa]
theorem A2I{t:Nat}(h:ws.length=n)(ht:n<=t):Fa ws=(List.range n).map fun i=>AV.u32 (ws.getD i 0):=Dl h
theorem A2J(ws:List UInt32):(Fa ws).length=ws.length:=by simp[Fa]
theorem LZ{x:AV}(h:i<ws.length):Nat.ble (i+[x].length) (Fa ws).length=true:=by rw[A2J];exact A9a h
theorem A2K(h:i<ws.length):(Fa ws).take i++[AV.u32 x]++(Fa ws).drop (i+1)=Fa (ws.set i x):=by
 simp[Fa,List.set_eq_take_append_cons_drop,h]
theorem Nr{R:Type}{K:List AV->Option R}(h:i<ws.length):IW ((Fa ws).take i++[AV.u32 x]++(Fa ws).drop (i+[AV.u32 x].length)) K=K (Fa (ws.set i x)):=by
 rw[Gy];exact congrArg K (A2K h)
theorem Kw(h:ws.length=n):Fa (ws.set i x)=(List.range n).map fun j=>AV.u32 ((ws.set i x).getD j 0):=Dl zaN
end Go.Ax
