/-
  Own texts, laid together for this claim: the rules that every walk uses, which claim nothing of any program.
-/
import Derived.OpenShut
import Derived.ChangeSlices
import Derived.Test.YtanagnimhaemgaaGreatDoorMgc
set_option linter.all false
namespace Go.Ax
noncomputable section
open Go Go.RowKit Go.Eng
set_option linter.unusedVariables false
set_option linter.unusedSimpArgs false
def Fj:Code->List Bool->Code
 | c,[]=>c
 | .seq a b,x::p|.cond _ a b,x::p=>(match x with|true=>Fj b p|false=>Fj a p)
 | .block _ c,_::p|.loop c,_::p=>Fj c p
 | _,_::_=>.skip
theorem J9:∀(c:Code) (p q:List Bool),Fj c (p++q)=Fj (Fj c p) q:=by
 intro c
 induction c with
 | seq a b iha ihb|cond x a b iha ihb=>intro p q;cases p with|nil=>rfl|cons x p=>cases x<;>simp only[List.cons_append,Fj]<;>first|exact iha p q|exact ihb p q
 | block id c ih|loop c ih=>intro p q;cases p with|nil=>rfl|cons x p=>simp_all[Fj]
 | _=>intro p q;cases p with|nil=>rfl|cons x p=>(simp only[List.cons_append,Fj];cases q<;>simp only[Fj])
def GL(C:CT)(f:Nat):Code:=match Vh f C with
 | some fn=>(match fn.body with|some c=>c|none=>.skip)
 | none=>.skip
def GM(G:FT)(f:Nat):List (Plc×Plc):=match Me f G with|some fi=>fi.keep|none=>[]
def opsOf:Code->List Oper
 | .region _ ops _=>ops.toList
 | _=>[]
def Hy{R:Type}:List Bool->(List Bool->R)->R
 | [],K=>K []
 | true::r,K=>Hy r fun r=>K (true::r)
 | false::r,K=>Hy r fun r=>K (false::r)
theorem EQ{R:Type}:∀(l:List Bool) (K:List Bool->R),Hy l K=K l
 | [],K=>rfl
 | true::r,K|false::r,K=>by simp only[Hy,EQ r]
def Jd:Code->Nat->Option (List Bool)
 | .seq a b,k|.cond _ a b,k=>bif Nat.blt k (Bl a) then(Jd a k).map (false :: ·) else(Jd b (k-Bl a)).map (true :: ·)
 | .block _ c,k=>(Jd c k).map (false :: ·)
 | .loop c,k=>bif Nat.beq k 0 then some [false] else(Jd c (k-1)).map (false :: ·)
 | _,_=>none
theorem Xb:∀ {c:Code} {k:Nat} {p:List Bool},Jd c k=some p->DD c k=some (Fj c p):=by
 intro c
 induction c with
 | seq a b iha ihb =>
  intro k p h
  simp only[Jd] at h
  simp only[DD]
  cases hb:Nat.blt k (Bl a) with
  | true=>rw[hb] at h;obtain⟨q,h1,rfl⟩:=Option.map_eq_some_iff.1 h;exact iha h1
  | false=>rw[hb] at h;obtain⟨q,h1,rfl⟩:=Option.map_eq_some_iff.1 h;exact ihb h1
 | cond x a b iha ihb =>
  intro k p h
  simp only[Jd] at h
  simp only[DD]
  cases hb:Nat.blt k (Bl a) with
  | true=>rw[hb] at h;obtain⟨q,h1,rfl⟩:=Option.map_eq_some_iff.1 h;exact iha h1
  | false=>rw[hb] at h;obtain⟨q,h1,rfl⟩:=Option.map_eq_some_iff.1 h;exact ihb h1
 | block id c ih =>
  intro k p h
  simp only[Jd] at h
  obtain⟨q,h1,rfl⟩:=Option.map_eq_some_iff.1 h
  exact ih h1
 | loop c ih =>
  intro k p h
  simp only[Jd] at h
  simp only[DD]
  cases hb:Nat.beq k 0 with
  | true=>rw[hb] at h;obtain rfl:=Option.some.inj h;simp_all[Fj]
  | false=>rw[hb] at h;obtain⟨q,h1,rfl⟩:=Option.map_eq_some_iff.1 h;exact ih h1
 | _=>intro k p h;cases h
inductive Fr where
 | seq (p:List Bool) (k:Nat)
 | blk (id:Nat)
 | ret
 | lup (k:Nat)
structure Fx where
 n:Nat
 f:Nat
 n0:Nat
inductive Rq where
 | call (f:Nat) (args:List AV) (H:List Rs)
 | loop (f k n0 m:Nat) (L:LX) (H:HX)
 | code (X:Fx) (p:List Bool) (k:Nat) (fr:List Fr) (m:Nat) (L:LX) (H:HX)
 | nxt (X:Fx) (e:Exit) (fr:List Fr) (m:Nat) (L:LX) (H:HX)
 | ops (X:Fx) (p:List Bool) (i:Nat) (fr:List Fr) (m:Nat) (L:LX) (H:HX)
 | one (X:Fx) (p:List Bool) (i:Nat) (fr:List Fr) (m:Nat) (L:LX) (H:HX)
 | drw (X:Fx) (p:List Bool) (i:Nat) (tr:List Tr) (fr:List Fr) (m:Nat) (L:LX) (H:HX)
 | drw1 (X:Fx) (p:List Bool) (i:Nat) (tr:List Tr) (fr:List Fr) (m:Nat) (L:LX) (H:HX)
abbrev Oyr:=Rq->Option Rsp
def Aq(Q:Oyr):Orc:=fun q=>match q with
 | .call f a H=>Q (.call f a H)
 | .loop f k n0 m L H=>Q (.loop f k n0 m L H)
theorem OQ(Q:Oyr)(f:Nat)(a:List AV)(H:List Rs):Aq Q (.call f a H)=Q (.call f a H):=rfl
theorem TR(Q:Oyr)(f k n0 m:Nat)(L:LX)(H:HX):Aq Q (.loop f k n0 m L H)=Q (.loop f k n0 m L H):=rfl
def MV{R:Type}(d:Option Nat)(s:AV)(L:LX)(K:LX->R):R:=match d with
 | some d=>K ((d,s)::L)
 | none=>K L
theorem OT{R:Type}(d:Option Nat)(s:AV)(L:LX)(K:LX->R):MV d s L K=K (N7 d s L):=by cases d<;>rfl
theorem ZP{R:Type}(d:Option Nat)(s:AV)(L:LX)(K:LX->R):MV d s L K=K (match d with|some d=>(d,s)::L|none=>L):=by cases d<;>rfl
def quiet:Op->Bool
 | .move _|.assign _|.nilCheck _|.extract _ _|.unOp _ _ _=>true
 | .binOp op _ _ _ _=>(match op with|.quo=>false|.rem=>false|.shl=>false|.shr=>false|_=>true)
 | .convert _ _ _|.alloc _|.box _ _|.load _ _|.store _ _ _|.fieldAddr _ _ _|.field _ _ _|.build _ _|.makeFunc _ _ _=>true
 | .call {callee:=.builtin b,..}=>(match b with|.len=>true|.min=>true|.max=>true|_=>false)
 | _=>false
def dA(E:Env)(X:Fx)(m:Nat)(L:LX)(H:HX):Option Rsp:=match Vh X.f E.C,Me X.f E.G with
 | some fn,some fi=>bQ E.T fi X.n0 fn.results.toList m L H
 | _,_=>none
def Kq(E:Env)(Qc:Orc)(Q:Oyr)(X:Fx):List Fr->Exit->Nat->LX->HX->Option Rsp
 | [],_,_,_,_=>none
 | .seq p k::fr,e,m,L,H=>(match e with
  | .normal=>Q (.code X p k fr m L H)
  | e=>Kq E Qc Q X fr e m L H)
 | .blk id::fr,e,m,L,H=>(match e with
  | .exit id'=>bif Nat.beq id' id then Kq E Qc Q X fr .normal m L H else Kq E Qc Q X fr (.exit id') m L H
  | e=>Kq E Qc Q X fr e m L H)
 | .ret::_,e,m,L,H=>(match e with
  | .normal|.ret=>dA E X m L H
  | _=>none)
 | .lup k::_,e,m,L,H=>(match(GM E.G X.f)[k]? with
  | some kp=>(match e with
   | .normal=>Hw kp.1 X.n0 m L H fun m L H=>Qc (.loop X.f k X.n0 m L H)
   | e=>Hw kp.2 X.n0 m L H fun m L H=>some (.fin e m L H))
  | none=>none)
def N9(E:Env)(Qc:Orc)(Q:Oyr)(X:Fx)(p:List Bool)(fr:List Fr):List Oper->Nat->Nat->LX->HX->Option Rsp
 | [],i,m,L,H=>Kq E Qc Q X fr .normal m L H
 | o::r,i,m,L,H=>match o.guard with
  | none=>bif Nr X.n o.dst then addN 1 i fun i=>(bif quiet o.op
    then Eh (E.tt X.f) E.G Qc (Dc L) (fun k=>hlk k H) m o.op fun t=>FD o.dst t m L H fun m L H=>N9 E Qc Q X p fr r i m L H
    else Eh (E.tt X.f) E.G Qc (Dc L) (fun k=>hlk k H) m o.op fun t=>FD o.dst t m L H fun m L H=>Q (.ops X p i fr m L H)) else none
  | some (j,want)=>(match((opsOf (Fj (GL E.C X.f) p))[j]?).bind (·.dst) with
   | some d'=>(match FZ d' L with
    | some (.b c)=>bif Nr X.n o.dst&&Nat.blt d' X.n then
      (addN 1 i fun i1=>bif c then
       bif want then Q (.one X p i fr m ((d',.b true)::L) H)
       else MV o.dst (.tup []) ((d',.b true)::L) fun L=>Q (.ops X p i1 fr m L H)
      else
       bif want then MV o.dst (.tup []) ((d',.b false)::L) fun L=>Q (.ops X p i1 fr m L H)
       else Q (.one X p i fr m ((d',.b false)::L) H))
     else none
    | some (.tup [])=>bif Nr X.n o.dst&&Nat.blt d' X.n then addN 1 i fun i=>MV o.dst (.tup []) L fun L=>N9 E Qc Q X p fr r i m L H else none
    | _=>none)
   | none=>none)
def Lt(E:Env)(Qc:Orc)(Q:Oyr)(X:Fx)(p:List Bool)(fr:List Fr):List Oper->Nat->List Tr->Nat->LX->HX->Option Rsp
 | [],i,tr,m,L,H=>bif A8 X.n (opsOf (Fj (GL E.C X.f) p)).toArray tr then Q (.nxt X .normal fr m L H) else none
 | o::r,i,tr,m,L,H=>match o.guard with
  | none=>FN (o.looksAt (opsOf (Fj (GL E.C X.f) p)).toArray) fun lk=>Fh (Qn lk L) fun L'=>addN 1 i fun i=>(bif quiet o.op
    then Eh (E.tt X.f) E.G Qc (Dc L') (fun k=>hlk k H) m o.op fun t=>FD o.dst t m L H fun m L H=>Lt E Qc Q X p fr r i (tr++[t]) m L H
    else Eh (E.tt X.f) E.G Qc (Dc L') (fun k=>hlk k H) m o.op fun t=>FD o.dst t m L H fun m L H=>Q (.drw X p i (tr++[t]) fr m L H))
  | some (j,want)=>(match((opsOf (Fj (GL E.C X.f) p))[j]?).bind (·.dst) with
   | some d'=>(match FZ d' L with
    | some (.b c)=>addN 1 i fun i1=>bif c then
      bif want then Q (.drw1 X p i tr fr m L H)
      else MV o.dst (.tup []) L fun L=>Q (.drw X p i1 (tr++[⟨.tup [],[],[],true,0⟩]) fr m L H)
     else
      bif want then MV o.dst (.tup []) L fun L=>Q (.drw X p i1 (tr++[⟨.tup [],[],[],true,0⟩]) fr m L H)
      else Q (.drw1 X p i tr fr m L H)
    | some (.tup [])=>addN 1 i fun i=>MV o.dst (.tup []) L fun L=>Lt E Qc Q X p fr r i (tr++[⟨.tup [],[],[],true,0⟩]) m L H
    | _=>none)
   | none=>none)
def Em(E:Env)(Qc:Orc)(Qs Q:Oyr)(X:Fx):Code->List Bool->Nat->List Fr->Nat->LX->HX->Option Rsp
 | .skip,p,k,fr,m,L,H|.label _,p,k,fr,m,L,H=>Kq E Qc Q X fr .normal m L H
 | .seq a b,p,k,fr,m,L,H=>addN k (Bl a) fun k2=>Hy (p++[true]) fun p2=>Em E Qc Qs Q X a (p++[false]) k (.seq p2 k2::fr) m L H
 | .cond c a b,p,k,fr,m,L,H=>addN 0 k fun k=>addN k (Bl a) fun k2=>Hy (p++[false]) fun p1=>Hy (p++[true]) fun p2=>(match Dc L c with
  | some (.b t)=>bif t then Q (.code X p1 k fr m L H) else Q (.code X p2 k2 fr m L H)
  | _=>none)
 | .block id c,p,k,fr,m,L,H=>Em E Qc Qs Q X c (p++[false]) k (.blk id::fr) m L H
 | .exit id,p,k,fr,m,L,H=>Kq E Qc Q X fr (.exit id) m L H
 | .ret,p,k,fr,m,L,H=>Kq E Qc Q X fr .ret m L H
 | .region id ops false,p,k,fr,m,L,H=>Hy p fun p=>Hw (MQ E.G X.f id) X.n0 m L H fun m L H=>bif (MQ E.G X.f id).meet then Qs (.ops X p 0 fr m L H) else N9 E Qc Q X p fr ops.toList 0 m L H
 | .region id ops true,p,k,fr,m,L,H=>Hy p fun p=>Hw (MQ E.G X.f id) X.n0 m L H fun m L H=>bif (MQ E.G X.f id).meet then Qs (.drw X p 0 [] fr m L H) else Lt E Qc Q X p fr ops.toList 0 [] m L H
 | .loop c,p,k,fr,m,L,H=>addN 0 k fun k=>(match(GM E.G X.f)[k]? with
  | some kp=>Hw kp.1 X.n0 m L H fun m L H=>(Qc (.loop X.f k X.n0 m L H)).bind fun r=>match r with
   | .fin e m L H=>Q (.nxt X e fr m L H)
   | _=>none
  | none=>none)
 | _,_,_,_,_,_,_=>none
def Ak(E:Env)(Qc:Orc)(Qs Q:Oyr)(q:Rq):Option Rsp:=match q with
 | .call f args H=>(match E.ov (.call f args H) with
  | some r=>some r
  | none=>(match Vh f E.C,Me f E.G with
   | some fn,some _=>(match fn.body with
    | some _=>bif Nat.ble args.length fn.ntmps then addN 0 fn.ntmps fun n=>addN 0 H.length fun n0=>Q (.code ⟨n,f,n0⟩ [] 0 [.ret] n0 (argX 0 args) (bP 0 H)) else none
    | none=>none)
   | _,_=>none))
 | .loop f k n0 m L H=>(match E.ov (.loop f k n0 m L H) with
  | some r=>some r
  | none=>addN 0 n0 fun n0=>(match Vh f E.C,Me f E.G with
   | some fn,some fi=>(match fn.body,fi.keep[k]? with
    | some c,some _=>(match Jd c k with
     | some p=>addN 0 fn.ntmps fun n=>Hy p fun p=>Q (.code ⟨n,f,n0⟩ p (k+1) [.lup k] m L H)
     | none=>none)
    | _,_=>none)
   | _,_=>none))
 | .code X p k fr m L H=>Em E Qc Qs Q X (Fj (GL E.C X.f) p) p k fr m L H
 | .nxt X e fr m L H=>Kq E Qc Q X fr e m L H
 | .ops X p i fr m L H=>N9 E Qc Q X p fr ((opsOf (Fj (GL E.C X.f) p)).drop i) i m L H
 | .one X p i fr m L H=>(match(opsOf (Fj (GL E.C X.f) p))[i]? with
  | some o=>addN 1 i fun i=>Eh (E.tt X.f) E.G Qc (Dc L) (fun k=>hlk k H) m o.op fun t=>FD o.dst t m L H fun m L H=>Q (.ops X p i fr m L H)
  | none=>none)
 | .drw X p i tr fr m L H=>Lt E Qc Q X p fr ((opsOf (Fj (GL E.C X.f) p)).drop i) i tr m L H
 | .drw1 X p i tr fr m L H=>(match(opsOf (Fj (GL E.C X.f) p))[i]? with
  | some o=>FN (o.looksAt (opsOf (Fj (GL E.C X.f) p)).toArray) fun lk=>Fh (Qn lk L) fun L'=>addN 1 i fun i=>Eh (E.tt X.f) E.G Qc (Dc L') (fun k=>hlk k H) m o.op fun t=>FD o.dst t m L H fun m L H=>Q (.drw X p i (tr++[t]) fr m L H)
  | none=>none)
def JA(Q Q':Oyr):Prop:=∀ q r,Q q=some r->Q' q=some r
section
variable {E:Env}{Qc Qc':Orc}{Q Q' Qs Qs':Oyr}{X:Fx}{r:Rsp}
theorem TS(h:JA Q Q'):PP (Aq Q) (Aq Q'):=by
 intro q r
 cases q with
 | call f a H|loop f k n0 m L H=>exact h _ _
theorem GN(hc:PP Qc Qc')(h:JA Q Q'):∀(fr:List Fr) {e:Exit} {m:Nat} {L:LX} {H:HX},Kq E Qc Q X fr e m L H=some r->Kq E Qc' Q' X fr e m L H=some r
 | [],e,m,L,H=>id
 | .seq p k::fr,e,m,L,H=>by
  cases e<;>first|exact h (.code X p k fr m L H) r|exact GN hc h fr
 | .blk id::fr,e,m,L,H=>by
  cases e<;>first|exact AX (GN hc h fr) (GN hc h fr)|exact GN hc h fr
 | .ret::fr,e,m,L,H=>by cases e<;>exact id
 | .lup k::fr,e,m,L,H=>by
  simp only[Kq]
  generalize (GM E.G X.f)[k]?=z
  cases z with
  | none=>exact id
  | some kp=>cases e<;>first|exact E8 fun m L H=>hc (.loop X.f k X.n0 m L H) r|exact id
theorem JW(hc:PP Qc Qc')(h:JA Q Q'){p:List Bool}{fr:List Fr}:∀(l:List Oper) {i m:Nat} {L:LX} {H:HX},N9 E Qc Q X p fr l i m L H=some r->N9 E Qc' Q' X p fr l i m L H=some r
 | [],i,m,L,H=>by grind[N9,GN]
 | o::l,i,m,L,H=>by
  rw[N9,N9]
  simp only[Bq,OT]
  split
  ·exact AX (AX (C9 hc fun t=>CB fun m L H=>JW hc h l) (C9 hc fun t=>CB fun m L H=>h _ _)) id
  ·split
   ·split
    ·exact AX (AX (AX (h _ _) (h _ _)) (AX (h _ _) (h _ _))) id
    ·exact AX (JW hc h l) id
    ·exact id
   ·exact id
theorem JX(hc:PP Qc Qc')(h:JA Q Q'){p:List Bool}{fr:List Fr}:∀(l:List Oper) {i:Nat} {tr:List Tr} {m:Nat} {L:LX} {H:HX},Lt E Qc Q X p fr l i tr m L H=some r->Lt E Qc' Q' X p fr l i tr m L H=some r
 | [],i,tr,m,L,H=>by rw[Lt,Lt];exact AX (h _ _) id
 | o::l,i,tr,m,L,H=>by
  rw[Lt,Lt]
  simp only[Bq,CO,CU,OT]
  split
  ·exact AX (C9 hc fun t=>CB fun m L H=>JX hc h l) (C9 hc fun t=>CB fun m L H=>h _ _)
  ·split
   ·split
    ·exact AX (AX (h _ _) (h _ _)) (AX (h _ _) (h _ _))
    ·exact JX hc h l
    ·exact id
   ·exact id
theorem TU(hc:PP Qc Qc')(hs:JA Qs Qs')(h:JA Q Q'):∀(c:Code) {p:List Bool} {k:Nat} {fr:List Fr} {m:Nat} {L:LX} {H:HX},Em E Qc Qs Q X c p k fr m L H=some r->Em E Qc' Qs' Q' X c p k fr m L H=some r:=by
 intro c
 induction c with
 | skip|label l|exit id|ret=>intro p k fr m L H;exact GN hc h fr
 | seq a b iha ihb=>simp_all[Em,Bq,EQ]
 | block id c ih=>simp_all[Em]
 | cond x a b iha ihb =>
  intro p k fr m L H
  rw[Em,Em]
  simp only[Bq,EQ]
  split
  ·exact AX (h _ _) (h _ _)
  ·exact id
 | region id ops b =>
  intro p k fr m L H
  cases b with
  | false=>rw[Em,Em];simp only[EQ];exact E8 fun m L H=>AX (hs _ _) (JW hc h _)
  | true=>rw[Em,Em];simp only[EQ];exact E8 fun m L H=>AX (hs _ _) (JX hc h _)
 | loop c ih =>
  intro p k fr m L H
  rw[Em,Em]
  simp only[Bq,Nat.zero_add]
  split
  ·refine E8 fun m L H hh=>?_
   obtain⟨x,h1,h2⟩:=Option.bind_eq_some_iff.1 hh
   rw[hc _ _ h1]
   simp only[Option.bind_some]
   revert h2
   split
   ·exact h _ _
   ·exact id
  ·exact id
 | _=>simp_all[Em]
theorem TV(hc:PP Qc Qc')(hs:JA Qs Qs')(h:JA Q Q'):JA (Ak E Qc Qs Q) (Ak E Qc' Qs' Q'):=by
 intro q r
 cases q with
 | call f args H =>
  simp only[Ak,Bq]
  split
  ·exact id
  ·split
   ·split
    ·exact AX (h _ _) id
    ·exact id
   ·exact id
 | loop f k n0 m L H =>
  simp only[Ak,Bq,EQ]
  split
  ·exact id
  ·split
   ·split
    ·split
     ·exact h _ _
     ·exact id
    ·exact id
   ·exact id
 | code X p k fr m L H=>exact TU hc hs h _
 | nxt X e fr m L H=>exact GN hc h fr
 | ops X p i fr m L H=>exact JW hc h _
 | one X p i fr m L H =>
  simp only[Ak,Bq]
  split
  ·exact C9 hc fun t=>CB fun m L H=>h _ _
  ·exact id
 | drw X p i tr fr m L H=>exact JX hc h _
 | drw1 X p i tr fr m L H =>
  simp only[Ak,CO,CU,Bq]
  split
  ·exact C9 hc fun t=>CB fun m L H=>h _ _
  ·exact id
end
def Y(E:Env)(q:Rq):Option Rsp:=Ak E (Aq (Y E)) (Y E) (Y E) q
partial_fixpoint monotonicity by
 intro F1 F2 h q
 have hQ:JA F1 F2:=fun q r hq=>by
  have hr:=h q
  generalize F2 q=z at hr ⊢
  generalize F1 q=y at hr hq
  subst hq
  cases hr
  rfl
 have hm:=TV (E:=E) (TS hQ) hQ hQ q
 dsimp only
 generalize Ak E (Aq F2) F2 F2 q=z at hm ⊢
 generalize Ak E (Aq F1) F1 F1 q=y at hm ⊢
 cases y with
 | none=>exact .bot
 | some r=>grind
abbrev Vj(E:Env)(X:Fx)(p:List Bool):Code:=Fj (GL E.C X.f) p
abbrev Je(E:Env)(X:Fx)(p:List Bool):List Oper:=opsOf (Vj E X p)
def KF(E:Env)(X:Fx):List Fr->Exit->Nat->LX->HX->Option Rsp
 | [],_,_,_,_=>none
 | .seq p k::fr,e,m,L,H=>(match e with
  | .normal=>Ih (E.tt X.f) E.G (F E) X.n X.f X.n0 (GM E.G X.f) (Vj E X p) k m L H (KF E X fr)
  | e=>KF E X fr e m L H)
 | .blk id::fr,e,m,L,H=>(match e with
  | .exit id'=>bif Nat.beq id' id then KF E X fr .normal m L H else KF E X fr (.exit id') m L H
  | e=>KF E X fr e m L H)
 | .ret::_,e,m,L,H=>(match e with
  | .normal|.ret=>dA E X m L H
  | _=>none)
 | .lup k::_,e,m,L,H=>(match(GM E.G X.f)[k]? with
  | some kp=>(match e with
   | .normal=>Hw kp.1 X.n0 m L H fun m L H=>F E (.loop X.f k X.n0 m L H)
   | e=>Hw kp.2 X.n0 m L H fun m L H=>some (.fin e m L H))
  | none=>none)
def den(E:Env):Rq->Option Rsp
 | .call f args H=>F E (.call f args H)
 | .loop f k n0 m L H=>F E (.loop f k n0 m L H)
 | .code X p k fr m L H=>Ih (E.tt X.f) E.G (F E) X.n X.f X.n0 (GM E.G X.f) (Vj E X p) k m L H (KF E X fr)
 | .nxt X e fr m L H=>KF E X fr e m L H
 | .ops X p i fr m L H=>FV (E.tt X.f) E.G (F E) X.n (Je E X p) ((Je E X p).drop i) m L H fun m L H=>KF E X fr .normal m L H
 | .one X p i fr m L H=>(match(Je E X p)[i]? with
  | some o=>Eh (E.tt X.f) E.G (F E) (Dc L) (fun k=>hlk k H) m o.op fun t=>FD o.dst t m L H fun m L H=>FV (E.tt X.f) E.G (F E) X.n (Je E X p) ((Je E X p).drop (1+i)) m L H fun m L H=>KF E X fr .normal m L H
  | none=>none)
 | .drw X p i tr fr m L H=>Ej (E.tt X.f) E.G (F E) (Je E X p) ((Je E X p).drop i) tr m L H fun tr m L H=>bif A8 X.n (Je E X p).toArray tr then KF E X fr .normal m L H else none
 | .drw1 X p i tr fr m L H=>(match(Je E X p)[i]? with
  | some o=>FN (o.looksAt (Je E X p).toArray) fun lk=>Fh (Qn lk L) fun L'=>Eh (E.tt X.f) E.G (F E) (Dc L') (fun k=>hlk k H) m o.op fun t=>FD o.dst t m L H fun m L H=>Ej (E.tt X.f) E.G (F E) (Je E X p) ((Je E X p).drop (1+i)) (tr++[t]) m L H fun tr m L H=>bif A8 X.n (Je E X p).toArray tr then KF E X fr .normal m L H else none
  | none=>none)
section
variable {E:Env}{Qc:Orc}{Q Qs:Oyr}{X:Fx}{r:Rsp}
theorem VP(h:JA Q (den E)):PP (Aq Q) (F E):=by
 intro q r
 cases q with
 | call f a H=>exact h (.call f a H) r
 | loop f k n0 m L H=>exact h (.loop f k n0 m L H) r
theorem H9(hc:PP Qc (F E))(h:JA Q (den E)):∀(fr:List Fr) {e:Exit} {m:Nat} {L:LX} {H:HX},Kq E Qc Q X fr e m L H=some r->KF E X fr e m L H=some r
 | [],e,m,L,H=>id
 | .seq p k::fr,e,m,L,H=>by
  cases e<;>first|exact h (.code X p k fr m L H) r|exact H9 hc h fr
 | .blk id::fr,e,m,L,H=>by
  cases e<;>first|exact AX (H9 hc h fr) (H9 hc h fr)|exact H9 hc h fr
 | .ret::fr,e,m,L,H=>by cases e<;>exact id
 | .lup k::fr,e,m,L,H=>by
  simp only[Kq,KF]
  generalize (GM E.G X.f)[k]?=z
  cases z with
  | none=>exact id
  | some kp=>cases e<;>first|exact E8 fun m L H=>hc (.loop X.f k X.n0 m L H) r|exact id
theorem UM{α:Type}{l t:List α}{i:Nat}{o:α}(h:l.drop i=o::t):l[i]?=some o/\l.drop (1+i)=t:=by
 constructor
 ·have:=congrArg (fun z=>z[0]?) h
  grind
 ·have:=congrArg (fun z=>z.drop 1) h
  grind[List.drop_drop]
theorem Kr(hc:PP Qc (F E))(h:JA Q (den E)){p:List Bool}{fr:List Fr}:∀(l:List Oper) {i m:Nat} {L:LX} {H:HX},(Je E X p).drop i=l->N9 E Qc Q X p fr l i m L H=some r->FV (E.tt X.f) E.G (F E) X.n (Je E X p) l m L H (fun m L H=>KF E X fr .normal m L H)=some r
 | [],i,m,L,H,_=>by grind[N9,FV,H9]
 | o::l,i,m,L,H,hl=>by
  obtain⟨h1,h2⟩:=UM hl
  have hops:∀ {m L H},Q (.ops X p (1+i) fr m L H)=some r->FV (E.tt X.f) E.G (F E) X.n (Je E X p) l m L H (fun m L H=>KF E X fr .normal m L H)=some r:=fun hh=>by
   have:=h _ _ hh
   simp_all[den]
  have hone:∀ {m L H},Q (.one X p i fr m L H)=some r->(Eh (E.tt X.f) E.G (F E) (Dc L) (fun k=>hlk k H) m o.op fun t=>FD o.dst t m L H fun m L H=>FV (E.tt X.f) E.G (F E) X.n (Je E X p) l m L H fun m L H=>KF E X fr .normal m L H)=some r:=fun hh=>by
   have:=h _ _ hh
   simp_all[den]
  rw[N9,FV]
  simp only[Bq,ZP]
  generalize o.guard=g
  cases g with
  | none =>
   refine AX (fun hh=>?_) id
   cases hq:quiet o.op with
   | true =>
    rw[hq,cond_true] at hh
    exact C9 hc (fun t=>CB fun m L H=>Kr hc h l h2) hh
   | false =>
    rw[hq,cond_false] at hh
    exact C9 hc (fun t=>CB fun m L H=>hops) hh
  | some q =>
   obtain⟨j,want⟩:=q
   simp only
   generalize ((Je E X p)[j]?).bind (·.dst)=x
   cases x with
   | none=>exact id
   | some d' =>
    simp only
    generalize FZ d' L=y
    match y with
    | some (.b c)=>grind
    | some (.tup [])=>exact AX (Kr hc h l h2) id
    | none|some .un|some (.i _)|some (.u8 _)|some (.u32 _)|some (.u64 _)|some (.str _)|some (.sl _ _)|some (.st _ _)|some (.sn _ _)|some .nil|some (.gp _)|some (.nm _)|some (.pa _ _)|some (.pe _ _ _ _)|some (.vs _ _ _ _)|some (.pt _)|some (.agg _)|some (.tup (_::_))|some (.fn _ _ _)=>exact fun hh=>by cases hh
theorem Kt(hc:PP Qc (F E))(h:JA Q (den E)){p:List Bool}{fr:List Fr}:∀(l:List Oper) {i:Nat} {tr:List Tr} {m:Nat} {L:LX} {H:HX},(Je E X p).drop i=l->Lt E Qc Q X p fr l i tr m L H=some r->Ej (E.tt X.f) E.G (F E) (Je E X p) l tr m L H (fun tr m L H=>bif A8 X.n (Je E X p).toArray tr then KF E X fr .normal m L H else none)=some r
 | [],i,tr,m,L,H,_=>by rw[Lt,Ej];exact AX (h (.nxt X .normal fr m L H) r) id
 | o::l,i,tr,m,L,H,hl=>by
  obtain⟨h1,h2⟩:=UM hl
  have hops:∀ {tr m L H},Q (.drw X p (1+i) tr fr m L H)=some r->Ej (E.tt X.f) E.G (F E) (Je E X p) l tr m L H (fun tr m L H=>bif A8 X.n (Je E X p).toArray tr then KF E X fr .normal m L H else none)=some r:=fun hh=>by
   have:=h _ _ hh
   simp_all[den]
  have hone:∀ {tr m L H},Q (.drw1 X p i tr fr m L H)=some r->(Eh (E.tt X.f) E.G (F E) (Dc (Qn (o.looksAt (Je E X p).toArray) L)) (fun k=>hlk k H) m o.op fun t=>FD o.dst t m L H fun m L H=>Ej (E.tt X.f) E.G (F E) (Je E X p) l (tr++[t]) m L H (fun tr m L H=>bif A8 X.n (Je E X p).toArray tr then KF E X fr .normal m L H else none))=some r:=fun hh=>by
   have:=h _ _ hh
   simp_all[den,CO,CU]
  rw[Lt,Ej]
  simp only[Bq,CO,CU,OT]
  generalize o.guard=g
  cases g with
  | none =>
   intro hh
   cases hq:quiet o.op with
   | true =>
    rw[hq,cond_true] at hh
    exact C9 hc (fun t=>CB fun m L H=>Kt hc h l h2) hh
   | false =>
    rw[hq,cond_false] at hh
    exact C9 hc (fun t=>CB fun m L H=>hops) hh
  | some q =>
   obtain⟨j,want⟩:=q
   simp only
   generalize ((Je E X p)[j]?).bind (·.dst)=x
   cases x with
   | none=>exact id
   | some d' =>
    simp only
    generalize FZ d' L=y
    match y with
    | some (.b c)=>grind
    | some (.tup [])=>exact Kt hc h l h2
    | none|some .un|some (.i _)|some (.u8 _)|some (.u32 _)|some (.u64 _)|some (.str _)|some (.sl _ _)|some (.st _ _)|some (.sn _ _)|some .nil|some (.gp _)|some (.nm _)|some (.pa _ _)|some (.pe _ _ _ _)|some (.vs _ _ _ _)|some (.pt _)|some (.agg _)|some (.tup (_::_))|some (.fn _ _ _)=>exact fun hh=>by cases hh
theorem Xc(c:Code):Fj c []=c:=by simp_all[Fj]
theorem VQ(hc:PP Qc (F E))(hs:JA Qs (den E))(h:JA Q (den E)):∀(c:Code) {p:List Bool} {k:Nat} {fr:List Fr} {m:Nat} {L:LX} {H:HX},Vj E X p=c->Em E Qc Qs Q X c p k fr m L H=some r->Ih (E.tt X.f) E.G (F E) X.n X.f X.n0 (GM E.G X.f) c k m L H (KF E X fr)=some r:=by
 intro c
 induction c with
 | skip|label l|exit id|ret=>intro p k fr m L H _;exact H9 hc h fr
 | seq a b iha ihb =>
  intro p k fr m L H hcd hh
  rw[Em] at hh
  simp only[Bq,EQ] at hh
  have ha:Vj E X (p++[false])=a:=zQ
  have hb:Vj E X (p++[true])=b:=zQ
  have:=iha ha hh
  rw[Ih]
  refine II (fun _ _ h=>h) a (fun e m L H=>?_) this
  grind[KF]
 | block id c ih =>
  intro p k fr m L H hcd hh
  rw[Em] at hh
  have ha:Vj E X (p++[false])=c:=zQ
  have:=ih ha hh
  rw[Ih]
  refine II (fun _ _ h=>h) c (fun e m L H=>?_) this
  cases e<;>exact _root_.id
 | cond x a b iha ihb =>
  intro p k fr m L H hcd
  have ha:Vj E X (p++[false])=a:=zQ
  have hb:Vj E X (p++[true])=b:=zQ
  rw[Em,Ih]
  simp only[Bq,EQ,Nat.zero_add]
  generalize Dc L x=y
  match y with
  | some (.b c)=>exact AX (fun hh=>by have:=h _ _ hh;simp_all[den]) (fun hh=>by have:=h _ _ hh;simp_all[den])
  | none|some .un|some (.i _)|some (.u8 _)|some (.u32 _)|some (.u64 _)|some (.str _)|some (.sl _ _)|some (.st _ _)|some (.sn _ _)|some .nil|some (.gp _)|some (.nm _)|some (.pa _ _)|some (.pe _ _ _ _)|some (.vs _ _ _ _)|some (.pt _)|some (.agg _)|some (.tup _)|some (.fn _ _ _)=>exact fun hh=>by cases hh
 | region id ops b =>
  intro p k fr m L H hcd
  have ho:Je E X p=ops.toList:=by unfold Je;rw[hcd];rfl
  cases b with
  | false =>
   rw[Em,Ih];simp only[EQ]
   refine E8 fun m L H hh=>?_
   revert hh
   cases (MQ E.G X.f id).meet with
   | true =>
    intro hh
    have:=hs _ _ hh
    simp_all[den]
   | false =>
    intro hh
    have:=Kr hc h ops.toList (p:=p) (fr:=fr) zk hh
    simp_all
  | true =>
   rw[Em,Ih];simp only[EQ]
   refine E8 fun m L H hh=>?_
   revert hh
   cases (MQ E.G X.f id).meet with
   | true =>
    intro hh
    have:=hs _ _ hh
    simp_all[den]
   | false =>
    intro hh
    have:=Kt hc h ops.toList (p:=p) (fr:=fr) zk hh
    simp_all
 | loop c ih =>
  intro p k fr m L H hcd
  rw[Em,Ih]
  simp only[Bq,Nat.zero_add]
  generalize (GM E.G X.f)[k]?=z
  cases z with
  | none=>exact id
  | some kp =>
   refine E8 fun m L H hh=>?_
   obtain⟨x,h1,h2⟩:=Option.bind_eq_some_iff.1 hh
   rw[show F E (.loop X.f k X.n0 m L H)=some x from hc (.loop X.f k X.n0 m L H) x h1]
   simp only[Option.bind_some]
   cases x with
   | fin e m L H=>exact h (.nxt X e fr m L H) r h2
   | ret s H=>cases h2
 | _=>simp_all[Em]
theorem fQ:∀ q r,Y E q=some r->den E q=some r:=by
 refine Y.partial_correctness E _ fun Q hQ q r hr=>?_
 have h:JA Q (den E):=hQ
 have hc:=VP h
 cases q with
 | call f args H =>
  rw[den,F.eq_1]
  simp only[Ak,Bq,Nat.zero_add] at hr
  unfold J7
  split at hr
  ·simp_all
  ·rename_i ho
   rw[ho]
   simp only[Bq,Nat.zero_add]
   split at hr
   ·rename_i fn fi hcf hfi
    rw[hcf,hfi]
    simp only
    split at hr
    ·rename_i c hb
     rw[hb]
     simp only
     revert hr
     refine AX (fun hr=>?_) id
     have:=h _ _ hr
     have e1:Vj E ⟨fn.ntmps,f,H.length⟩ []=c:=by simp_all[GL,Xc]
     have e2:GM E.G f=fi.keep:=by grind[GM]
     rw[den,e1] at this
     simp only[e2] at this
     refine II (fun _ _ h=>h) c (fun e m L H=>?_) this
     grind[KF,dA]
    ·cases hr
   ·cases hr
 | loop f k n0 m L H =>
  rw[den,F.eq_1]
  simp only[Ak,Bq,Nat.zero_add,EQ] at hr
  unfold J7
  split at hr
  ·simp_all
  ·rename_i ho
   rw[ho]
   simp only
   split at hr
   ·rename_i fn fi hcf hfi
    rw[hcf,hfi]
    simp only
    split at hr
    ·rename_i c kp hb hkp
     rw[hb,hkp]
     simp only
     split at hr
     ·rename_i p hl
      rw[Xb hl]
      simp only
      have:=h _ _ hr
      have e1:Vj E ⟨fn.ntmps,f,n0⟩ p=Fj c p:=by simp_all[Vj,GL]
      have e2:GM E.G f=fi.keep:=by grind[GM]
      rw[den,e1] at this
      simp only[e2] at this
      refine II (fun _ _ h=>h) _ (fun e m L H=>?_) this
      grind[KF]
     ·cases hr
    ·cases hr
   ·cases hr
 | code X p k fr m L H=>exact VQ hc h h _ rfl hr
 | nxt X e fr m L H=>exact H9 hc h fr hr
 | ops X p i fr m L H=>exact Kr hc h _ rfl hr
 | one X p i fr m L H =>
  rw[den]
  simp only[Ak,Bq] at hr
  show(match(Je E X p)[i]? with|some o=>_|none=>none)=some r
  generalize (Je E X p)[i]?=z at hr ⊢
  cases z with
  | none=>cases hr
  | some o=>exact C9 hc (fun t=>CB fun m L H=>h (.ops X p (1+i) fr m L H) r) hr
 | drw X p i tr fr m L H=>exact Kt hc h _ rfl hr
 | drw1 X p i tr fr m L H =>
  rw[den]
  simp only[Ak,Bq,CO,CU] at hr ⊢
  generalize hz:(Je E X p)[i]?=z at hr ⊢
  cases z with
  | none=>cases hr
  | some o=>exact C9 hc (fun t=>CB fun m L H=>h (.drw X p (1+i) _ fr m L H) r) hr
def Y1(E:Env)(q:Rq):Option Rsp:=Ak E (Aq (Y E)) (Y E) (Y E) q
def Y2(E:Env)(q:Rq):Option Rsp:=Ak E (Aq (Y E)) (Y E) (Y1 E) q
def Y3(E:Env)(q:Rq):Option Rsp:=Ak E (Aq (Y E)) (Y E) (Y2 E) q
def Y4(E:Env)(q:Rq):Option Rsp:=Ak E (Aq (Y E)) (Y E) (Y3 E) q
def Y5(E:Env)(q:Rq):Option Rsp:=Ak E (Aq (Y E)) (Y E) (Y4 E) q
def Y6(E:Env)(q:Rq):Option Rsp:=Ak E (Aq (Y E)) (Y E) (Y5 E) q
def Y7(E:Env)(q:Rq):Option Rsp:=Ak E (Aq (Y E)) (Y E) (Y6 E) q
def Y8(E:Env)(q:Rq):Option Rsp:=Ak E (Aq (Y E)) (Y E) (Y7 E) q
def Y9(E:Env)(q:Rq):Option Rsp:=Ak E (Aq (Y E)) (Y E) (Y8 E) q
def Y10(E:Env)(q:Rq):Option Rsp:=Ak E (Aq (Y E)) (Y E) (Y9 E) q
def Y11(E:Env)(q:Rq):Option Rsp:=Ak E (Aq (Y E)) (Y E) (Y10 E) q
def Y12(E:Env)(q:Rq):Option Rsp:=Ak E (Aq (Y E)) (Y E) (Y11 E) q
def Y13(E:Env)(q:Rq):Option Rsp:=Ak E (Aq (Y E)) (Y E) (Y12 E) q
def Y14(E:Env)(q:Rq):Option Rsp:=Ak E (Aq (Y E)) (Y E) (Y13 E) q
def Y15(E:Env)(q:Rq):Option Rsp:=Ak E (Aq (Y E)) (Y E) (Y14 E) q
def Y16(E:Env)(q:Rq):Option Rsp:=Ak E (Aq (Y E)) (Y E) (Y15 E) q
def Y17(E:Env)(q:Rq):Option Rsp:=Ak E (Aq (Y E)) (Y E) (Y16 E) q
def Y18(E:Env)(q:Rq):Option Rsp:=Ak E (Aq (Y E)) (Y E) (Y17 E) q
def Y19(E:Env)(q:Rq):Option Rsp:=Ak E (Aq (Y E)) (Y E) (Y18 E) q
def Y20(E:Env)(q:Rq):Option Rsp:=Ak E (Aq (Y E)) (Y E) (Y19 E) q
def Y21(E:Env)(q:Rq):Option Rsp:=Ak E (Aq (Y E)) (Y E) (Y20 E) q
def Y22(E:Env)(q:Rq):Option Rsp:=Ak E (Aq (Y E)) (Y E) (Y21 E) q
def Y23(E:Env)(q:Rq):Option Rsp:=Ak E (Aq (Y E)) (Y E) (Y22 E) q
def Y24(E:Env)(q:Rq):Option Rsp:=Ak E (Aq (Y E)) (Y E) (Y23 E) q
def Y25(E:Env)(q:Rq):Option Rsp:=Ak E (Aq (Y E)) (Y E) (Y24 E) q
def Y26(E:Env)(q:Rq):Option Rsp:=Ak E (Aq (Y E)) (Y E) (Y25 E) q
def Y27(E:Env)(q:Rq):Option Rsp:=Ak E (Aq (Y E)) (Y E) (Y26 E) q
def Y28(E:Env)(q:Rq):Option Rsp:=Ak E (Aq (Y E)) (Y E) (Y27 E) q
def Y29(E:Env)(q:Rq):Option Rsp:=Ak E (Aq (Y E)) (Y E) (Y28 E) q
def Y30(E:Env)(q:Rq):Option Rsp:=Ak E (Aq (Y E)) (Y E) (Y29 E) q
def Y31(E:Env)(q:Rq):Option Rsp:=Ak E (Aq (Y E)) (Y E) (Y30 E) q
def Y32(E:Env)(q:Rq):Option Rsp:=Ak E (Aq (Y E)) (Y E) (Y31 E) q
def Y33(E:Env)(q:Rq):Option Rsp:=Ak E (Aq (Y E)) (Y E) (Y32 E) q
def Y34(E:Env)(q:Rq):Option Rsp:=Ak E (Aq (Y E)) (Y E) (Y33 E) q
def Y35(E:Env)(q:Rq):Option Rsp:=Ak E (Aq (Y E)) (Y E) (Y34 E) q
def Y36(E:Env)(q:Rq):Option Rsp:=Ak E (Aq (Y E)) (Y E) (Y35 E) q
def Y37(E:Env)(q:Rq):Option Rsp:=Ak E (Aq (Y E)) (Y E) (Y36 E) q
def Y38(E:Env)(q:Rq):Option Rsp:=Ak E (Aq (Y E)) (Y E) (Y37 E) q
def Y39(E:Env)(q:Rq):Option Rsp:=Ak E (Aq (Y E)) (Y E) (Y38 E) q
def Y40(E:Env)(q:Rq):Option Rsp:=Ak E (Aq (Y E)) (Y E) (Y39 E) q
theorem mF:Y=Y:=rfl
theorem mG:Y=Y1:=by funext E q;rw[Y.eq_1];show _=Ak E (Aq (Y E)) (Y E) (Y E) q;rw[<-mF]
theorem mJ:Y=Y2:=by funext E q;rw[Y.eq_1];show _=Ak E (Aq (Y E)) (Y E) (Y1 E) q;rw[<-mG]
theorem mM:Y=Y3:=by funext E q;rw[Y.eq_1];show _=Ak E (Aq (Y E)) (Y E) (Y2 E) q;rw[<-mJ]
theorem mO:Y=Y4:=by funext E q;rw[Y.eq_1];show _=Ak E (Aq (Y E)) (Y E) (Y3 E) q;rw[<-mM]
theorem mP:Y=Y5:=by funext E q;rw[Y.eq_1];show _=Ak E (Aq (Y E)) (Y E) (Y4 E) q;rw[<-mO]
theorem mQ:Y=Y6:=by funext E q;rw[Y.eq_1];show _=Ak E (Aq (Y E)) (Y E) (Y5 E) q;rw[<-mP]
theorem mV:Y=Y7:=by funext E q;rw[Y.eq_1];show _=Ak E (Aq (Y E)) (Y E) (Y6 E) q;rw[<-mQ]
theorem mW:Y=Y8:=by funext E q;rw[Y.eq_1];show _=Ak E (Aq (Y E)) (Y E) (Y7 E) q;rw[<-mV]
theorem mX:Y=Y9:=by funext E q;rw[Y.eq_1];show _=Ak E (Aq (Y E)) (Y E) (Y8 E) q;rw[<-mW]
theorem jV:Y=Y10:=by funext E q;rw[Y.eq_1];show _=Ak E (Aq (Y E)) (Y E) (Y9 E) q;rw[<-mX]
theorem jW:Y=Y11:=by funext E q;rw[Y.eq_1];show _=Ak E (Aq (Y E)) (Y E) (Y10 E) q;rw[<-jV]
theorem jX:Y=Y12:=by funext E q;rw[Y.eq_1];show _=Ak E (Aq (Y E)) (Y E) (Y11 E) q;rw[<-jW]
theorem jY:Y=Y13:=by funext E q;rw[Y.eq_1];show _=Ak E (Aq (Y E)) (Y E) (Y12 E) q;rw[<-jX]
theorem jZ:Y=Y14:=by funext E q;rw[Y.eq_1];show _=Ak E (Aq (Y E)) (Y E) (Y13 E) q;rw[<-jY]
theorem ja:Y=Y15:=by funext E q;rw[Y.eq_1];show _=Ak E (Aq (Y E)) (Y E) (Y14 E) q;rw[<-jZ]
theorem jb:Y=Y16:=by funext E q;rw[Y.eq_1];show _=Ak E (Aq (Y E)) (Y E) (Y15 E) q;rw[<-ja]
theorem jc:Y=Y17:=by funext E q;rw[Y.eq_1];show _=Ak E (Aq (Y E)) (Y E) (Y16 E) q;rw[<-jb]
theorem jd:Y=Y18:=by funext E q;rw[Y.eq_1];show _=Ak E (Aq (Y E)) (Y E) (Y17 E) q;rw[<-jc]
theorem je:Y=Y19:=by funext E q;rw[Y.eq_1];show _=Ak E (Aq (Y E)) (Y E) (Y18 E) q;rw[<-jd]
theorem jf:Y=Y20:=by funext E q;rw[Y.eq_1];show _=Ak E (Aq (Y E)) (Y E) (Y19 E) q;rw[<-je]
theorem jg:Y=Y21:=by funext E q;rw[Y.eq_1];show _=Ak E (Aq (Y E)) (Y E) (Y20 E) q;rw[<-jf]
theorem jh:Y=Y22:=by funext E q;rw[Y.eq_1];show _=Ak E (Aq (Y E)) (Y E) (Y21 E) q;rw[<-jg]
theorem ji:Y=Y23:=by funext E q;rw[Y.eq_1];show _=Ak E (Aq (Y E)) (Y E) (Y22 E) q;rw[<-jh]
theorem jk:Y=Y24:=by funext E q;rw[Y.eq_1];show _=Ak E (Aq (Y E)) (Y E) (Y23 E) q;rw[<-ji]
theorem jl:Y=Y25:=by funext E q;rw[Y.eq_1];show _=Ak E (Aq (Y E)) (Y E) (Y24 E) q;rw[<-jk]
theorem jm:Y=Y26:=by funext E q;rw[Y.eq_1];show _=Ak E (Aq (Y E)) (Y E) (Y25 E) q;rw[<-jl]
theorem jo:Y=Y27:=by funext E q;rw[Y.eq_1];show _=Ak E (Aq (Y E)) (Y E) (Y26 E) q;rw[<-jm]
theorem jq:Y=Y28:=by funext E q;rw[Y.eq_1];show _=Ak E (Aq (Y E)) (Y E) (Y27 E) q;rw[<-jo]
theorem jr:Y=Y29:=by funext E q;rw[Y.eq_1];show _=Ak E (Aq (Y E)) (Y E) (Y28 E) q;rw[<-jq]
theorem jv:Y=Y30:=by funext E q;rw[Y.eq_1];show _=Ak E (Aq (Y E)) (Y E) (Y29 E) q;rw[<-jr]
theorem jw:Y=Y31:=by funext E q;rw[Y.eq_1];show _=Ak E (Aq (Y E)) (Y E) (Y30 E) q;rw[<-jv]
theorem jy:Y=Y32:=by funext E q;rw[Y.eq_1];show _=Ak E (Aq (Y E)) (Y E) (Y31 E) q;rw[<-jw]
theorem kC:Y=Y33:=by funext E q;rw[Y.eq_1];show _=Ak E (Aq (Y E)) (Y E) (Y32 E) q;rw[<-jy]
theorem kD:Y=Y34:=by funext E q;rw[Y.eq_1];show _=Ak E (Aq (Y E)) (Y E) (Y33 E) q;rw[<-kC]
theorem kE:Y=Y35:=by funext E q;rw[Y.eq_1];show _=Ak E (Aq (Y E)) (Y E) (Y34 E) q;rw[<-kD]
theorem kF:Y=Y36:=by funext E q;rw[Y.eq_1];show _=Ak E (Aq (Y E)) (Y E) (Y35 E) q;rw[<-kE]
theorem kG:Y=Y37:=by funext E q;rw[Y.eq_1];show _=Ak E (Aq (Y E)) (Y E) (Y36 E) q;rw[<-kF]
theorem kH:Y=Y38:=by funext E q;rw[Y.eq_1];show _=Ak E (Aq (Y E)) (Y E) (Y37 E) q;rw[<-kG]
theorem kJ:Y=Y39:=by funext E q;rw[Y.eq_1];show _=Ak E (Aq (Y E)) (Y E) (Y38 E) q;rw[<-kH]
theorem kK:Y=Y40:=by funext E q;rw[Y.eq_1];show _=Ak E (Aq (Y E)) (Y E) (Y39 E) q;rw[<-kJ]
theorem JB(E:Env)(q:Rq):Y E q=Y40 E q:=by rw[<-kK]
theorem Gj{P:Program}{I:World->Prop}(h:EnvOK P I E){f:FuncId}{args:List AV}{Hin:List Rs}{s:AV}{Hout:List (Option Rs)}(hY:Y E (.call f args Hin)=some (.ret s Hout)):Og P I f args Hin s Hout:=bT h (fQ _ _ hY)
end
end
end Go.Ax
namespace Go.Ax
open Go Go.Eng Go.RowKit
set_option linter.unusedVariables false
variable (E:Env)(a:Int)(X:Fx)(b:Int)(p:List Bool)(i:Nat)
@[irreducible] def Xd {α:Type} (a b:α):Prop:=a=b
theorem Xd.rf{α:Type}(a:α):Xd a a:=by unfold Xd;rfl
theorem Xd.eq{α:Type}{a b:α}(h:Xd a b):a=b:=by simp_all[Xd]
theorem ilt_c:a<b\/b<=a:=zf
theorem ile_c:a<=b\/b<a:=zf
theorem ieq_c:a=b\/a≠b:=zf
theorem ine_c:a≠b\/a=b:=zf
theorem fU(f:Nat)(a:List AV)(H:List Rs):Y E (.call f a H)=Y40 E (.call f a H):=JB _ _
theorem fV(f k n0 m:Nat)(L:LX)(H:HX):Y E (.loop f k n0 m L H)=Y40 E (.loop f k n0 m L H):=JB _ _
theorem fZ(fr:List Fr)(m:Nat)(L:LX)(H:HX):Y E (.ops X p i fr m L H)=Y40 E (.ops X p i fr m L H):=JB _ _
theorem gB(tr:List Tr)(fr:List Fr)(m:Nat)(L:LX)(H:HX):Y E (.drw X p i tr fr m L H)=Y40 E (.drw X p i tr fr m L H):=JB _ _
theorem gG(tr:List Tr)(fr:List Fr)(m:Nat)(L:LX)(H:HX):Y E (.drw1 X p i tr fr m L H)=Y40 E (.drw1 X p i tr fr m L H):=JB _ _
theorem dB{a b:Bool}(h:a=b):BF a b=true:=by rw[WG,h];simp[beq0]
theorem dC{a b:Bool}(h:a≠b):BF a b=false:=by simp_all[WG,beq0]
theorem gI{p:Prop}(h:p:=by simp[bu,bz,UK]):p:=h
end Go.Ax
namespace Go.Ax
open Go Go.Eng Go.RowKit
set_option linter.unusedVariables false
variable {α:Type}
theorem sdcA{p:Prop}(h:p:=by first|omega|decide|assumption|(simp only[Gu,Vt,Xa,XZ,XY,OO,XX,ZO,LL] at *<;>omega)|(simp;omega)):p:=h
theorem tqeA{a b:α}(e:Xd a b:=by(try rewrite[fU]);(try rewrite[fV]);(conv=>arg 1;whnf);(repeat first|(dsimp -iota -beta -eta -zeta only)|((first|rewrite[Ls sdcA]|rewrite[bf sdcA]|rewrite[bY sdcA]|rewrite[UK]|rewrite[bi]|rewrite[dB gI]|rewrite[dC gI]|rewrite[fZ]|rewrite[gB]|rewrite[gG]|rewrite[Y_go2]|rewrite[Y_go3]|rewrite[Y_go4]|rewrite[decide_eq_true sdcA]|rewrite[decide_eq_false sdcA]|rewrite[fH sdcA]|rewrite[fJ sdcA]|rewrite[fK sdcA]|rewrite[fM sdcA]|rewrite[fD sdcA]|rewrite[fE sdcA]|rewrite[fF sdcA]|rewrite[fG sdcA]|rewrite[fO sdcA]|rewrite[fP sdcA]|rewrite[bg rfl]|rewrite[drw zi]|rewrite[We rfl]|rewrite[XV]|rewrite[cZ sdcA]|rewrite[bZ sdcA]|rewrite[lget_n sdcA]);(conv=>arg 1;whnf))|rewrite[VJ]|rewrite[VK]|rewrite[VL]|rewrite[VM]|rewrite[VN]|rewrite[VO]|rewrite[TK]|rewrite[TL]|rewrite[TM]|rewrite[TN]|rewrite[TP]|rewrite[TQ]|rewrite[ZF sdcA]|rewrite[ZG sdcA]|rewrite[ZH sdcA]|rewrite[ZI sdcA]|rewrite[ZJ sdcA]|rewrite[ZK sdcA]|rewrite[ZL sdcA]|rewrite[ZM sdcA]|rewrite[OQ]|rewrite[TR]);exact Xd.rf _):Xd a b:=e
theorem tqA{a b c:α}(h:b=c)(e:Xd a b:=by exact tqeA):a=c:=(Xd.eq e).trans h
theorem toeA{a b:α}(e:Xd a b:=by(try rewrite[fU]);(try rewrite[fV]);(conv=>arg 1;whnf);(repeat first|(dsimp -iota -beta -eta -zeta only)|((first|rewrite[Ls sdcA]|rewrite[bf sdcA]|rewrite[bY sdcA]|rewrite[UK]|rewrite[bi]|rewrite[dB gI]|rewrite[dC gI]|rewrite[fZ]|rewrite[gB]|rewrite[gG]|rewrite[Y_go2]|rewrite[Y_go3]|rewrite[Y_go4]|rewrite[decide_eq_true sdcA]|rewrite[decide_eq_false sdcA]|rewrite[fH sdcA]|rewrite[fJ sdcA]|rewrite[fK sdcA]|rewrite[fM sdcA]|rewrite[fD sdcA]|rewrite[fE sdcA]|rewrite[fF sdcA]|rewrite[fG sdcA]|rewrite[fO sdcA]|rewrite[fP sdcA]|rewrite[bg rfl]|rewrite[drw zi]|rewrite[We rfl]|rewrite[XV]|rewrite[cZ sdcA]|rewrite[bZ sdcA]);(conv=>arg 1;whnf))|rewrite[VJ]|rewrite[VK]|rewrite[VL]|rewrite[VM]|rewrite[VN]|rewrite[VO]|rewrite[TK]|rewrite[TL]|rewrite[TM]|rewrite[TN]|rewrite[TP]|rewrite[TQ]|rewrite[ZF sdcA]|rewrite[ZG sdcA]|rewrite[ZH sdcA]|rewrite[ZI sdcA]|rewrite[ZJ sdcA]|rewrite[ZK sdcA]|rewrite[ZL sdcA]|rewrite[ZM sdcA]|rewrite[OQ]|rewrite[TR]);exact Xd.rf _):Xd a b:=e
theorem toA{a b c:α}(h:b=c)(e:Xd a b:=by exact toeA):a=c:=(Xd.eq e).trans h
end Go.Ax
namespace Go.Ax
open Go Go.RowKit Go.Eng Go.ChangeShapes Go.WideShapes
set_option linter.unusedVariables false
set_option linter.unusedSimpArgs false
def Xe(P:Program):Nat->List Field->Bool
 | _,[]=>true
 | o,f::r=>Nat.beq f.offset o&&Xe P (o+P.cellsOf f.type) r
def Ij(P:Program):Nat->Ty->List TypeId->Bool
 | 0,_,_=>false
 | n+1,.unit,[]=>true
 | n+1,τ,[t]=>match P.underlying t,τ with
  | some .bool,.bool|some (.int .i64),.i64|some (.int .u8),.u8|some (.int .u32),.u32|some (.int .u64),.u64|some .string,.str=>true
  | some (.slice e),.sl a=>Ij P n a [e]
  | some (.struct fs),τ=>Xe P 0 fs.toList&&Nat.beq (P.cellsOf t) ((fs.toList.map fun f=>P.cellsOf f.type).sum)&&Ij P n τ (fs.toList.map (·.type))
  | some (.array k e),τ=>Nat.beq (P.cellsOf t) (k*P.cellsOf e)&&Ij P n τ (List.replicate k e)
  | _,_=>false
 | n+1,.pair a b,t::u::r=>Ij P n a [t]&&Ij P n b (u::r)
 | _,_,_=>false
def gJ(P:Program)(n:Nat)(t:TypeId)(τ:Ty):Bool:=match P.underlying t,τ with
  | some .bool,.bool|some (.int .i64),.i64|some (.int .u8),.u8|some (.int .u32),.u32|some (.int .u64),.u64|some .string,.str=>true
  | some (.slice e),.sl a=>Ij P n a [e]
  | some (.struct fs),τ=>Xe P 0 fs.toList&&Nat.beq (P.cellsOf t) ((fs.toList.map fun f=>P.cellsOf f.type).sum)&&Ij P n τ (fs.toList.map (·.type))
  | some (.array k e),τ=>Nat.beq (P.cellsOf t) (k*P.cellsOf e)&&Ij P n τ (List.replicate k e)
  | _,_=>false
theorem Xf(P:Program)(n:Nat)(t:TypeId)(τ:Ty):Ij P (n+1) τ [t]=gJ P n t τ:=by cases τ<;>rfl
def Wf:(t:Ty)->El t->Prop
 | .i64,x => -9223372036854775808<=x/\x<=9223372036854775807
 | .pair a b,x=>Wf a x.1/\Wf b x.2
 | .sl e,l=>List.length l<=maxLen/\∀ x∈l,Wf e x
 | .str,l=>List.length l<=maxLen
 | _,_=>True
section
variable {H:Type}{enc:TypeId×Value->H}{P:Program}{w:World}
def QR(enc:TypeId×Value->H)(P:Program)(w:World):List TypeId->List Value->Prop
 | [],cs=>cs=[]
 | t::r,cs=>P.cellsOf t<=cs.length/\(∃ n x,DataW.trod enc P w 0 (fun _=>true) true n t (cs.take (P.cellsOf t))=some x)/\QR enc P w r (cs.drop (P.cellsOf t))
theorem OU{cs:List Value}{n:Nat}:∀ {fs:List Field} {o:Nat},Xe P o fs=true->(∀(i:Nat) (f:Field),fs[i]?=some f->∃ x,DataW.trod enc P w 0 (fun _=>true) true n f.type ((cs.drop f.offset).take (P.cellsOf f.type))=some x) ->
  cs.length=o+(fs.map fun f=>P.cellsOf f.type).sum->QR enc P w (fs.map (·.type)) (cs.drop o)
 | [],o,_,_,hl=>by simp_all[QR]
 | f::r,o,ho,hf,hl=>by
  simp only[Xe,Bool.and_eq_true] at ho
  have h0:f.offset=o:=zk
  simp only[List.map_cons,List.sum_cons] at hl
  simp only[List.map_cons,QR]
  refine⟨by simp_all,?_,?_⟩
  ·obtain⟨x,hx⟩:=hf 0 f rfl
   grind
  ·rw[List.drop_drop]
   exact OU ho.2 (fun i g hg=>hf (i+1) g zn) zf
theorem UN{cs:List Value}{n:Nat}{e:TypeId}:∀ {k j:Nat},(∀ i,j<=i->i<j+k->∃ x,DataW.trod enc P w 0 (fun _=>true) true n e ((cs.drop (i*P.cellsOf e)).take (P.cellsOf e))=some x) ->
  cs.length=(j+k)*P.cellsOf e->QR enc P w (List.replicate k e) (cs.drop (j*P.cellsOf e))
 | 0,j,_,hl=>by simp_all[QR]
 | k+1,j,h,hl=>by
  simp only[List.replicate_succ,QR]
  have e1:(j+(k+1))*P.cellsOf e=j*P.cellsOf e+P.cellsOf e+k*P.cellsOf e:=zn
  refine⟨by grind,?_,?_⟩
  ·obtain⟨x,hx⟩:=h j zf zf
   grind
  ·rw[List.drop_drop]
   have:=UN (cs:=cs) (n:=n) (e:=e) (k:=k) (j:=j+1) (fun i hi hk=>h i zf zf) zn
   grind
theorem QR.len:∀ {ts:List TypeId} {cs:List Value},QR enc P w ts cs->cs.length=(ts.map fun t=>P.cellsOf t).sum
 | [],cs,h=>by simp_all[QR]
 | t::r,cs,h=>by
  have:=QR.len h.2.2
  rw[List.length_drop] at this
  simp only[List.map_cons,List.sum_cons]
  have h1:=h.1
  omega
theorem MW{α:Type}{p:Nat->α->Prop}:∀(n:Nat),(∀ i,i<n->∃ a,p i a)->∃ l:List α,l.length=n/\∀(i:Nat) (a:α),l[i]?=some a->p i a
 | 0,_=>⟨[],rfl,fun i a h=>by simp at h⟩
 | n+1,h=>by
  obtain⟨l,h1,h2⟩:=MW n fun i hi=>h i zf
  obtain⟨a,ha⟩:=h n zf
  refine⟨l++[a],by simp[h1],fun i b hb=>?_⟩
  grind
theorem UO{α β:Type}{R:α->β->Prop}:∀ {l:List α} {m:List β},l.length=m.length->(∀(i:Nat) (a:α) (b:β),l[i]?=some a->m[i]?=some b->R a b)->CV R l m
 | [],[],_,_=>trivial
 | a::l,b::m,h,hR=>⟨hR 0 a b rfl rfl,UO zA fun i x y hx hy=>hR (i+1) x y zn zn⟩
 | [],_::_,h,_|_::_,[],h,_=>zI
theorem flat_get{n:Nat}{d:List Value}:∀ {l:List (List Value)} (hl:∀ x∈l,x.length=n) {j:Nat} {u:Value},l.flatten[j]?=some u->∃ i k c,l[i]?=some c/\c[k]?=some u/\j=i*n+k/\k<n
 | [],_,j,u,h=>zI
 | x::l,hl,j,u,h=>by
  have hx:=hl x zB
  rw[List.flatten_cons] at h
  rcases Nat.lt_or_ge j x.length with hj|hj
  ·rw[List.getElem?_append_left hj] at h
   exact⟨0,j,x,rfl,h,by omega,by omega⟩
  ·rw[List.getElem?_append_right hj] at h
   obtain⟨i,k,c,h1,h2,h3,h4⟩:=flat_get (d:=d) (fun y hy=>hl y (by simp[hy])) h
   exact⟨i+1,k,c,by grind,h2,by grind,h4⟩
theorem flat_length{n:Nat}:∀ {l:List (List Value)} (hl:∀ x∈l,x.length=n),l.flatten.length=l.length*n
 | [],_=>zB
 | x::l,hl=>by
  rw[List.flatten_cons,List.length_append,flat_length (fun y hy=>hl y (by simp[hy])),hl x zB,List.length_cons,Nat.add_mul];omega
theorem opens:∀(n:Nat) {τ:Ty} {ts:List TypeId} {cs:List Value},Ij P n τ ts=true->QR enc P w ts cs->∃ x:El τ,CR τ x cs w/\Wf τ x:=by
 intro n
 induction n with
 | zero=>intro τ ts cs h;cases h
 | succ n ih =>
  intro τ ts cs h hp
  match ts,h,hp with
  | [],h,hp =>
   cases τ with
   | unit=>exact⟨(),by simpa only[CR,QR] using hp,trivial⟩
   | _=>simp[Ij] at h
  | t::u::r,h,hp =>
   cases τ with
   | pair a b =>
    simp only[Ij,Bool.and_eq_true] at h
    obtain⟨h1,h2,h3⟩:=hp
    obtain⟨m,x,hx⟩:=h2
    have hp1:QR enc P w [t] (cs.take (P.cellsOf t)):=by
     have hl:(cs.take (P.cellsOf t)).length=P.cellsOf t:=zx
     refine⟨by omega,⟨m,x,by rw[List.take_of_length_le zf];exact hx⟩,?_⟩
     simp only[QR];exact List.drop_eq_nil_of_le zf
    obtain⟨y,hy,hy'⟩:=ih h.1 hp1
    obtain⟨z,hz,hz'⟩:=ih h.2 h3
    refine⟨(y,z),?_,hy',hz'⟩
    simp only[CR]
    exact⟨_,_,(List.take_append_drop _ _).symm,hy,hz⟩
   | _=>simp[Ij] at h
  | [t],h,hp =>
   obtain⟨h1,⟨m,x,hx⟩,h3⟩:=hp
   simp only[QR] at h3
   have hcs:cs.length=P.cellsOf t:=by
    have:=congrArg List.length h3
    simp at this;omega
   rw[List.take_of_length_le zf] at hx
   rw[Xf] at h
   unfold gJ at h
   split at h
   ·rename_i hu _;obtain⟨b,rfl,_⟩:=DataW.trod_bool hu hx;exact⟨b,by simp only[CR],trivial⟩
   ·rename_i hu _;obtain⟨b,rfl,_,hw⟩:=DataW.trod_int hu hx;exact⟨b,by simp only[CR],bounds_i64 hw⟩
   ·rename_i hu _
    obtain⟨b,rfl,_,hw⟩:=DataW.trod_int hu hx
    have:=bounds_u8 hw
    refine⟨UInt8.ofNat b.toNat,?_,trivial⟩
    simp only[CR,byteV,UInt8.toNat_ofNat',List.cons.injEq,Value.int.injEq,true_and,and_true]
    omega
   ·rename_i hu _
    obtain⟨b,rfl,_,hw⟩:=DataW.trod_int hu hx
    have hb:=bounds_u32 hw
    refine⟨UInt32.ofNat b.toNat,?_,trivial⟩
    simp only[CR,wordV,UInt32.toNat_ofNat',List.cons.injEq,Value.int.injEq,true_and,and_true]
    omega
   ·rename_i hu _
    obtain⟨b,rfl,_,hw⟩:=DataW.trod_int hu hx
    have hb:=bounds_u64 hw
    refine⟨UInt64.ofNat b.toNat,?_,trivial⟩
    simp only[CR,Dk,UInt64.toNat_ofNat',List.cons.injEq,Value.int.injEq,true_and,and_true]
    omega
   ·rename_i hu _
    obtain⟨b,rfl,_,hw⟩:=DataW.trod_string hu hx
    exact⟨b.data.toList,by simp only[CR],hw⟩
   ·rename_i e a hu _
    rcases DataW.trod_slice hu hx with⟨rfl,_⟩|⟨ad,len,cap,elems,rest,n',_,rfl,_,_,hl,hmx,hlen,hel,_⟩
    ·exact⟨[],by simp only[CR];exact⟨_,[],rfl,trivial,Sl.nil _ _⟩,by show List.length _<=maxLen/\_;exact⟨by simp,fun x hx=>by cases hx⟩⟩
    ·have each:∀ i,i<len->∃ q:El a×List Value,(CR a q.1 q.2 w/\Wf a q.1)/\q.2.length=P.cellsOf e/\∀ k,k<P.cellsOf e->w.cell? (ad.add (i*P.cellsOf e+k))=q.2[k]?:=by
      intro i hi
      have h1:=hel i hi
      rw[List.getElem?_eq_getElem zf,Option.bind_eq_some_iff] at h1
      obtain⟨ci,h2,h3⟩:=h1
      obtain⟨_,h4,h5⟩:=World.cells?_some h2
      have hp1:QR enc P w [e] ci:=by
       refine⟨by omega,⟨n',_,by rw[List.take_of_length_le zf];exact h3⟩,?_⟩
       simp only[QR];exact List.drop_eq_nil_of_le zf
      obtain⟨y,hy,hy'⟩:=ih h hp1
      exact⟨(y,ci),⟨hy,hy'⟩,h4,fun k hk=>by have:=h5 k hk;rw[add_add] at this;exact this⟩
     obtain⟨l,hll,hl2⟩:=MW len each
     have hsz:∀ x∈l.map (·.2),x.length=a.n:=by
      intro x hx
      obtain⟨q,hq,rfl⟩:=List.mem_map.1 hx
      obtain⟨i,hi⟩:=List.getElem?_of_mem hq
      exact(hl2 i q hi).1.1.len
     refine⟨l.map (·.1),?_,by
      show List.length _<=maxLen/\_
      refine⟨by rw[List.length_map,hll];omega,fun x hx=>?_⟩
      obtain⟨q,hq,rfl⟩:=List.mem_map.1 hx
      obtain⟨i,hi⟩:=List.getElem?_of_mem hq
      exact(hl2 i q hi).1.2⟩
     simp only[CR]
     refine⟨_,l.map (·.2),rfl,UO zB fun i x c hx hc=>?_,?_⟩
     ·rw[List.getElem?_map,Option.map_eq_some_iff] at hx hc
      obtain⟨q,hq,rfl⟩:=hx
      obtain⟨q',hq',rfl⟩:=hc
      rw[hq] at hq';obtain rfl:=Option.some.inj hq'
      exact(hl2 i q hq).1.1
     ·refine⟨some ad,cap,by simp[hll],by rw[flat_length hsz];simp,by simp[hll];exact hl,hmx,(fun h=>by cases h),fun q hq j u hu=>?_⟩
      obtain rfl:=Option.some.inj hq
      obtain⟨i,k,c,h1,h2,h3,h4⟩:=flat_get (d:=[]) hsz hu
      rw[List.getElem?_map,Option.map_eq_some_iff] at h1
      obtain⟨q,hq,rfl⟩:=h1
      obtain⟨g1,g2,g3⟩:=hl2 i q hq
      have hn:a.n=P.cellsOf e:=by rw[<-g1.1.len,g2]
      rw[h3,hn,g3 k zf];exact h2
   ·rename_i fs hu _
    simp only[Bool.and_eq_true] at h
    obtain⟨xs,n',_,_,hl,hxl,hf⟩:=DataW.trod_struct hu hx
    refine ih h.2 ?_
    have:=OU (enc:=enc) (w:=w) (cs:=cs) (n:=n') h.1.1 (fun i f hif=>?_) (by rw[hl];have:=h.1.2;simp only[Nat.zero_add];simpa using this)
    ·simpa using this
    ·have hif':fs[i]?=some f:=by simpa using hif
     have hlt:i<xs.length:=by rw[hxl];exact(Array.getElem?_eq_some_iff.1 hif').1
     exact⟨xs[i],by rw[hf i f hif',List.getElem?_eq_getElem hlt]⟩
   ·rename_i k e hu _
    simp only[Bool.and_eq_true] at h
    obtain⟨xs,n',_,_,hl,hxl,hf⟩:=DataW.trod_array hu hx
    refine ih h.2 ?_
    have:=UN (enc:=enc) (P:=P) (w:=w) (cs:=cs) (n:=n') (e:=e) (k:=k) (j:=0) (fun i _ hi=>⟨xs[i]'zf,by rw[hf i zf,List.getElem?_eq_getElem zf]⟩) (by rw[hl];have:=h.1;simp only[Nat.zero_add];simpa using this)
    simpa using this
   ·cases h
theorem Ib{t:TypeId}{v:Value}{d:DataW H}{ps:List MemPlace}{τ:Ty}(n:Nat)(ht:Ij P n τ [t]=true)(h:DataW.Trod enc P w 0 (fun _=>true) true t v d ps)(hl:v.cells.toList.length=P.cellsOf t):∃ x:El τ,CR τ x v.cells.toList w/\Wf τ x:=by
 obtain⟨m,hm⟩:=h
 refine opens n ht ⟨by omega,⟨m,_,by rw[List.take_of_length_le zf];exact hm⟩,?_⟩
 simp_all[QR]
end
theorem CR.ext:∀ {t:Ty} {x:El t} {us:List Value} {w w':World},Ext w w'->CR t x us w->CR t x us w'
 | .bool,x,us,w,w',he,h|.i64,x,us,w,w',he,h|.u8,x,us,w,w',he,h|.u32,x,us,w,w',he,h|.u64,x,us,w,w',he,h|.str,x,us,w,w',he,h|.unit,x,us,w,w',he,h=>by simp_all[CR]
 | .pair a b,x,us,w,w',he,h=>by
  simp only[CR] at h ⊢
  obtain⟨u1,u2,h0,h1,h2⟩:=h
  exact⟨u1,u2,h0,h1.ext he,h2.ext he⟩
 | .sl e,l,us,w,w',he,h=>by
  simp only[CR] at h ⊢
  obtain⟨v,cs,h0,h1,h2⟩:=h
  exact⟨v,cs,h0,CV.mono (fun x c hx=>hx.ext he) h1,h2.ext he⟩
end Go.Ax
namespace Go.Ax
open Go Go.Eng Go.RowKit
variable {ws:List UInt32}{n i:Nat}{x:UInt32}(a b:UInt32)
theorem u32shl_eq{a:UInt32}{c:Nat}(h:c<32):AQ a c=a<<<UInt32.ofNat c:=by
 rw[WM];unfold u32shl0
 apply UInt32.toNat_inj.1
 rw[Nat.min_eq_left zf,UInt32.toNat_shiftLeft,Nat.shiftLeft_eq,UInt32.toNat_ofNat']
 have h2:c%2^32%32=c:=zf
 grind[UInt32.ofInt,UInt32.toNat_ofNat']
theorem u8u32_eq(a:UInt8):Ah a=a.toUInt32:=by rw[Yf];rfl
theorem u32or_eq:Ac .or a b=a|||b:=by rw[Yb];rfl
theorem u32xor_eq:Ac .xor a b=a^^^b:=by rw[Yb];rfl
theorem u32and_eq:Ac .and a b=a&&&b:=by rw[Yb];rfl
theorem u32add_eq:Ac .add a b=a+b:=by rw[Yb];rfl
theorem rot_eq(x:UInt32){m:UInt64}(s:Nat)(h0:0<s/\s<32)(hk:m.toNat=s):Ac .or (AQ x m.toNat) (AP x (Ad .sub (UInt64.ofNat 32) m).toNat)=jF x s:=by
 have h32:(Ad .sub (UInt64.ofNat 32) m).toNat=32-s:=by
  rw[Tt]
  show(Oj .sub (UInt64.ofNat 32) m).toNat=32-s
  grind[Oj,UInt64.toNat_sub_of_le,UInt64.le_iff_toNat_le]
 rw[h32,hk,u32shl_eq h0.2,u32shr_eq zf,u32or_eq];rfl
theorem ror_eq(x:UInt32){m:UInt64}(s:Nat)(h0:0<s/\s<32)(hk:m.toNat=s):Ac .or (AP x m.toNat) (AQ x (Ad .sub (UInt64.ofNat 32) m).toNat)=YN x s:=by
 have h32:(Ad .sub (UInt64.ofNat 32) m).toNat=32-s:=by
  rw[Tt]
  show(Oj .sub (UInt64.ofNat 32) m).toNat=32-s
  grind[Oj,UInt64.toNat_sub_of_le,UInt64.le_iff_toNat_le]
 rw[h32,hk,u32shl_eq zf,u32shr_eq h0.2,u32or_eq];rfl
theorem be32_eq(l:List UInt8)(k:Nat){a b c d:UInt8}(ha:l[k]?=some a)(hb:l[k+1]?=some b)(hc:l[k+2]?=some c)(hd:l[k+3]?=some d):
  Ac .or (Ac .or (Ac .or (AQ (Ah a) (UInt64.ofNat 24).toNat) (AQ (Ah b) (UInt64.ofNat 16).toNat)) (AQ (Ah c) (UInt64.ofNat 8).toNat)) (Ah d)=be32 l k:=by
 simp_all[u32or_eq,u8u32_eq,u32shl_eq,be32]
def OV(ws:List UInt32):List AV:=ws.map AV.u32
theorem w32l_drop(h:i<ws.length):List.drop i (OV ws)=.u32 (ws.getD i 0)::List.drop (i+1) (OV ws):=by
 simp_all[List.drop_eq_getElem_cons,OV]
theorem ble_t{a b:Nat}(h:a<=b):Nat.ble a b=true:=zk
theorem w32l_n(h:ws.length=n):OV ws=(List.range n).map fun i=>AV.u32 (ws.getD i 0):=by
 subst h;apply List.ext_getElem (by simp[OV]);simp_all[OV]
theorem w32l_x{t:Nat}(h:ws.length=n)(ht:n<=t):OV ws=(List.range n).map fun i=>AV.u32 (ws.getD i 0):=w32l_n h
theorem w32l_len(ws:List UInt32):(OV ws).length=ws.length:=by simp[OV]
theorem w32l_ble1{x:AV}(h:i<ws.length):Nat.ble (i+[x].length) (OV ws).length=true:=by rw[w32l_len];exact ble_t h
theorem w32l_set(h:i<ws.length):(OV ws).take i++[AV.u32 x]++(OV ws).drop (i+1)=OV (ws.set i x):=by
 simp[OV,List.set_eq_take_append_cons_drop,h]
theorem w32l_put{R:Type}{K:List AV->Option R}(h:i<ws.length):FX ((OV ws).take i++[AV.u32 x]++(OV ws).drop (i+[AV.u32 x].length)) K=K (OV (ws.set i x)):=by
 rw[EY];exact congrArg K (w32l_set h)
theorem w32l_s(h:ws.length=n):OV (ws.set i x)=(List.range n).map fun j=>AV.u32 ((ws.set i x).getD j 0):=w32l_n zA
end Go.Ax
