/-
  Own texts, laid together for this claim: the rules that every walk uses, which claim nothing of any program.
-/
import Derived.OpenShut
import Derived.ChangeSlices
import Derived.Test.YtnhgnfdbdflhcaaGreatDoorMgc
set_option linter.all false
namespace Go.Ax
noncomputable section
open Go Go.RowKit Go.Eng
set_option linter.unusedVariables false
set_option linter.unusedSimpArgs false
def JJ:Code->List Bool->Code
 | c,[]=>c
 | .seq a b,x::p|.cond _ a b,x::p=>(match x with|true=>JJ b p|false=>JJ a p)
 | .block _ c,_::p|.loop c,_::p=>JJ c p
 | _,_::_=>.skip
theorem PP:∀(c:Code) (p q:List Bool),JJ c (p++q)=JJ (JJ c p) q:=by
 intro c
 induction c with
 | seq a b iha ihb|cond x a b iha ihb=>intro p q;cases p with|nil=>rfl|cons x p=>cases x<;>simp only[List.cons_append,JJ]<;>first|exact iha p q|exact ihb p q
 | block id c ih|loop c ih=>intro p q;cases p with|nil=>rfl|cons x p=>simp_all[JJ]
 | _=>intro p q;cases p with|nil=>rfl|cons x p=>(simp only[List.cons_append,JJ];cases q<;>simp only[JJ])
def Jz(C:CT)(f:Nat):Code:=match y9 f C with
 | some fn=>(match fn.body with|some c=>c|none=>.skip)
 | none=>.skip
def KA(G:FT)(f:Nat):List (Plc×Plc):=match WH f G with|some fi=>fi.keep|none=>[]
def opsOf:Code->List Oper
 | .region _ ops _=>ops.toList
 | _=>[]
def NL{R:Type}:List Bool->(List Bool->R)->R
 | [],K=>K []
 | true::r,K=>NL r fun r=>K (true::r)
 | false::r,K=>NL r fun r=>K (false::r)
theorem H6{R:Type}:∀(l:List Bool) (K:List Bool->R),NL l K=K l
 | [],K=>rfl
 | true::r,K|false::r,K=>by simp only[NL,H6 r]
def Qm:Code->Nat->Option (List Bool)
 | .seq a b,k|.cond _ a b,k=>bif Nat.blt k (DN a) then(Qm a k).map (false :: ·) else(Qm b (k-DN a)).map (true :: ·)
 | .block _ c,k=>(Qm c k).map (false :: ·)
 | .loop c,k=>bif Nat.beq k 0 then some [false] else(Qm c (k-1)).map (false :: ·)
 | _,_=>none
theorem A0H:∀ {c:Code} {k:Nat} {p:List Bool},Qm c k=some p->F9 c k=some (JJ c p):=by
 intro c
 induction c with
 | seq a b iha ihb =>
  intro k p h
  simp only[Qm] at h
  simp only[F9]
  cases hb:Nat.blt k (DN a) with
  | true=>rw[hb] at h;obtain⟨q,h1,rfl⟩:=Option.map_eq_some_iff.1 h;exact iha h1
  | false=>rw[hb] at h;obtain⟨q,h1,rfl⟩:=Option.map_eq_some_iff.1 h;exact ihb h1
 | cond x a b iha ihb =>
  intro k p h
  simp only[Qm] at h
  simp only[F9]
  cases hb:Nat.blt k (DN a) with
  | true=>rw[hb] at h;obtain⟨q,h1,rfl⟩:=Option.map_eq_some_iff.1 h;exact iha h1
  | false=>rw[hb] at h;obtain⟨q,h1,rfl⟩:=Option.map_eq_some_iff.1 h;exact ihb h1
 | block id c ih =>
  intro k p h
  simp only[Qm] at h
  obtain⟨q,h1,rfl⟩:=Option.map_eq_some_iff.1 h
  exact ih h1
 | loop c ih =>
  intro k p h
  simp only[Qm] at h
  simp only[F9]
  cases hb:Nat.beq k 0 with
  | true=>rw[hb] at h;obtain rfl:=Option.some.inj h;simp_all[JJ]
  | false=>rw[hb] at h;obtain⟨q,h1,rfl⟩:=Option.map_eq_some_iff.1 h;exact ih h1
 | _=>intro k p h;cases h
inductive Fr where
 | seq (p:List Bool) (k:Nat)
 | blk (id:Nat)
 | ret
 | lup (k:Nat)
structure Fx where
 n:Nat
 f:Nat
 n0:Nat
inductive Rq where
 | call (f:Nat) (args:List AV) (H:List Rs)
 | loop (f k n0 m:Nat) (L:LX) (H:HX)
 | code (X:Fx) (p:List Bool) (k:Nat) (fr:List Fr) (m:Nat) (L:LX) (H:HX)
 | nxt (X:Fx) (e:Exit) (fr:List Fr) (m:Nat) (L:LX) (H:HX)
 | ops (X:Fx) (p:List Bool) (i:Nat) (fr:List Fr) (m:Nat) (L:LX) (H:HX)
 | one (X:Fx) (p:List Bool) (i:Nat) (fr:List Fr) (m:Nat) (L:LX) (H:HX)
 | drw (X:Fx) (p:List Bool) (i:Nat) (tr:List Tr) (fr:List Fr) (m:Nat) (L:LX) (H:HX)
 | drw1 (X:Fx) (p:List Bool) (i:Nat) (tr:List Tr) (fr:List Fr) (m:Nat) (L:LX) (H:HX)
abbrev Oyr:=Rq->Option Rsp
def CB(Q:Oyr):Orc:=fun q=>match q with
 | .call f a H=>Q (.call f a H)
 | .loop f k n0 m L H=>Q (.loop f k n0 m L H)
theorem AU(Q:Oyr)(f:Nat)(a:List AV)(H:List Rs):CB Q (.call f a H)=Q (.call f a H):=rfl
theorem EY(Q:Oyr)(f k n0 m:Nat)(L:LX)(H:HX):CB Q (.loop f k n0 m L H)=Q (.loop f k n0 m L H):=rfl
def Vk{R:Type}(d:Option Nat)(s:AV)(L:LX)(K:LX->R):R:=match d with
 | some d=>K ((d,s)::L)
 | none=>K L
theorem Xl{R:Type}(d:Option Nat)(s:AV)(L:LX)(K:LX->R):Vk d s L K=K (WI d s L):=by cases d<;>rfl
theorem A2a{R:Type}(d:Option Nat)(s:AV)(L:LX)(K:LX->R):Vk d s L K=K (match d with|some d=>(d,s)::L|none=>L):=by cases d<;>rfl
def quiet:Op->Bool
 | .move _|.assign _|.nilCheck _|.extract _ _|.unOp _ _ _=>true
 | .binOp op _ _ _ _=>(match op with|.quo=>false|.rem=>false|.shl=>false|.shr=>false|_=>true)
 | .convert _ _ _|.alloc _|.box _ _|.load _ _|.store _ _ _|.fieldAddr _ _ _|.field _ _ _|.build _ _|.makeFunc _ _ _=>true
 | .call {callee:=.builtin b,..}=>(match b with|.len=>true|.min=>true|.max=>true|_=>false)
 | _=>false
def A4K(E:Env)(X:Fx)(m:Nat)(L:LX)(H:HX):Option Rsp:=match y9 X.f E.C,WH X.f E.G with
 | some fn,some fi=>A49 E.T fi X.n0 fn.results.toList m L H
 | _,_=>none
def Tq(E:Env)(Qc:Orc)(Q:Oyr)(X:Fx):List Fr->Exit->Nat->LX->HX->Option Rsp
 | [],_,_,_,_=>none
 | .seq p k::fr,e,m,L,H=>(match e with
  | .normal=>Q (.code X p k fr m L H)
  | e=>Tq E Qc Q X fr e m L H)
 | .blk id::fr,e,m,L,H=>(match e with
  | .exit id'=>bif Nat.beq id' id then Tq E Qc Q X fr .normal m L H else Tq E Qc Q X fr (.exit id') m L H
  | e=>Tq E Qc Q X fr e m L H)
 | .ret::_,e,m,L,H=>(match e with
  | .normal|.ret=>A4K E X m L H
  | _=>none)
 | .lup k::_,e,m,L,H=>(match(KA E.G X.f)[k]? with
  | some kp=>(match e with
   | .normal=>NJ kp.1 X.n0 m L H fun m L H=>Qc (.loop X.f k X.n0 m L H)
   | e=>NJ kp.2 X.n0 m L H fun m L H=>some (.fin e m L H))
  | none=>none)
def WJ(E:Env)(Qc:Orc)(Q:Oyr)(X:Fx)(p:List Bool)(fr:List Fr):List Oper->Nat->Nat->LX->HX->Option Rsp
 | [],i,m,L,H=>Tq E Qc Q X fr .normal m L H
 | o::r,i,m,L,H=>match o.guard with
  | none=>bif XD X.n o.dst then addN 1 i fun i=>(bif quiet o.op
    then IG E.T E.G Qc (GH L) (fun k=>hlk k H) m o.op fun t=>IQ o.dst t m L H fun m L H=>WJ E Qc Q X p fr r i m L H
    else IG E.T E.G Qc (GH L) (fun k=>hlk k H) m o.op fun t=>IQ o.dst t m L H fun m L H=>Q (.ops X p i fr m L H)) else none
  | some (j,want)=>(match((opsOf (JJ (Jz E.C X.f) p))[j]?).bind (·.dst) with
   | some d'=>(match Ir d' L with
    | some (.b c)=>bif XD X.n o.dst&&Nat.blt d' X.n then
      (addN 1 i fun i1=>bif c then
       bif want then Q (.one X p i fr m ((d',.b true)::L) H)
       else Vk o.dst (.tup []) ((d',.b true)::L) fun L=>Q (.ops X p i1 fr m L H)
      else
       bif want then Vk o.dst (.tup []) ((d',.b false)::L) fun L=>Q (.ops X p i1 fr m L H)
       else Q (.one X p i fr m ((d',.b false)::L) H))
     else none
    | some (.tup [])=>bif XD X.n o.dst&&Nat.blt d' X.n then addN 1 i fun i=>Vk o.dst (.tup []) L fun L=>WJ E Qc Q X p fr r i m L H else none
    | _=>none)
   | none=>none)
def V7(E:Env)(Qc:Orc)(Q:Oyr)(X:Fx)(p:List Bool)(fr:List Fr):List Oper->Nat->List Tr->Nat->LX->HX->Option Rsp
 | [],i,tr,m,L,H=>bif Ap X.n (opsOf (JJ (Jz E.C X.f) p)).toArray tr then Q (.nxt X .normal fr m L H) else none
 | o::r,i,tr,m,L,H=>match o.guard with
  | none=>IW (o.looksAt (opsOf (JJ (Jz E.C X.f) p)).toArray) fun lk=>JC (gJ lk L) fun L'=>addN 1 i fun i=>(bif quiet o.op
    then IG E.T E.G Qc (GH L') (fun k=>hlk k H) m o.op fun t=>IQ o.dst t m L H fun m L H=>V7 E Qc Q X p fr r i (tr++[t]) m L H
    else IG E.T E.G Qc (GH L') (fun k=>hlk k H) m o.op fun t=>IQ o.dst t m L H fun m L H=>Q (.drw X p i (tr++[t]) fr m L H))
  | some (j,want)=>(match((opsOf (JJ (Jz E.C X.f) p))[j]?).bind (·.dst) with
   | some d'=>(match Ir d' L with
    | some (.b c)=>addN 1 i fun i1=>bif c then
      bif want then Q (.drw1 X p i tr fr m L H)
      else Vk o.dst (.tup []) L fun L=>Q (.drw X p i1 (tr++[⟨.tup [],[],[],true,0⟩]) fr m L H)
     else
      bif want then Vk o.dst (.tup []) L fun L=>Q (.drw X p i1 (tr++[⟨.tup [],[],[],true,0⟩]) fr m L H)
      else Q (.drw1 X p i tr fr m L H)
    | some (.tup [])=>addN 1 i fun i=>Vk o.dst (.tup []) L fun L=>V7 E Qc Q X p fr r i (tr++[⟨.tup [],[],[],true,0⟩]) m L H
    | _=>none)
   | none=>none)
def IK(E:Env)(Qc:Orc)(Qs Q:Oyr)(X:Fx):Code->List Bool->Nat->List Fr->Nat->LX->HX->Option Rsp
 | .skip,p,k,fr,m,L,H|.label _,p,k,fr,m,L,H=>Tq E Qc Q X fr .normal m L H
 | .seq a b,p,k,fr,m,L,H=>addN k (DN a) fun k2=>NL (p++[true]) fun p2=>IK E Qc Qs Q X a (p++[false]) k (.seq p2 k2::fr) m L H
 | .cond c a b,p,k,fr,m,L,H=>addN 0 k fun k=>addN k (DN a) fun k2=>NL (p++[false]) fun p1=>NL (p++[true]) fun p2=>(match GH L c with
  | some (.b t)=>bif t then Q (.code X p1 k fr m L H) else Q (.code X p2 k2 fr m L H)
  | _=>none)
 | .block id c,p,k,fr,m,L,H=>IK E Qc Qs Q X c (p++[false]) k (.blk id::fr) m L H
 | .exit id,p,k,fr,m,L,H=>Tq E Qc Q X fr (.exit id) m L H
 | .ret,p,k,fr,m,L,H=>Tq E Qc Q X fr .ret m L H
 | .region id ops false,p,k,fr,m,L,H=>NL p fun p=>NJ (Vj E.G X.f id) X.n0 m L H fun m L H=>bif (Vj E.G X.f id).meet then Qs (.ops X p 0 fr m L H) else WJ E Qc Q X p fr ops.toList 0 m L H
 | .region id ops true,p,k,fr,m,L,H=>NL p fun p=>NJ (Vj E.G X.f id) X.n0 m L H fun m L H=>bif (Vj E.G X.f id).meet then Qs (.drw X p 0 [] fr m L H) else V7 E Qc Q X p fr ops.toList 0 [] m L H
 | .loop c,p,k,fr,m,L,H=>addN 0 k fun k=>(match(KA E.G X.f)[k]? with
  | some kp=>NJ kp.1 X.n0 m L H fun m L H=>(Qc (.loop X.f k X.n0 m L H)).bind fun r=>match r with
   | .fin e m L H=>Q (.nxt X e fr m L H)
   | _=>none
  | none=>none)
 | _,_,_,_,_,_,_=>none
def Bj(E:Env)(Qc:Orc)(Qs Q:Oyr)(q:Rq):Option Rsp:=match q with
 | .call f args H=>(match E.ov (.call f args H) with
  | some r=>some r
  | none=>(match y9 f E.C,WH f E.G with
   | some fn,some _=>(match fn.body with
    | some _=>bif Nat.ble args.length fn.ntmps then addN 0 fn.ntmps fun n=>addN 0 H.length fun n0=>Q (.code ⟨n,f,n0⟩ [] 0 [.ret] n0 (argX 0 args) (hOf 0 H)) else none
    | none=>none)
   | _,_=>none))
 | .loop f k n0 m L H=>(match E.ov (.loop f k n0 m L H) with
  | some r=>some r
  | none=>addN 0 n0 fun n0=>(match y9 f E.C,WH f E.G with
   | some fn,some fi=>(match fn.body,fi.keep[k]? with
    | some c,some _=>(match Qm c k with
     | some p=>addN 0 fn.ntmps fun n=>NL p fun p=>Q (.code ⟨n,f,n0⟩ p (k+1) [.lup k] m L H)
     | none=>none)
    | _,_=>none)
   | _,_=>none))
 | .code X p k fr m L H=>IK E Qc Qs Q X (JJ (Jz E.C X.f) p) p k fr m L H
 | .nxt X e fr m L H=>Tq E Qc Q X fr e m L H
 | .ops X p i fr m L H=>WJ E Qc Q X p fr ((opsOf (JJ (Jz E.C X.f) p)).drop i) i m L H
 | .one X p i fr m L H=>(match(opsOf (JJ (Jz E.C X.f) p))[i]? with
  | some o=>addN 1 i fun i=>IG E.T E.G Qc (GH L) (fun k=>hlk k H) m o.op fun t=>IQ o.dst t m L H fun m L H=>Q (.ops X p i fr m L H)
  | none=>none)
 | .drw X p i tr fr m L H=>V7 E Qc Q X p fr ((opsOf (JJ (Jz E.C X.f) p)).drop i) i tr m L H
 | .drw1 X p i tr fr m L H=>(match(opsOf (JJ (Jz E.C X.f) p))[i]? with
  | some o=>IW (o.looksAt (opsOf (JJ (Jz E.C X.f) p)).toArray) fun lk=>JC (gJ lk L) fun L'=>addN 1 i fun i=>IG E.T E.G Qc (GH L') (fun k=>hlk k H) m o.op fun t=>IQ o.dst t m L H fun m L H=>Q (.drw X p i (tr++[t]) fr m L H)
  | none=>none)
def PQ(Q Q':Oyr):Prop:=∀ q r,Q q=some r->Q' q=some r
section
variable {E:Env}{Qc Qc':Orc}{Q Q' Qs Qs':Oyr}{X:Fx}{r:Rsp}
theorem nJ(h:PQ Q Q'):ZV (CB Q) (CB Q'):=by
 intro q r
 cases q with
 | call f a H|loop f k n0 m L H=>exact h _ _
theorem KC(hc:ZV Qc Qc')(h:PQ Q Q'):∀(fr:List Fr) {e:Exit} {m:Nat} {L:LX} {H:HX},Tq E Qc Q X fr e m L H=some r->Tq E Qc' Q' X fr e m L H=some r
 | [],e,m,L,H=>id
 | .seq p k::fr,e,m,L,H=>by
  cases e<;>first|exact h (.code X p k fr m L H) r|exact KC hc h fr
 | .blk id::fr,e,m,L,H=>by
  cases e<;>first|exact Au (KC hc h fr) (KC hc h fr)|exact KC hc h fr
 | .ret::fr,e,m,L,H=>by cases e<;>exact id
 | .lup k::fr,e,m,L,H=>by
  simp only[Tq]
  generalize (KA E.G X.f)[k]?=z
  cases z with
  | none=>exact id
  | some kp=>cases e<;>first|exact Gg fun m L H=>hc (.loop X.f k X.n0 m L H) r|exact id
theorem QN(hc:ZV Qc Qc')(h:PQ Q Q'){p:List Bool}{fr:List Fr}:∀(l:List Oper) {i m:Nat} {L:LX} {H:HX},WJ E Qc Q X p fr l i m L H=some r->WJ E Qc' Q' X p fr l i m L H=some r
 | [],i,m,L,H=>by grind[WJ,KC]
 | o::l,i,m,L,H=>by
  rw[WJ,WJ]
  simp only[ED,Xl]
  split
  ·exact Au (Au (EP hc fun t=>EQ fun m L H=>QN hc h l) (EP hc fun t=>EQ fun m L H=>h _ _)) id
  ·split
   ·split
    ·exact Au (Au (Au (h _ _) (h _ _)) (Au (h _ _) (h _ _))) id
    ·exact Au (QN hc h l) id
    ·exact id
   ·exact id
theorem QO(hc:ZV Qc Qc')(h:PQ Q Q'){p:List Bool}{fr:List Fr}:∀(l:List Oper) {i:Nat} {tr:List Tr} {m:Nat} {L:LX} {H:HX},V7 E Qc Q X p fr l i tr m L H=some r->V7 E Qc' Q' X p fr l i tr m L H=some r
 | [],i,tr,m,L,H=>by rw[V7,V7];exact Au (h _ _) id
 | o::l,i,tr,m,L,H=>by
  rw[V7,V7]
  simp only[ED,EW,Ec,Xl]
  split
  ·exact Au (EP hc fun t=>EQ fun m L H=>QO hc h l) (EP hc fun t=>EQ fun m L H=>h _ _)
  ·split
   ·split
    ·exact Au (Au (h _ _) (h _ _)) (Au (h _ _) (h _ _))
    ·exact QO hc h l
    ·exact id
   ·exact id
theorem nK(hc:ZV Qc Qc')(hs:PQ Qs Qs')(h:PQ Q Q'):∀(c:Code) {p:List Bool} {k:Nat} {fr:List Fr} {m:Nat} {L:LX} {H:HX},IK E Qc Qs Q X c p k fr m L H=some r->IK E Qc' Qs' Q' X c p k fr m L H=some r:=by
 intro c
 induction c with
 | skip|label l|exit id|ret=>intro p k fr m L H;exact KC hc h fr
 | seq a b iha ihb=>simp_all[IK,ED,H6]
 | block id c ih=>simp_all[IK]
 | cond x a b iha ihb =>
  intro p k fr m L H
  rw[IK,IK]
  simp only[ED,H6]
  split
  ·exact Au (h _ _) (h _ _)
  ·exact id
 | region id ops b =>
  intro p k fr m L H
  cases b with
  | false=>rw[IK,IK];simp only[H6];exact Gg fun m L H=>Au (hs _ _) (QN hc h _)
  | true=>rw[IK,IK];simp only[H6];exact Gg fun m L H=>Au (hs _ _) (QO hc h _)
 | loop c ih =>
  intro p k fr m L H
  rw[IK,IK]
  simp only[ED,Nat.zero_add]
  split
  ·refine Gg fun m L H hh=>?_
   obtain⟨x,h1,h2⟩:=Option.bind_eq_some_iff.1 hh
   rw[hc _ _ h1]
   simp only[Option.bind_some]
   revert h2
   split
   ·exact h _ _
   ·exact id
  ·exact id
 | _=>simp_all[IK]
theorem nM(hc:ZV Qc Qc')(hs:PQ Qs Qs')(h:PQ Q Q'):PQ (Bj E Qc Qs Q) (Bj E Qc' Qs' Q'):=by
 intro q r
 cases q with
 | call f args H =>
  simp only[Bj,ED]
  split
  ·exact id
  ·split
   ·split
    ·exact Au (h _ _) id
    ·exact id
   ·exact id
 | loop f k n0 m L H =>
  simp only[Bj,ED,H6]
  split
  ·exact id
  ·split
   ·split
    ·split
     ·exact h _ _
     ·exact id
    ·exact id
   ·exact id
 | code X p k fr m L H=>exact nK hc hs h _
 | nxt X e fr m L H=>exact KC hc h fr
 | ops X p i fr m L H=>exact QN hc h _
 | one X p i fr m L H =>
  simp only[Bj,ED]
  split
  ·exact EP hc fun t=>EQ fun m L H=>h _ _
  ·exact id
 | drw X p i tr fr m L H=>exact QO hc h _
 | drw1 X p i tr fr m L H =>
  simp only[Bj,EW,Ec,ED]
  split
  ·exact EP hc fun t=>EQ fun m L H=>h _ _
  ·exact id
end
def Y(E:Env)(q:Rq):Option Rsp:=Bj E (CB (Y E)) (Y E) (Y E) q
partial_fixpoint monotonicity by
 intro F1 F2 h q
 have hQ:PQ F1 F2:=fun q r hq=>by
  have hr:=h q
  generalize F2 q=z at hr ⊢
  generalize F1 q=y at hr hq
  subst hq
  cases hr
  rfl
 have hm:=nM (E:=E) (nJ hQ) hQ hQ q
 dsimp only
 generalize Bj E (CB F2) F2 F2 q=z at hm ⊢
 generalize Bj E (CB F1) F1 F1 q=y at hm ⊢
 cases y with
 | none=>exact .bot
 | some r=>grind
abbrev yA(E:Env)(X:Fx)(p:List Bool):Code:=JJ (Jz E.C X.f) p
abbrev Qn(E:Env)(X:Fx)(p:List Bool):List Oper:=opsOf (yA E X p)
def KF(E:Env)(X:Fx):List Fr->Exit->Nat->LX->HX->Option Rsp
 | [],_,_,_,_=>none
 | .seq p k::fr,e,m,L,H=>(match e with
  | .normal=>Oc E.T E.G (F E) X.n X.f X.n0 (KA E.G X.f) (yA E X p) k m L H (KF E X fr)
  | e=>KF E X fr e m L H)
 | .blk id::fr,e,m,L,H=>(match e with
  | .exit id'=>bif Nat.beq id' id then KF E X fr .normal m L H else KF E X fr (.exit id') m L H
  | e=>KF E X fr e m L H)
 | .ret::_,e,m,L,H=>(match e with
  | .normal|.ret=>A4K E X m L H
  | _=>none)
 | .lup k::_,e,m,L,H=>(match(KA E.G X.f)[k]? with
  | some kp=>(match e with
   | .normal=>NJ kp.1 X.n0 m L H fun m L H=>F E (.loop X.f k X.n0 m L H)
   | e=>NJ kp.2 X.n0 m L H fun m L H=>some (.fin e m L H))
  | none=>none)
def den(E:Env):Rq->Option Rsp
 | .call f args H=>F E (.call f args H)
 | .loop f k n0 m L H=>F E (.loop f k n0 m L H)
 | .code X p k fr m L H=>Oc E.T E.G (F E) X.n X.f X.n0 (KA E.G X.f) (yA E X p) k m L H (KF E X fr)
 | .nxt X e fr m L H=>KF E X fr e m L H
 | .ops X p i fr m L H=>Ih E.T E.G (F E) X.n (Qn E X p) ((Qn E X p).drop i) m L H fun m L H=>KF E X fr .normal m L H
 | .one X p i fr m L H=>(match(Qn E X p)[i]? with
  | some o=>IG E.T E.G (F E) (GH L) (fun k=>hlk k H) m o.op fun t=>IQ o.dst t m L H fun m L H=>Ih E.T E.G (F E) X.n (Qn E X p) ((Qn E X p).drop (1+i)) m L H fun m L H=>KF E X fr .normal m L H
  | none=>none)
 | .drw X p i tr fr m L H=>II E.T E.G (F E) (Qn E X p) ((Qn E X p).drop i) tr m L H fun tr m L H=>bif Ap X.n (Qn E X p).toArray tr then KF E X fr .normal m L H else none
 | .drw1 X p i tr fr m L H=>(match(Qn E X p)[i]? with
  | some o=>IW (o.looksAt (Qn E X p).toArray) fun lk=>JC (gJ lk L) fun L'=>IG E.T E.G (F E) (GH L') (fun k=>hlk k H) m o.op fun t=>IQ o.dst t m L H fun m L H=>II E.T E.G (F E) (Qn E X p) ((Qn E X p).drop (1+i)) (tr++[t]) m L H fun tr m L H=>bif Ap X.n (Qn E X p).toArray tr then KF E X fr .normal m L H else none
  | none=>none)
section
variable {E:Env}{Qc:Orc}{Q Qs:Oyr}{X:Fx}{r:Rsp}
theorem wF(h:PQ Q (den E)):ZV (CB Q) (F E):=by
 intro q r
 cases q with
 | call f a H=>exact h (.call f a H) r
 | loop f k n0 m L H=>exact h (.loop f k n0 m L H) r
theorem MH(hc:ZV Qc (F E))(h:PQ Q (den E)):∀(fr:List Fr) {e:Exit} {m:Nat} {L:LX} {H:HX},Tq E Qc Q X fr e m L H=some r->KF E X fr e m L H=some r
 | [],e,m,L,H=>id
 | .seq p k::fr,e,m,L,H=>by
  cases e<;>first|exact h (.code X p k fr m L H) r|exact MH hc h fr
 | .blk id::fr,e,m,L,H=>by
  cases e<;>first|exact Au (MH hc h fr) (MH hc h fr)|exact MH hc h fr
 | .ret::fr,e,m,L,H=>by cases e<;>exact id
 | .lup k::fr,e,m,L,H=>by
  simp only[Tq,KF]
  generalize (KA E.G X.f)[k]?=z
  cases z with
  | none=>exact id
  | some kp=>cases e<;>first|exact Gg fun m L H=>hc (.loop X.f k X.n0 m L H) r|exact id
theorem sS{α:Type}{l t:List α}{i:Nat}{o:α}(h:l.drop i=o::t):l[i]?=some o/\l.drop (1+i)=t:=by
 constructor
 ·have:=congrArg (fun z=>z[0]?) h
  grind
 ·have:=congrArg (fun z=>z.drop 1) h
  grind[List.drop_drop]
theorem Tt(hc:ZV Qc (F E))(h:PQ Q (den E)){p:List Bool}{fr:List Fr}:∀(l:List Oper) {i m:Nat} {L:LX} {H:HX},(Qn E X p).drop i=l->WJ E Qc Q X p fr l i m L H=some r->Ih E.T E.G (F E) X.n (Qn E X p) l m L H (fun m L H=>KF E X fr .normal m L H)=some r
 | [],i,m,L,H,_=>by grind[WJ,Ih,MH]
 | o::l,i,m,L,H,hl=>by
  obtain⟨h1,h2⟩:=sS hl
  have hops:∀ {m L H},Q (.ops X p (1+i) fr m L H)=some r->Ih E.T E.G (F E) X.n (Qn E X p) l m L H (fun m L H=>KF E X fr .normal m L H)=some r:=fun hh=>by
   have:=h _ _ hh
   simp_all[den]
  have hone:∀ {m L H},Q (.one X p i fr m L H)=some r->(IG E.T E.G (F E) (GH L) (fun k=>hlk k H) m o.op fun t=>IQ o.dst t m L H fun m L H=>Ih E.T E.G (F E) X.n (Qn E X p) l m L H fun m L H=>KF E X fr .normal m L H)=some r:=fun hh=>by
   have:=h _ _ hh
   simp_all[den]
  rw[WJ,Ih]
  simp only[ED,A2a]
  generalize o.guard=g
  cases g with
  | none =>
   refine Au (fun hh=>?_) id
   cases hq:quiet o.op with
   | true =>
    rw[hq,cond_true] at hh
    exact EP hc (fun t=>EQ fun m L H=>Tt hc h l h2) hh
   | false =>
    rw[hq,cond_false] at hh
    exact EP hc (fun t=>EQ fun m L H=>hops) hh
  | some q =>
   obtain⟨j,want⟩:=q
   simp only
   generalize ((Qn E X p)[j]?).bind (·.dst)=x
   cases x with
   | none=>exact id
   | some d' =>
    simp only
    generalize Ir d' L=y
    match y with
    | some (.b c)=>grind
    | some (.tup [])=>exact Au (Tt hc h l h2) id
    | none|some .un|some (.i _)|some (.u8 _)|some (.u32 _)|some (.u64 _)|some (.str _)|some (.sl _ _)|some (.st _ _)|some (.sn _ _)|some .nil|some (.gp _)|some (.nm _)|some (.pa _ _)|some (.pe _ _ _ _)|some (.vs _ _ _ _)|some (.pt _)|some (.agg _)|some (.tup (_::_))|some (.fn _ _ _)=>exact fun hh=>by cases hh
theorem Tu(hc:ZV Qc (F E))(h:PQ Q (den E)){p:List Bool}{fr:List Fr}:∀(l:List Oper) {i:Nat} {tr:List Tr} {m:Nat} {L:LX} {H:HX},(Qn E X p).drop i=l->V7 E Qc Q X p fr l i tr m L H=some r->II E.T E.G (F E) (Qn E X p) l tr m L H (fun tr m L H=>bif Ap X.n (Qn E X p).toArray tr then KF E X fr .normal m L H else none)=some r
 | [],i,tr,m,L,H,_=>by rw[V7,II];exact Au (h (.nxt X .normal fr m L H) r) id
 | o::l,i,tr,m,L,H,hl=>by
  obtain⟨h1,h2⟩:=sS hl
  have hops:∀ {tr m L H},Q (.drw X p (1+i) tr fr m L H)=some r->II E.T E.G (F E) (Qn E X p) l tr m L H (fun tr m L H=>bif Ap X.n (Qn E X p).toArray tr then KF E X fr .normal m L H else none)=some r:=fun hh=>by
   have:=h _ _ hh
   simp_all[den]
  have hone:∀ {tr m L H},Q (.drw1 X p i tr fr m L H)=some r->(IG E.T E.G (F E) (GH (gJ (o.looksAt (Qn E X p).toArray) L)) (fun k=>hlk k H) m o.op fun t=>IQ o.dst t m L H fun m L H=>II E.T E.G (F E) (Qn E X p) l (tr++[t]) m L H (fun tr m L H=>bif Ap X.n (Qn E X p).toArray tr then KF E X fr .normal m L H else none))=some r:=fun hh=>by
   have:=h _ _ hh
   simp_all[den,EW,Ec]
  rw[V7,II]
  simp only[ED,EW,Ec,Xl]
  generalize o.guard=g
  cases g with
  | none =>
   intro hh
   cases hq:quiet o.op with
   | true =>
    rw[hq,cond_true] at hh
    exact EP hc (fun t=>EQ fun m L H=>Tu hc h l h2) hh
   | false =>
    rw[hq,cond_false] at hh
    exact EP hc (fun t=>EQ fun m L H=>hops) hh
  | some q =>
   obtain⟨j,want⟩:=q
   simp only
   generalize ((Qn E X p)[j]?).bind (·.dst)=x
   cases x with
   | none=>exact id
   | some d' =>
    simp only
    generalize Ir d' L=y
    match y with
    | some (.b c)=>grind
    | some (.tup [])=>exact Tu hc h l h2
    | none|some .un|some (.i _)|some (.u8 _)|some (.u32 _)|some (.u64 _)|some (.str _)|some (.sl _ _)|some (.st _ _)|some (.sn _ _)|some .nil|some (.gp _)|some (.nm _)|some (.pa _ _)|some (.pe _ _ _ _)|some (.vs _ _ _ _)|some (.pt _)|some (.agg _)|some (.tup (_::_))|some (.fn _ _ _)=>exact fun hh=>by cases hh
theorem A0I(c:Code):JJ c []=c:=by simp_all[JJ]
theorem wG(hc:ZV Qc (F E))(hs:PQ Qs (den E))(h:PQ Q (den E)):∀(c:Code) {p:List Bool} {k:Nat} {fr:List Fr} {m:Nat} {L:LX} {H:HX},yA E X p=c->IK E Qc Qs Q X c p k fr m L H=some r->Oc E.T E.G (F E) X.n X.f X.n0 (KA E.G X.f) c k m L H (KF E X fr)=some r:=by
 intro c
 induction c with
 | skip|label l|exit id|ret=>intro p k fr m L H _;exact MH hc h fr
 | seq a b iha ihb =>
  intro p k fr m L H hcd hh
  rw[IK] at hh
  simp only[ED,H6] at hh
  have ha:yA E X (p++[false])=a:=zbt
  have hb:yA E X (p++[true])=b:=zbt
  have:=iha ha hh
  rw[Oc]
  refine NZ (fun _ _ h=>h) a (fun e m L H=>?_) this
  grind[KF]
 | block id c ih =>
  intro p k fr m L H hcd hh
  rw[IK] at hh
  have ha:yA E X (p++[false])=c:=zbt
  have:=ih ha hh
  rw[Oc]
  refine NZ (fun _ _ h=>h) c (fun e m L H=>?_) this
  cases e<;>exact _root_.id
 | cond x a b iha ihb =>
  intro p k fr m L H hcd
  have ha:yA E X (p++[false])=a:=zbt
  have hb:yA E X (p++[true])=b:=zbt
  rw[IK,Oc]
  simp only[ED,H6,Nat.zero_add]
  generalize GH L x=y
  match y with
  | some (.b c)=>exact Au (fun hh=>by have:=h _ _ hh;simp_all[den]) (fun hh=>by have:=h _ _ hh;simp_all[den])
  | none|some .un|some (.i _)|some (.u8 _)|some (.u32 _)|some (.u64 _)|some (.str _)|some (.sl _ _)|some (.st _ _)|some (.sn _ _)|some .nil|some (.gp _)|some (.nm _)|some (.pa _ _)|some (.pe _ _ _ _)|some (.vs _ _ _ _)|some (.pt _)|some (.agg _)|some (.tup _)|some (.fn _ _ _)=>exact fun hh=>by cases hh
 | region id ops b =>
  intro p k fr m L H hcd
  have ho:Qn E X p=ops.toList:=by unfold Qn;rw[hcd];rfl
  cases b with
  | false =>
   rw[IK,Oc];simp only[H6]
   refine Gg fun m L H hh=>?_
   revert hh
   cases (Vj E.G X.f id).meet with
   | true =>
    intro hh
    have:=hs _ _ hh
    simp_all[den]
   | false =>
    intro hh
    have:=Tt hc h ops.toList (p:=p) (fr:=fr) zaB hh
    simp_all
  | true =>
   rw[IK,Oc];simp only[H6]
   refine Gg fun m L H hh=>?_
   revert hh
   cases (Vj E.G X.f id).meet with
   | true =>
    intro hh
    have:=hs _ _ hh
    simp_all[den]
   | false =>
    intro hh
    have:=Tu hc h ops.toList (p:=p) (fr:=fr) zaB hh
    simp_all
 | loop c ih =>
  intro p k fr m L H hcd
  rw[IK,Oc]
  simp only[ED,Nat.zero_add]
  generalize (KA E.G X.f)[k]?=z
  cases z with
  | none=>exact id
  | some kp =>
   refine Gg fun m L H hh=>?_
   obtain⟨x,h1,h2⟩:=Option.bind_eq_some_iff.1 hh
   rw[show F E (.loop X.f k X.n0 m L H)=some x from hc (.loop X.f k X.n0 m L H) x h1]
   simp only[Option.bind_some]
   cases x with
   | fin e m L H=>exact h (.nxt X e fr m L H) r h2
   | ret s H=>cases h2
 | _=>simp_all[IK]
theorem A5D:∀ q r,Y E q=some r->den E q=some r:=by
 refine Y.partial_correctness E _ fun Q hQ q r hr=>?_
 have h:PQ Q (den E):=hQ
 have hc:=wF h
 cases q with
 | call f args H =>
  rw[den,F.eq_1]
  simp only[Bj,ED,Nat.zero_add] at hr
  unfold PL
  split at hr
  ·simp_all
  ·rename_i ho
   rw[ho]
   simp only[ED,Nat.zero_add]
   split at hr
   ·rename_i fn fi hcf hfi
    rw[hcf,hfi]
    simp only
    split at hr
    ·rename_i c hb
     rw[hb]
     simp only
     revert hr
     refine Au (fun hr=>?_) id
     have:=h _ _ hr
     have e1:yA E ⟨fn.ntmps,f,H.length⟩ []=c:=by simp_all[Jz,A0I]
     have e2:KA E.G f=fi.keep:=by grind[KA]
     rw[den,e1] at this
     simp only[e2] at this
     refine NZ (fun _ _ h=>h) c (fun e m L H=>?_) this
     grind[KF,A4K]
    ·cases hr
   ·cases hr
 | loop f k n0 m L H =>
  rw[den,F.eq_1]
  simp only[Bj,ED,Nat.zero_add,H6] at hr
  unfold PL
  split at hr
  ·simp_all
  ·rename_i ho
   rw[ho]
   simp only
   split at hr
   ·rename_i fn fi hcf hfi
    rw[hcf,hfi]
    simp only
    split at hr
    ·rename_i c kp hb hkp
     rw[hb,hkp]
     simp only
     split at hr
     ·rename_i p hl
      rw[A0H hl]
      simp only
      have:=h _ _ hr
      have e1:yA E ⟨fn.ntmps,f,n0⟩ p=JJ c p:=by simp_all[yA,Jz]
      have e2:KA E.G f=fi.keep:=by grind[KA]
      rw[den,e1] at this
      simp only[e2] at this
      refine NZ (fun _ _ h=>h) _ (fun e m L H=>?_) this
      grind[KF]
     ·cases hr
    ·cases hr
   ·cases hr
 | code X p k fr m L H=>exact wG hc h h _ rfl hr
 | nxt X e fr m L H=>exact MH hc h fr hr
 | ops X p i fr m L H=>exact Tt hc h _ rfl hr
 | one X p i fr m L H =>
  rw[den]
  simp only[Bj,ED] at hr
  show(match(Qn E X p)[i]? with|some o=>_|none=>none)=some r
  generalize (Qn E X p)[i]?=z at hr ⊢
  cases z with
  | none=>cases hr
  | some o=>exact EP hc (fun t=>EQ fun m L H=>h (.ops X p (1+i) fr m L H) r) hr
 | drw X p i tr fr m L H=>exact Tu hc h _ rfl hr
 | drw1 X p i tr fr m L H =>
  rw[den]
  simp only[Bj,ED,EW,Ec] at hr ⊢
  generalize hz:(Qn E X p)[i]?=z at hr ⊢
  cases z with
  | none=>cases hr
  | some o=>exact EP hc (fun t=>EQ fun m L H=>h (.drw X p (1+i) _ fr m L H) r) hr
def Y1(E:Env)(q:Rq):Option Rsp:=Bj E (CB (Y E)) (Y E) (Y E) q
def Y2(E:Env)(q:Rq):Option Rsp:=Bj E (CB (Y E)) (Y E) (Y1 E) q
def Y3(E:Env)(q:Rq):Option Rsp:=Bj E (CB (Y E)) (Y E) (Y2 E) q
def Y4(E:Env)(q:Rq):Option Rsp:=Bj E (CB (Y E)) (Y E) (Y3 E) q
def Y5(E:Env)(q:Rq):Option Rsp:=Bj E (CB (Y E)) (Y E) (Y4 E) q
def Y6(E:Env)(q:Rq):Option Rsp:=Bj E (CB (Y E)) (Y E) (Y5 E) q
def Y7(E:Env)(q:Rq):Option Rsp:=Bj E (CB (Y E)) (Y E) (Y6 E) q
def Y8(E:Env)(q:Rq):Option Rsp:=Bj E (CB (Y E)) (Y E) (Y7 E) q
def Y9(E:Env)(q:Rq):Option Rsp:=Bj E (CB (Y E)) (Y E) (Y8 E) q
def Y10(E:Env)(q:Rq):Option Rsp:=Bj E (CB (Y E)) (Y E) (Y9 E) q
def Y11(E:Env)(q:Rq):Option Rsp:=Bj E (CB (Y E)) (Y E) (Y10 E) q
def Y12(E:Env)(q:Rq):Option Rsp:=Bj E (CB (Y E)) (Y E) (Y11 E) q
def Y13(E:Env)(q:Rq):Option Rsp:=Bj E (CB (Y E)) (Y E) (Y12 E) q
def Y14(E:Env)(q:Rq):Option Rsp:=Bj E (CB (Y E)) (Y E) (Y13 E) q
def Y15(E:Env)(q:Rq):Option Rsp:=Bj E (CB (Y E)) (Y E) (Y14 E) q
def Y16(E:Env)(q:Rq):Option Rsp:=Bj E (CB (Y E)) (Y E) (Y15 E) q
def Y17(E:Env)(q:Rq):Option Rsp:=Bj E (CB (Y E)) (Y E) (Y16 E) q
def Y18(E:Env)(q:Rq):Option Rsp:=Bj E (CB (Y E)) (Y E) (Y17 E) q
def Y19(E:Env)(q:Rq):Option Rsp:=Bj E (CB (Y E)) (Y E) (Y18 E) q
def Y20(E:Env)(q:Rq):Option Rsp:=Bj E (CB (Y E)) (Y E) (Y19 E) q
def Y21(E:Env)(q:Rq):Option Rsp:=Bj E (CB (Y E)) (Y E) (Y20 E) q
def Y22(E:Env)(q:Rq):Option Rsp:=Bj E (CB (Y E)) (Y E) (Y21 E) q
def Y23(E:Env)(q:Rq):Option Rsp:=Bj E (CB (Y E)) (Y E) (Y22 E) q
def Y24(E:Env)(q:Rq):Option Rsp:=Bj E (CB (Y E)) (Y E) (Y23 E) q
def Y25(E:Env)(q:Rq):Option Rsp:=Bj E (CB (Y E)) (Y E) (Y24 E) q
def Y26(E:Env)(q:Rq):Option Rsp:=Bj E (CB (Y E)) (Y E) (Y25 E) q
def Y27(E:Env)(q:Rq):Option Rsp:=Bj E (CB (Y E)) (Y E) (Y26 E) q
def Y28(E:Env)(q:Rq):Option Rsp:=Bj E (CB (Y E)) (Y E) (Y27 E) q
def Y29(E:Env)(q:Rq):Option Rsp:=Bj E (CB (Y E)) (Y E) (Y28 E) q
def Y30(E:Env)(q:Rq):Option Rsp:=Bj E (CB (Y E)) (Y E) (Y29 E) q
def Y31(E:Env)(q:Rq):Option Rsp:=Bj E (CB (Y E)) (Y E) (Y30 E) q
def Y32(E:Env)(q:Rq):Option Rsp:=Bj E (CB (Y E)) (Y E) (Y31 E) q
def Y33(E:Env)(q:Rq):Option Rsp:=Bj E (CB (Y E)) (Y E) (Y32 E) q
def Y34(E:Env)(q:Rq):Option Rsp:=Bj E (CB (Y E)) (Y E) (Y33 E) q
def Y35(E:Env)(q:Rq):Option Rsp:=Bj E (CB (Y E)) (Y E) (Y34 E) q
def Y36(E:Env)(q:Rq):Option Rsp:=Bj E (CB (Y E)) (Y E) (Y35 E) q
def Y37(E:Env)(q:Rq):Option Rsp:=Bj E (CB (Y E)) (Y E) (Y36 E) q
def Y38(E:Env)(q:Rq):Option Rsp:=Bj E (CB (Y E)) (Y E) (Y37 E) q
def Y39(E:Env)(q:Rq):Option Rsp:=Bj E (CB (Y E)) (Y E) (Y38 E) q
def Y40(E:Env)(q:Rq):Option Rsp:=Bj E (CB (Y E)) (Y E) (Y39 E) q
theorem Y_0:Y=Y:=rfl
theorem Y_1:Y=Y1:=by funext E q;rw[Y.eq_1];show _=Bj E (CB (Y E)) (Y E) (Y E) q;rw[<-Y_0]
theorem Y_2:Y=Y2:=by funext E q;rw[Y.eq_1];show _=Bj E (CB (Y E)) (Y E) (Y1 E) q;rw[<-Y_1]
theorem Y_3:Y=Y3:=by funext E q;rw[Y.eq_1];show _=Bj E (CB (Y E)) (Y E) (Y2 E) q;rw[<-Y_2]
theorem Y_4:Y=Y4:=by funext E q;rw[Y.eq_1];show _=Bj E (CB (Y E)) (Y E) (Y3 E) q;rw[<-Y_3]
theorem Y_5:Y=Y5:=by funext E q;rw[Y.eq_1];show _=Bj E (CB (Y E)) (Y E) (Y4 E) q;rw[<-Y_4]
theorem Y_6:Y=Y6:=by funext E q;rw[Y.eq_1];show _=Bj E (CB (Y E)) (Y E) (Y5 E) q;rw[<-Y_5]
theorem Y_7:Y=Y7:=by funext E q;rw[Y.eq_1];show _=Bj E (CB (Y E)) (Y E) (Y6 E) q;rw[<-Y_6]
theorem Y_8:Y=Y8:=by funext E q;rw[Y.eq_1];show _=Bj E (CB (Y E)) (Y E) (Y7 E) q;rw[<-Y_7]
theorem Y_9:Y=Y9:=by funext E q;rw[Y.eq_1];show _=Bj E (CB (Y E)) (Y E) (Y8 E) q;rw[<-Y_8]
theorem A5z:Y=Y10:=by funext E q;rw[Y.eq_1];show _=Bj E (CB (Y E)) (Y E) (Y9 E) q;rw[<-Y_9]
theorem A60:Y=Y11:=by funext E q;rw[Y.eq_1];show _=Bj E (CB (Y E)) (Y E) (Y10 E) q;rw[<-A5z]
theorem A61:Y=Y12:=by funext E q;rw[Y.eq_1];show _=Bj E (CB (Y E)) (Y E) (Y11 E) q;rw[<-A60]
theorem A62:Y=Y13:=by funext E q;rw[Y.eq_1];show _=Bj E (CB (Y E)) (Y E) (Y12 E) q;rw[<-A61]
theorem A63:Y=Y14:=by funext E q;rw[Y.eq_1];show _=Bj E (CB (Y E)) (Y E) (Y13 E) q;rw[<-A62]
theorem A64:Y=Y15:=by funext E q;rw[Y.eq_1];show _=Bj E (CB (Y E)) (Y E) (Y14 E) q;rw[<-A63]
theorem A65:Y=Y16:=by funext E q;rw[Y.eq_1];show _=Bj E (CB (Y E)) (Y E) (Y15 E) q;rw[<-A64]
theorem A66:Y=Y17:=by funext E q;rw[Y.eq_1];show _=Bj E (CB (Y E)) (Y E) (Y16 E) q;rw[<-A65]
theorem A67:Y=Y18:=by funext E q;rw[Y.eq_1];show _=Bj E (CB (Y E)) (Y E) (Y17 E) q;rw[<-A66]
theorem A68:Y=Y19:=by funext E q;rw[Y.eq_1];show _=Bj E (CB (Y E)) (Y E) (Y18 E) q;rw[<-A67]
theorem A69:Y=Y20:=by funext E q;rw[Y.eq_1];show _=Bj E (CB (Y E)) (Y E) (Y19 E) q;rw[<-A68]
theorem A6A:Y=Y21:=by funext E q;rw[Y.eq_1];show _=Bj E (CB (Y E)) (Y E) (Y20 E) q;rw[<-A69]
theorem A6B:Y=Y22:=by funext E q;rw[Y.eq_1];show _=Bj E (CB (Y E)) (Y E) (Y21 E) q;rw[<-A6A]
theorem A6C:Y=Y23:=by funext E q;rw[Y.eq_1];show _=Bj E (CB (Y E)) (Y E) (Y22 E) q;rw[<-A6B]
theorem A6D:Y=Y24:=by funext E q;rw[Y.eq_1];show _=Bj E (CB (Y E)) (Y E) (Y23 E) q;rw[<-A6C]
theorem A6E:Y=Y25:=by funext E q;rw[Y.eq_1];show _=Bj E (CB (Y E)) (Y E) (Y24 E) q;rw[<-A6D]
theorem A6F:Y=Y26:=by funext E q;rw[Y.eq_1];show _=Bj E (CB (Y E)) (Y E) (Y25 E) q;rw[<-A6E]
theorem A6G:Y=Y27:=by funext E q;rw[Y.eq_1];show _=Bj E (CB (Y E)) (Y E) (Y26 E) q;rw[<-A6F]
theorem A6H:Y=Y28:=by funext E q;rw[Y.eq_1];show _=Bj E (CB (Y E)) (Y E) (Y27 E) q;rw[<-A6G]
theorem A6I:Y=Y29:=by funext E q;rw[Y.eq_1];show _=Bj E (CB (Y E)) (Y E) (Y28 E) q;rw[<-A6H]
theorem A6J:Y=Y30:=by funext E q;rw[Y.eq_1];show _=Bj E (CB (Y E)) (Y E) (Y29 E) q;rw[<-A6I]
theorem A6K:Y=Y31:=by funext E q;rw[Y.eq_1];show _=Bj E (CB (Y E)) (Y E) (Y30 E) q;rw[<-A6J]
theorem A6L:Y=Y32:=by funext E q;rw[Y.eq_1];show _=Bj E (CB (Y E)) (Y E) (Y31 E) q;rw[<-A6K]
theorem A6M:Y=Y33:=by funext E q;rw[Y.eq_1];show _=Bj E (CB (Y E)) (Y E) (Y32 E) q;rw[<-A6L]
theorem A6N:Y=Y34:=by funext E q;rw[Y.eq_1];show _=Bj E (CB (Y E)) (Y E) (Y33 E) q;rw[<-A6M]
theorem A6O:Y=Y35:=by funext E q;rw[Y.eq_1];show _=Bj E (CB (Y E)) (Y E) (Y34 E) q;rw[<-A6N]
theorem A6P:Y=Y36:=by funext E q;rw[Y.eq_1];show _=Bj E (CB (Y E)) (Y E) (Y35 E) q;rw[<-A6O]
theorem A6Q:Y=Y37:=by funext E q;rw[Y.eq_1];show _=Bj E (CB (Y E)) (Y E) (Y36 E) q;rw[<-A6P]
theorem A6R:Y=Y38:=by funext E q;rw[Y.eq_1];show _=Bj E (CB (Y E)) (Y E) (Y37 E) q;rw[<-A6Q]
theorem A6S:Y=Y39:=by funext E q;rw[Y.eq_1];show _=Bj E (CB (Y E)) (Y E) (Y38 E) q;rw[<-A6R]
theorem A6T:Y=Y40:=by funext E q;rw[Y.eq_1];show _=Bj E (CB (Y E)) (Y E) (Y39 E) q;rw[<-A6S]
theorem Ae(E:Env)(q:Rq):Y E q=Y40 E q:=by rw[<-A6T]
theorem Xm{P:Program}{I:World->Prop}(h:EnvOK P I E){f:FuncId}{args:List AV}{Hin:List Rs}{s:AV}{Hout:List (Option Rs)}(hY:Y E (.call f args Hin)=some (.ret s Hout)):bJ P I f args Hin s Hout:=A4B h (A5D _ _ hY)
end
end
end Go.Ax
namespace Go.Ax
open Go Go.Eng Go.RowKit
set_option linter.unusedVariables false
variable {α:Type}(E:Env)(a:Int)(X:Fx)(b:Int)(p:List Bool)(i:Nat)
@[irreducible] def MV {α:Type} (a b:α):Prop:=a=b
theorem MV.rf(a:α):MV a a:=by unfold MV;rfl
theorem MV.eq{a b:α}(h:MV a b):a=b:=by simp_all[MV]
theorem bo(b:Bool):b=true\/b=false:=Bool.eq_false_or_eq_true b
theorem AY:a<b\/b<=a:=zaa
theorem DD:a<=b\/b<a:=zaa
theorem AL:a=b\/a≠b:=zaa
theorem AX:a≠b\/a=b:=zaa
theorem DF{l:List α}{p:α->Prop}{i:Int}(hm:∀ x∈l,p x)(h:0<=i/\i<l.length):∃ x,p x/\BZ l i=some x:=⟨l[i.toNat]'zaa,hm _ (List.getElem_mem _),E8 h⟩
theorem Xn(f:Nat)(a:List AV)(H:List Rs):Y E (.call f a H)=Y40 E (.call f a H):=Ae _ _
theorem Xo(f k n0 m:Nat)(L:LX)(H:HX):Y E (.loop f k n0 m L H)=Y40 E (.loop f k n0 m L H):=Ae _ _
theorem Xp(fr:List Fr)(m:Nat)(L:LX)(H:HX):Y E (.ops X p i fr m L H)=Y40 E (.ops X p i fr m L H):=Ae _ _
theorem Xq(tr:List Tr)(fr:List Fr)(m:Nat)(L:LX)(H:HX):Y E (.drw X p i tr fr m L H)=Y40 E (.drw X p i tr fr m L H):=Ae _ _
theorem Xr(tr:List Tr)(fr:List Fr)(m:Nat)(L:LX)(H:HX):Y E (.drw1 X p i tr fr m L H)=Y40 E (.drw1 X p i tr fr m L H):=Ae _ _
theorem S9{a b:Bool}(h:a=b):Df a b=true:=by rw[ZE,h];simp[beq0]
theorem SA{a b:Bool}(h:a≠b):Df a b=false:=by simp_all[ZE,beq0]
theorem Tv{p:Prop}(h:p:=by simp[Es,nI,EN]):p:=h
end Go.Ax
namespace Go.Ax
open Go Go.Eng Go.RowKit
set_option linter.unusedVariables false
variable {α:Type}
theorem DZ{p:Prop}(h:p:=by first|omega|decide|assumption|(simp only[A7,EE,AP,Cc,Cb,AB,AC,AO,LL] at *<;>omega)|(simp;omega)):p:=h
theorem A6U{a b:α}(e:MV a b:=by(try rewrite[Xn]);(try rewrite[Xo]);(conv=>arg 1;whnf);(repeat first|(dsimp -iota -beta -eta -zeta only)|((first|rewrite[DY DZ]|rewrite[MC DZ]|rewrite[Gy DZ]|rewrite[EN]|rewrite[OB]|rewrite[S9 Tv]|rewrite[SA Tv]|rewrite[Xp]|rewrite[Xq]|rewrite[Xr]|rewrite[Y_go2]|rewrite[Y_go3]|rewrite[Y_go4]|rewrite[decide_eq_true DZ]|rewrite[decide_eq_false DZ]|rewrite[ET DZ]|rewrite[G8 DZ]|rewrite[Gj DZ]|rewrite[Ql DZ]|rewrite[ER DZ]|rewrite[AA DZ]|rewrite[Fa DZ]|rewrite[EC DZ]|rewrite[Xh DZ]|rewrite[Xi DZ]|rewrite[Ry rfl]|rewrite[drw zas]|rewrite[Jd rfl]|rewrite[MB]|rewrite[MG DZ]|rewrite[Jq DZ]|rewrite[GY DZ]);(conv=>arg 1;whnf))|rewrite[JQ]|rewrite[Ia]|rewrite[Ju]|rewrite[Jv]|rewrite[Jw]|rewrite[Jy]|rewrite[JE]|rewrite[JF]|rewrite[JG]|rewrite[JH]|rewrite[JI]|rewrite[Hf]|rewrite[Aw DZ]|rewrite[Ce DZ]|rewrite[GR DZ]|rewrite[Ei DZ]|rewrite[Ez DZ]|rewrite[Td DZ]|rewrite[Tf DZ]|rewrite[QK DZ]|rewrite[AU]|rewrite[EY]);exact MV.rf _):MV a b:=e
theorem BQ{a b c:α}(h:b=c)(e:MV a b:=by exact A6U):a=c:=(MV.eq e).trans h
theorem A6V{a b:α}(e:MV a b:=by(try rewrite[Xn]);(try rewrite[Xo]);(conv=>arg 1;whnf);(repeat first|(dsimp -iota -beta -eta -zeta only)|((first|rewrite[DY DZ]|rewrite[MC DZ]|rewrite[Gy DZ]|rewrite[EN]|rewrite[OB]|rewrite[S9 Tv]|rewrite[SA Tv]|rewrite[Xp]|rewrite[Xq]|rewrite[Xr]|rewrite[Y_go2]|rewrite[Y_go3]|rewrite[Y_go4]|rewrite[decide_eq_true DZ]|rewrite[decide_eq_false DZ]|rewrite[ET DZ]|rewrite[G8 DZ]|rewrite[Gj DZ]|rewrite[Ql DZ]|rewrite[ER DZ]|rewrite[AA DZ]|rewrite[Fa DZ]|rewrite[EC DZ]|rewrite[Xh DZ]|rewrite[Xi DZ]|rewrite[Ry rfl]|rewrite[drw zas]|rewrite[Jd rfl]|rewrite[MB]|rewrite[MG DZ]|rewrite[Jq DZ]);(conv=>arg 1;whnf))|rewrite[JQ]|rewrite[Ia]|rewrite[Ju]|rewrite[Jv]|rewrite[Jw]|rewrite[Jy]|rewrite[JE]|rewrite[JF]|rewrite[JG]|rewrite[JH]|rewrite[JI]|rewrite[Hf]|rewrite[Aw DZ]|rewrite[Ce DZ]|rewrite[GR DZ]|rewrite[Ei DZ]|rewrite[Ez DZ]|rewrite[Td DZ]|rewrite[Tf DZ]|rewrite[QK DZ]|rewrite[AU]|rewrite[EY]);exact MV.rf _):MV a b:=e
theorem toA{a b c:α}(h:b=c)(e:MV a b:=by exact A6V):a=c:=(MV.eq e).trans h
end Go.Ax
namespace Go.Ax
open Go Go.RowKit Go.Eng Go.ChangeShapes Go.WideShapes
set_option linter.unusedVariables false
set_option linter.unusedSimpArgs false
def A0J(P:Program):Nat->List Field->Bool
 | _,[]=>true
 | o,f::r=>Nat.beq f.offset o&&A0J P (o+P.cellsOf f.type) r
def Ou(P:Program):Nat->Ty->List TypeId->Bool
 | 0,_,_=>false
 | n+1,.unit,[]=>true
 | n+1,τ,[t]=>match P.underlying t,τ with
  | some .bool,.bool|some (.int .i64),.i64|some (.int .u8),.u8|some (.int .u32),.u32|some (.int .u64),.u64|some .string,.str=>true
  | some (.slice e),.sl a=>Ou P n a [e]
  | some (.struct fs),τ=>A0J P 0 fs.toList&&Nat.beq (P.cellsOf t) ((fs.toList.map fun f=>P.cellsOf f.type).sum)&&Ou P n τ (fs.toList.map (·.type))
  | some (.array k e),τ=>Nat.beq (P.cellsOf t) (k*P.cellsOf e)&&Ou P n τ (List.replicate k e)
  | _,_=>false
 | n+1,.pair a b,t::u::r=>Ou P n a [t]&&Ou P n b (u::r)
 | _,_,_=>false
def A5E(P:Program)(n:Nat)(t:TypeId)(τ:Ty):Bool:=match P.underlying t,τ with
  | some .bool,.bool|some (.int .i64),.i64|some (.int .u8),.u8|some (.int .u32),.u32|some (.int .u64),.u64|some .string,.str=>true
  | some (.slice e),.sl a=>Ou P n a [e]
  | some (.struct fs),τ=>A0J P 0 fs.toList&&Nat.beq (P.cellsOf t) ((fs.toList.map fun f=>P.cellsOf f.type).sum)&&Ou P n τ (fs.toList.map (·.type))
  | some (.array k e),τ=>Nat.beq (P.cellsOf t) (k*P.cellsOf e)&&Ou P n τ (List.replicate k e)
  | _,_=>false
theorem A0K(P:Program)(n:Nat)(t:TypeId)(τ:Ty):Ou P (n+1) τ [t]=A5E P n t τ:=by cases τ<;>rfl
def Wf:(t:Ty)->El t->Prop
 | .i64,x => -9223372036854775808<=x/\x<=9223372036854775807
 | .pair a b,x=>Wf a x.1/\Wf b x.2
 | .sl e,l=>List.length l<=maxLen/\∀ x∈l,Wf e x
 | .str,l=>List.length l<=maxLen
 | _,_=>True
section
variable {H:Type}{enc:TypeId×Value->H}{P:Program}{w:World}
def bu(enc:TypeId×Value->H)(P:Program)(w:World):List TypeId->List Value->Prop
 | [],cs=>cs=[]
 | t::r,cs=>P.cellsOf t<=cs.length/\(∃ n x,DataW.trod enc P w 0 (fun _=>true) true n t (cs.take (P.cellsOf t))=some x)/\bu enc P w r (cs.drop (P.cellsOf t))
theorem Xt{cs:List Value}{n:Nat}:∀ {fs:List Field} {o:Nat},A0J P o fs=true->(∀(i:Nat) (f:Field),fs[i]?=some f->∃ x,DataW.trod enc P w 0 (fun _=>true) true n f.type ((cs.drop f.offset).take (P.cellsOf f.type))=some x) ->
  cs.length=o+(fs.map fun f=>P.cellsOf f.type).sum->bu enc P w (fs.map (·.type)) (cs.drop o)
 | [],o,_,_,hl=>by simp_all[bu]
 | f::r,o,ho,hf,hl=>by
  simp only[A0J,Bool.and_eq_true] at ho
  have h0:f.offset=o:=zaB
  simp only[List.map_cons,List.sum_cons] at hl
  simp only[List.map_cons,bu]
  refine⟨by simp_all,?_,?_⟩
  ·obtain⟨x,hx⟩:=hf 0 f rfl
   grind
  ·rw[List.drop_drop]
   exact Xt ho.2 (fun i g hg=>hf (i+1) g zaJ) zaa
theorem sU{cs:List Value}{n:Nat}{e:TypeId}:∀ {k j:Nat},(∀ i,j<=i->i<j+k->∃ x,DataW.trod enc P w 0 (fun _=>true) true n e ((cs.drop (i*P.cellsOf e)).take (P.cellsOf e))=some x) ->
  cs.length=(j+k)*P.cellsOf e->bu enc P w (List.replicate k e) (cs.drop (j*P.cellsOf e))
 | 0,j,_,hl=>by simp_all[bu]
 | k+1,j,h,hl=>by
  simp only[List.replicate_succ,bu]
  have e1:(j+(k+1))*P.cellsOf e=j*P.cellsOf e+P.cellsOf e+k*P.cellsOf e:=zaJ
  refine⟨by grind,?_,?_⟩
  ·obtain⟨x,hx⟩:=h j zaa zaa
   grind
  ·rw[List.drop_drop]
   have:=sU (cs:=cs) (n:=n) (e:=e) (k:=k) (j:=j+1) (fun i hi hk=>h i zaa zaa) zaJ
   grind
theorem bu.len:∀ {ts:List TypeId} {cs:List Value},bu enc P w ts cs->cs.length=(ts.map fun t=>P.cellsOf t).sum
 | [],cs,h=>by simp_all[bu]
 | t::r,cs,h=>by
  have:=bu.len h.2.2
  rw[List.length_drop] at this
  simp only[List.map_cons,List.sum_cons]
  have h1:=h.1
  omega
theorem Vl{α:Type}{p:Nat->α->Prop}:∀(n:Nat),(∀ i,i<n->∃ a,p i a)->∃ l:List α,l.length=n/\∀(i:Nat) (a:α),l[i]?=some a->p i a
 | 0,_=>⟨[],rfl,fun i a h=>by simp at h⟩
 | n+1,h=>by
  obtain⟨l,h1,h2⟩:=Vl n fun i hi=>h i zaa
  obtain⟨a,ha⟩:=h n zaa
  refine⟨l++[a],by simp[h1],fun i b hb=>?_⟩
  grind
theorem sV{α β:Type}{R:α->β->Prop}:∀ {l:List α} {m:List β},l.length=m.length->(∀(i:Nat) (a:α) (b:β),l[i]?=some a->m[i]?=some b->R a b)->Eg R l m
 | [],[],_,_=>trivial
 | a::l,b::m,h,hR=>⟨hR 0 a b rfl rfl,sV zaT fun i x y hx hy=>hR (i+1) x y zaJ zaJ⟩
 | [],_::_,h,_|_::_,[],h,_=>zbk
theorem flat_get{n:Nat}{d:List Value}:∀ {l:List (List Value)} (hl:∀ x∈l,x.length=n) {j:Nat} {u:Value},l.flatten[j]?=some u->∃ i k c,l[i]?=some c/\c[k]?=some u/\j=i*n+k/\k<n
 | [],_,j,u,h=>zbk
 | x::l,hl,j,u,h=>by
  have hx:=hl x zao
  rw[List.flatten_cons] at h
  rcases Nat.lt_or_ge j x.length with hj|hj
  ·rw[List.getElem?_append_left hj] at h
   exact⟨0,j,x,rfl,h,by omega,by omega⟩
  ·rw[List.getElem?_append_right hj] at h
   obtain⟨i,k,c,h1,h2,h3,h4⟩:=flat_get (d:=d) (fun y hy=>hl y (by simp[hy])) h
   exact⟨i+1,k,c,by grind,h2,by grind,h4⟩
theorem flat_length{n:Nat}:∀ {l:List (List Value)} (hl:∀ x∈l,x.length=n),l.flatten.length=l.length*n
 | [],_=>zao
 | x::l,hl=>by
  rw[List.flatten_cons,List.length_append,flat_length (fun y hy=>hl y (by simp[hy])),hl x zao,List.length_cons,Nat.add_mul];omega
theorem opens:∀(n:Nat) {τ:Ty} {ts:List TypeId} {cs:List Value},Ou P n τ ts=true->bu enc P w ts cs->∃ x:El τ,CR τ x cs w/\Wf τ x:=by
 intro n
 induction n with
 | zero=>intro τ ts cs h;cases h
 | succ n ih =>
  intro τ ts cs h hp
  match ts,h,hp with
  | [],h,hp =>
   cases τ with
   | unit=>exact⟨(),by simpa only[CR,bu] using hp,trivial⟩
   | _=>simp[Ou] at h
  | t::u::r,h,hp =>
   cases τ with
   | pair a b =>
    simp only[Ou,Bool.and_eq_true] at h
    obtain⟨h1,h2,h3⟩:=hp
    obtain⟨m,x,hx⟩:=h2
    have hp1:bu enc P w [t] (cs.take (P.cellsOf t)):=by
     have hl:(cs.take (P.cellsOf t)).length=P.cellsOf t:=zaC
     refine⟨by omega,⟨m,x,by rw[List.take_of_length_le zaa];exact hx⟩,?_⟩
     simp only[bu];exact List.drop_eq_nil_of_le zaa
    obtain⟨y,hy,hy'⟩:=ih h.1 hp1
    obtain⟨z,hz,hz'⟩:=ih h.2 h3
    refine⟨(y,z),?_,hy',hz'⟩
    simp only[CR]
    exact⟨_,_,(List.take_append_drop _ _).symm,hy,hz⟩
   | _=>simp[Ou] at h
  | [t],h,hp =>
   obtain⟨h1,⟨m,x,hx⟩,h3⟩:=hp
   simp only[bu] at h3
   have hcs:cs.length=P.cellsOf t:=by
    have:=congrArg List.length h3
    simp at this;omega
   rw[List.take_of_length_le zaa] at hx
   rw[A0K] at h
   unfold A5E at h
   split at h
   ·rename_i hu _;obtain⟨b,rfl,_⟩:=DataW.trod_bool hu hx;exact⟨b,by simp only[CR],trivial⟩
   ·rename_i hu _;obtain⟨b,rfl,_,hw⟩:=DataW.trod_int hu hx;exact⟨b,by simp only[CR],bounds_i64 hw⟩
   ·rename_i hu _
    obtain⟨b,rfl,_,hw⟩:=DataW.trod_int hu hx
    have:=bounds_u8 hw
    refine⟨UInt8.ofNat b.toNat,?_,trivial⟩
    simp only[CR,byteV,UInt8.toNat_ofNat',List.cons.injEq,Value.int.injEq,true_and,and_true]
    omega
   ·rename_i hu _
    obtain⟨b,rfl,_,hw⟩:=DataW.trod_int hu hx
    have hb:=bounds_u32 hw
    refine⟨UInt32.ofNat b.toNat,?_,trivial⟩
    simp only[CR,FP,UInt32.toNat_ofNat',List.cons.injEq,Value.int.injEq,true_and,and_true]
    omega
   ·rename_i hu _
    obtain⟨b,rfl,_,hw⟩:=DataW.trod_int hu hx
    have hb:=bounds_u64 hw
    refine⟨UInt64.ofNat b.toNat,?_,trivial⟩
    simp only[CR,Jj,UInt64.toNat_ofNat',List.cons.injEq,Value.int.injEq,true_and,and_true]
    omega
   ·rename_i hu _
    obtain⟨b,rfl,_,hw⟩:=DataW.trod_string hu hx
    exact⟨b.data.toList,by simp only[CR],hw⟩
   ·rename_i e a hu _
    rcases DataW.trod_slice hu hx with⟨rfl,_⟩|⟨ad,len,cap,elems,rest,n',_,rfl,_,_,hl,hmx,hlen,hel,_⟩
    ·exact⟨[],by simp only[CR];exact⟨_,[],rfl,trivial,Sl.nil _ _⟩,by show List.length _<=maxLen/\_;exact⟨by simp,fun x hx=>by cases hx⟩⟩
    ·have each:∀ i,i<len->∃ q:El a×List Value,(CR a q.1 q.2 w/\Wf a q.1)/\q.2.length=P.cellsOf e/\∀ k,k<P.cellsOf e->w.cell? (ad.add (i*P.cellsOf e+k))=q.2[k]?:=by
      intro i hi
      have h1:=hel i hi
      rw[List.getElem?_eq_getElem zaa,Option.bind_eq_some_iff] at h1
      obtain⟨ci,h2,h3⟩:=h1
      obtain⟨_,h4,h5⟩:=World.cells?_some h2
      have hp1:bu enc P w [e] ci:=by
       refine⟨by omega,⟨n',_,by rw[List.take_of_length_le zaa];exact h3⟩,?_⟩
       simp only[bu];exact List.drop_eq_nil_of_le zaa
      obtain⟨y,hy,hy'⟩:=ih h hp1
      exact⟨(y,ci),⟨hy,hy'⟩,h4,fun k hk=>by have:=h5 k hk;rw[add_add] at this;exact this⟩
     obtain⟨l,hll,hl2⟩:=Vl len each
     have hsz:∀ x∈l.map (·.2),x.length=a.n:=by
      intro x hx
      obtain⟨q,hq,rfl⟩:=List.mem_map.1 hx
      obtain⟨i,hi⟩:=List.getElem?_of_mem hq
      exact(hl2 i q hi).1.1.len
     refine⟨l.map (·.1),?_,by
      show List.length _<=maxLen/\_
      refine⟨by rw[List.length_map,hll];omega,fun x hx=>?_⟩
      obtain⟨q,hq,rfl⟩:=List.mem_map.1 hx
      obtain⟨i,hi⟩:=List.getElem?_of_mem hq
      exact(hl2 i q hi).1.2⟩
     simp only[CR]
     refine⟨_,l.map (·.2),rfl,sV zao fun i x c hx hc=>?_,?_⟩
     ·rw[List.getElem?_map,Option.map_eq_some_iff] at hx hc
      obtain⟨q,hq,rfl⟩:=hx
      obtain⟨q',hq',rfl⟩:=hc
      rw[hq] at hq';obtain rfl:=Option.some.inj hq'
      exact(hl2 i q hq).1.1
     ·refine⟨some ad,cap,by simp[hll],by rw[flat_length hsz];simp,by simp[hll];exact hl,hmx,(fun h=>by cases h),fun q hq j u hu=>?_⟩
      obtain rfl:=Option.some.inj hq
      obtain⟨i,k,c,h1,h2,h3,h4⟩:=flat_get (d:=[]) hsz hu
      rw[List.getElem?_map,Option.map_eq_some_iff] at h1
      obtain⟨q,hq,rfl⟩:=h1
      obtain⟨g1,g2,g3⟩:=hl2 i q hq
      have hn:a.n=P.cellsOf e:=by rw[<-g1.1.len,g2]
      rw[h3,hn,g3 k zaa];exact h2
   ·rename_i fs hu _
    simp only[Bool.and_eq_true] at h
    obtain⟨xs,n',_,_,hl,hxl,hf⟩:=DataW.trod_struct hu hx
    refine ih h.2 ?_
    have:=Xt (enc:=enc) (w:=w) (cs:=cs) (n:=n') h.1.1 (fun i f hif=>?_) (by rw[hl];have:=h.1.2;simp only[Nat.zero_add];simpa using this)
    ·simpa using this
    ·have hif':fs[i]?=some f:=by simpa using hif
     have hlt:i<xs.length:=by rw[hxl];exact(Array.getElem?_eq_some_iff.1 hif').1
     exact⟨xs[i],by rw[hf i f hif',List.getElem?_eq_getElem hlt]⟩
   ·rename_i k e hu _
    simp only[Bool.and_eq_true] at h
    obtain⟨xs,n',_,_,hl,hxl,hf⟩:=DataW.trod_array hu hx
    refine ih h.2 ?_
    have:=sU (enc:=enc) (P:=P) (w:=w) (cs:=cs) (n:=n') (e:=e) (k:=k) (j:=0) (fun i _ hi=>⟨xs[i]'zaa,by rw[hf i zaa,List.getElem?_eq_getElem zaa]⟩) (by rw[hl];have:=h.1;simp only[Nat.zero_add];simpa using this)
    simpa using this
   ·cases h
theorem OE{t:TypeId}{v:Value}{d:DataW H}{ps:List MemPlace}{τ:Ty}(n:Nat)(ht:Ou P n τ [t]=true)(h:DataW.Trod enc P w 0 (fun _=>true) true t v d ps)(hl:v.cells.toList.length=P.cellsOf t):∃ x:El τ,CR τ x v.cells.toList w/\Wf τ x:=by
 obtain⟨m,hm⟩:=h
 refine opens n ht ⟨by omega,⟨m,_,by rw[List.take_of_length_le zaa];exact hm⟩,?_⟩
 simp_all[bu]
end
theorem CR.ext:∀ {t:Ty} {x:El t} {us:List Value} {w w':World},Ext w w'->CR t x us w->CR t x us w'
 | .bool,x,us,w,w',he,h|.i64,x,us,w,w',he,h|.u8,x,us,w,w',he,h|.u32,x,us,w,w',he,h|.u64,x,us,w,w',he,h|.str,x,us,w,w',he,h|.unit,x,us,w,w',he,h=>by simp_all[CR]
 | .pair a b,x,us,w,w',he,h=>by
  simp only[CR] at h ⊢
  obtain⟨u1,u2,h0,h1,h2⟩:=h
  exact⟨u1,u2,h0,h1.ext he,h2.ext he⟩
 | .sl e,l,us,w,w',he,h=>by
  simp only[CR] at h ⊢
  obtain⟨v,cs,h0,h1,h2⟩:=h
  exact⟨v,cs,h0,Eg.mono (fun x c hx=>hx.ext he) h1,h2.ext he⟩
end Go.Ax
namespace Go.Ax
open Go Go.Eng Go.RowKit
variable {ws:List UInt32}{n i:Nat}{x:UInt32}(a b:UInt32)
theorem V8{a:UInt32}{c:Nat}(h:c<32):BG a c=a<<<UInt32.ofNat c:=by
 rw[gB];unfold u32shl0
 apply UInt32.toNat_inj.1
 rw[Nat.min_eq_left zaa,UInt32.toNat_shiftLeft,Nat.shiftLeft_eq,UInt32.toNat_ofNat']
 have h2:c%2^32%32=c:=zaa
 grind[UInt32.ofInt,UInt32.toNat_ofNat']
theorem A0L(a:UInt8):Bz a=a.toUInt32:=by rw[rC];rfl
theorem Xu:Ba .or a b=a|||b:=by rw[TD];rfl
theorem Gh:Ba .xor a b=a^^^b:=by rw[TD];rfl
theorem I7:Ba .and a b=a&&&b:=by rw[TD];rfl
theorem Ib:Ba .add a b=a+b:=by rw[TD];rfl
theorem A0M(x:UInt32){m:UInt64}(s:Nat)(h0:0<s/\s<32)(hk:m.toNat=s):Ba .or (BG x m.toNat) (BB x (Bl .sub (UInt64.ofNat 32) m).toNat)=fH x s:=by
 have h32:(Bl .sub (UInt64.ofNat 32) m).toNat=32-s:=by
  rw[Eb]
  show(SQ .sub (UInt64.ofNat 32) m).toNat=32-s
  grind[SQ,UInt64.toNat_sub_of_le,UInt64.le_iff_toNat_le]
 rw[h32,hk,V8 h0.2,I5 zaa,Xu];rfl
theorem A4L(x:UInt32){m:UInt64}(s:Nat)(h0:0<s/\s<32)(hk:m.toNat=s):Ba .or (BB x m.toNat) (BG x (Bl .sub (UInt64.ofNat 32) m).toNat)=OY x s:=by
 have h32:(Bl .sub (UInt64.ofNat 32) m).toNat=32-s:=by
  rw[Eb]
  show(SQ .sub (UInt64.ofNat 32) m).toNat=32-s
  grind[SQ,UInt64.toNat_sub_of_le,UInt64.le_iff_toNat_le]
 rw[h32,hk,V8 zaa,I5 h0.2,Xu];rfl
theorem sW(l:List UInt8)(k:Nat){a b c d:UInt8}(ha:l[k]?=some a)(hb:l[k+1]?=some b)(hc:l[k+2]?=some c)(hd:l[k+3]?=some d):
  Ba .or (Ba .or (Ba .or (BG (Bz a) (UInt64.ofNat 24).toNat) (BG (Bz b) (UInt64.ofNat 16).toNat)) (BG (Bz c) (UInt64.ofNat 8).toNat)) (Bz d)=be32 l k:=by
 simp_all[Xu,A0L,V8,be32]
def FU(ws:List UInt32):List AV:=ws.map AV.u32
theorem Dh(h:i<ws.length):List.drop i (FU ws)=.u32 (ws.getD i 0)::List.drop (i+1) (FU ws):=by
 simp_all[List.drop_eq_getElem_cons,FU]
theorem A5F{a b:Nat}(h:a<=b):Nat.ble a b=true:=zaB
theorem Cf(h:ws.length=n):FU ws=(List.range n).map fun i=>AV.u32 (ws.getD i 0):=by
 subst h;apply List.ext_getElem (by simp[FU]);simp_all[FU]
theorem A0N{t:Nat}(h:ws.length=n)(ht:n<=t):FU ws=(List.range n).map fun i=>AV.u32 (ws.getD i 0):=Cf h
theorem A0O(ws:List UInt32):(FU ws).length=ws.length:=by simp[FU]
theorem JS{x:AV}(h:i<ws.length):Nat.ble (i+[x].length) (FU ws).length=true:=by rw[A0O];exact A5F h
theorem A0P(h:i<ws.length):(FU ws).take i++[AV.u32 x]++(FU ws).drop (i+1)=FU (ws.set i x):=by
 simp[FU,List.set_eq_take_append_cons_drop,h]
theorem Kr{R:Type}{K:List AV->Option R}(h:i<ws.length):IP ((FU ws).take i++[AV.u32 x]++(FU ws).drop (i+[AV.u32 x].length)) K=K (FU (ws.set i x)):=by
 rw[Gw];exact congrArg K (A0P h)
theorem Ik(h:ws.length=n):FU (ws.set i x)=(List.range n).map fun j=>AV.u32 ((ws.set i x).getD j 0):=Cf zaT
end Go.Ax
