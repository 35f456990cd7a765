/-
  Own texts, laid together for this claim: the rules that every walk uses, which claim nothing of any program.
-/
import Derived.Laws.BitsLemmas
import Derived.Test.YtanagnimhaemgaaGreatDoorQgb
set_option linter.all false
namespace Go.Ax
variable {t:Tr}{k:Nat}
noncomputable section
open Go Go.RowKit Go.Eng
set_option linter.unusedVariables false
set_option linter.unusedSimpArgs false
theorem dO{lk:List Nat}{t:Nat}{s:AV}:∀ {L:LX},J5 t (iV lk L)=some s->O9 t lk=true/\J5 t L=some s
 | [],h=>zaL
 | (d,v)::L,h=>by
  simp only[iV] at h
  rw[FP]
  cases hm:O9 d lk with
  | false =>
   rw[hm] at h
   obtain⟨h1,h2⟩:=dO (L:=L) h
   grind
  | true =>
   rw[hm] at h
   simp only[cond_true] at h
   rw[FP] at h
   by_cases e:t=d
   ·simp_all
   ·rw[if_neg e] at h ⊢;exact dO (L:=L) h
def Obl(P:Program)(I:World->Prop)(ops:Array Oper)(o:Oper)(L:LX)(t:Tr):Prop:=match o.guard with
 | none=>OPL P I (iV (o.looksAt ops) L) t.F o.op o.type t.s t.F'
 | some (j,want)=>∃ d v,Eb ops j=some d/\J5 d L=some v/\((v=.b want/\OPL P I (iV (o.looksAt ops) L) t.F o.op o.type t.s t.F')\/((v=.b (!want)\/v=.tup [])/\t.F=[]/\t.F'=[]/\t.s=.tup []))
abbrev jJ(t:Tr)(H:HX):HX:=stH t H
abbrev vO(d:Option Nat)(s:AV)(L:LX):LX:=WB d s L
def stepM(t:Tr)(m:Nat):Nat:=m+t.nn
structure StepOK (P:Program) (I:World->Prop) (ops:Array Oper) (o:Oper) (t:Tr) (m:Nat) (L:LX) (H:HX):Prop where
 obl:Obl P I ops o L t
 pre:∀ k R,Eh k t.F=some R->hlk k H=some R
 new:∀ k,has k t.F'->has k t.F\/(m<=k/\k<m+t.nn)
 rd:t.rd=true->t.F'=t.F
def DRX(P:Program)(I:World->Prop)(ops:Array Oper)(fin:List Tr->Nat->LX->HX->Prop):List Oper->List Tr->Nat->LX->HX->Prop
 | [],tr,m,L,H=>fin tr m L H
 | o::r,tr,m,L,H=>∃ t,StepOK P I ops o t m L H/\DRX P I ops fin r (tr++[t]) (stepM t m) (vO o.dst t.s L) (jJ t H)
def wr(t:Tr)(k:Nat):Option (Option Rs):=bif t.rd then none else match Eh k t.F' with
 | some R=>some (some R)
 | none=>(match Eh k t.F with|some _=>some none|none=>none)
def touches(t:Tr)(k:Nat):Bool:=(Eh k t.F).isSome||(Eh k t.F').isSome
def UI(D:Nat->Bool)(ops:Array Oper)(T:List Tr)(t:Nat)(v:Option AV):Nat->Option AV
 | 0=>v
 | n+1=>bif D n then(match Eb ops n,T[n]? with
  | some d,some tr=>if d=t then some tr.s else UI D ops T t v n
  | _,_=>UI D ops T t v n) else UI D ops T t v n
def hvn(D:Nat->Bool)(T:List Tr)(k:Nat)(v:Option Rs):Nat->Option Rs
 | 0=>v
 | n+1=>bif D n then(match(T[n]?).bind (wr · k) with|some x=>x|none=>hvn D T k v n) else hvn D T k v n
def Oh(T:List Tr)(m:Nat):Nat->Nat
 | 0=>m
 | n+1=>match T[n]? with|some t=>stepM t (Oh T m n)|none=>Oh T m n
theorem A1o(t:Tr)(H:HX)(k:Nat):hlk k (jJ t H)=match wr t k with|some x=>x|none=>hlk k H:=by
 unfold jJ stH wr
 cases t.rd
 ·simp only[cond_false,dK,dL]
  grind
 ·rfl
theorem A7w(t:Tr)(hk:Nat->Option Rs)(k:Nat)(hr:t.rd=false):upd t.F t.F' hk k=match wr t k with|some x=>x|none=>hk k:=by
 unfold upd wr
 grind
theorem Lu{x:Option Rs}(h:wr t k=some x):touches t k=true/\t.rd=false:=by
 unfold wr at h
 cases hr:t.rd with
 | true=>simp_all
 | false =>
  rw[hr] at h
  simp only[cond_false] at h
  refine⟨?_,rfl⟩
  grind[touches]
theorem A57{R:Rs}(h:wr t k=some (some R)):has k t.F':=by
 unfold wr at h
 cases hr:t.rd with
 | true=>simp_all
 | false =>
  rw[hr] at h
  simp only[cond_false] at h
  grind[has]
theorem Q8{D D':Nat->Bool}{T:List Tr}{k:Nat}{v:Option Rs}:∀ {n:Nat},(∀ i,i<n->∀ t x,T[i]?=some t->wr t k=some x->D i=D' i)->hvn D T k v n=hvn D' T k v n
 | 0,_=>rfl
 | n+1,h=>by
  have ih:=Q8 (D:=D) (D':=D') (T:=T) (k:=k) (v:=v) (n:=n) fun i hi=>h i zaa
  grind[hvn]
theorem TA{D:Nat->Bool}{T:List Tr}{k:Nat}{v:Option Rs}{j:Nat}:∀ {n:Nat},j<=n->(∀ i,j<=i->i<n->∀ t x,T[i]?=some t->wr t k=some x->D i=false)->hvn D T k v n=hvn D T k v j
 | 0,hj,_=>zay
 | n+1,hj,h=>by
  by_cases e:j=n+1
  ·rw[e]
  ·rw[<-TA (n:=n) zaa fun i hi hi'=>h i hi zaa]
   grind[hvn]
theorem Q9{D D':Nat->Bool}{ops:Array Oper}{T:List Tr}{t:Nat}{v:Option AV}:∀ {n:Nat},(∀ i,i<n->Eb ops i=some t->D i=D' i)->UI D ops T t v n=UI D' ops T t v n
 | 0,_=>rfl
 | n+1,h=>by
  have ih:=Q9 (D:=D) (D':=D') (ops:=ops) (T:=T) (t:=t) (v:=v) (n:=n) fun i hi=>h i zaa
  simp only[UI]
  grind
theorem TB{D:Nat->Bool}{ops:Array Oper}{T:List Tr}{t:Nat}{v:Option AV}{j:Nat}:∀ {n:Nat},j<=n->(∀ i,j<=i->i<n->Eb ops i=some t->D i=false)->UI D ops T t v n=UI D ops T t v j
 | 0,hj,_=>zay
 | n+1,hj,h=>by
  by_cases e:j=n+1
  ·rw[e]
  ·rw[<-TB (n:=n) zaa fun i hi hi'=>h i hi zaa]
   simp only[UI]
   grind
def keysOf(F:Fp):List Nat:=F.map (·.1)
theorem jK{F:Fp}(h:has k F):k∈keysOf F:=by
 induction F with
 | nil=>simp[has] at h
 | cons p F ih =>
  obtain⟨d,v⟩:=p
  unfold has at h
  rw[Cf] at h
  by_cases e:k=d
  ·simp[keysOf,e]
  ·rw[if_neg e] at h;exact List.mem_cons_of_mem _ (ih h)
def VR(ops:Array Oper)(i j:Nat)(ti tj:Tr):Bool :=
 (match Eb ops i,ops[j]? with|some d,some o=>(o.looksAt ops).contains d|_,_=>false) ||
 (match Eb ops j,ops[i]? with|some d,some o=>(o.looksAt ops).contains d|_,_=>false) ||
 (bif ti.rd&&tj.rd then false else(keysOf ti.F++keysOf ti.F').any fun k=>touches tj k)
def drawChk0(n:Nat)(ops:Array Oper)(T:List Tr):Bool :=
 let ms:=masks ops.toList []
 (Nat.beq T.length ops.size&&allB ops.size fun j=>match ops[j]? with
  | none=>false
  | some o=>o.after.toList.all (fun e => !Region.binds .any e||Nat.blt e.on j)&&(match o.dst with|some d=>Nat.blt d n|none=>true)&&(match o.op with|.select .. => false|_=>true)) &&
 allB ops.size fun j=>allB j fun i=>(match Eb ops i,Eb ops j with|some d,some d' => !Nat.beq d d'|_,_=>true)&&(match T[i]?,T[j]? with
  | some ti,some tj => !VR ops i j ti tj||xq ms j i
  | _,_=>false)
structure Chk (n:Nat) (ops:Array Oper) (T:List Tr):Prop where
 len:T.length=ops.size
 edge:∀(j:Nat) (o:Oper),ops[j]?=some o->∀ e∈o.after,Region.binds .any e=true->e.on<j
 dstn:∀(j:Nat) (o:Oper) (d:Nat),ops[j]?=some o->o.dst=some d->d<n
 sel:∀(j:Nat) (o:Oper),ops[j]?=some o->∀ cs b,o.op≠.select cs b
 uniq:∀ i j d:Nat,i<j->j<ops.size->Eb ops i=some d->Eb ops j≠some d
 conf:∀(i j:Nat) (ti tj:Tr),i<j->j<ops.size->T[i]?=some ti->T[j]?=some tj->VR ops i j ti tj=true->Anc ops j i
theorem dP{n:Nat}{ops:Array Oper}{T:List Tr}(h:drawChk0 n ops T=true):Chk n ops T:=by
 simp only[drawChk0,Bool.and_eq_true] at h
 obtain⟨⟨hl,h1⟩,h2⟩:=h
 have h1:=Ih h1
 have h2:=Ih h2
 have hlt:∀ j (o:Oper),ops[j]?=some o->j<ops.size:=fun j o ho=>(Array.getElem?_eq_some_iff.1 ho).1
 have edge:∀ j (o:Oper),ops[j]?=some o->∀ e∈o.after,Region.binds .any e=true->e.on<j:=by
  intro j o ho e he hbd
  have:=h1 j (hlt j o ho)
  rw[ho] at this
  simp only[Bool.and_eq_true,List.all_eq_true] at this
  have h3:=this.1.1 e (Array.mem_toList_iff.2 he)
  simp_all
 have hm:ay ops (masks ops.toList []):=iD ops _ _ zak edge (fun j i hj=>by simp at hj)
 have hml:(masks ops.toList []).length=ops.size:=by
  have:∀(l:List Oper) acc,(masks l acc).length=l.length+acc.length:=by
   intro l
   induction l with
   | nil|cons o r ih=>grind[masks]
  grind
 have hanc:∀ j i,j<ops.size->xq (masks ops.toList []) j i=true->Anc ops j i:=fun j i hj hb=>hm j i zaa hb
 refine⟨by simpa using hl,edge,?_,?_,?_,?_⟩
 ·intro j o d ho hd
  have:=h1 j (hlt j o ho)
  rw[ho] at this
  simp_all
 ·grind
 ·intro i j d hij hj hdi hdj
  have:=Ih (h2 j hj) i hij
  simp_all
 ·intro i j ti tj hij hj hti htj hc
  have:=Ih (h2 j hj) i hij
  simp_all
structure Steps (P:Program) (I:World->Prop) (ops:Array Oper) (T:List Tr) (m0:Nat) (L0:LX) (H0:HX):Prop where
 at':∀(j:Nat) (o:Oper),ops[j]?=some o->∃ t m L H,T[j]?=some t/\StepOK P I ops o t m L H/\m=Oh T m0 j/\(∀ x,J5 x L=UI (fun _=>true) ops T x (J5 x L0) j)/\(∀ k,hlk k H=hvn (fun _=>true) T k (hlk k H0) j)
theorem dQ{D:Nat->Bool}{ops:Array Oper}{T T':List Tr}{t:Nat}{v:Option AV}:∀ {n:Nat},n<=T.length->UI D ops (T++T') t v n=UI D ops T t v n
 | 0,_=>rfl
 | n+1,h=>by simp only[UI,dQ (n:=n) (show n<=T.length by omega),List.getElem?_append_left (show n<T.length by omega)]
theorem dR{D:Nat->Bool}{T T':List Tr}{k:Nat}{v:Option Rs}:∀ {n:Nat},n<=T.length->hvn D (T++T') k v n=hvn D T k v n
 | 0,_=>rfl
 | n+1,h=>by simp only[hvn,dR (n:=n) (show n<=T.length by omega),List.getElem?_append_left (show n<T.length by omega)]
theorem dS{T T':List Tr}{m:Nat}:∀ {n:Nat},n<=T.length->Oh (T++T') m n=Oh T m n
 | 0,_=>rfl
 | n+1,h=>by simp only[Oh,dS (n:=n) (show n<=T.length by omega),List.getElem?_append_left (show n<T.length by omega)]
theorem DRX.steps{P:Program}{I:World->Prop}{ops:Array Oper}{fin:List Tr->Nat->LX->HX->Prop}{m0:Nat}{L0:LX}{H0:HX}:∀(l:List Oper) (tr:List Tr) (m:Nat) (L:LX) (H:HX),DRX P I ops fin l tr m L H->(∀ i,i<l.length->l[i]?=ops[tr.length+i]?) ->
  m=Oh tr m0 tr.length->(∀ x,J5 x L=UI (fun _=>true) ops tr x (J5 x L0) tr.length)->(∀ k,hlk k H=hvn (fun _=>true) tr k (hlk k H0) tr.length) ->
  ∃ T m' L' H',T.length=tr.length+l.length/\(∀ i,i<tr.length->T[i]?=tr[i]?)/\fin T m' L' H'/\m'=Oh T m0 T.length/\(∀ x,J5 x L'=UI (fun _=>true) ops T x (J5 x L0) T.length)/\(∀ k,hlk k H'=hvn (fun _=>true) T k (hlk k H0) T.length) /\
   ∀(j:Nat) (o:Oper),tr.length<=j->j<T.length->ops[j]?=some o->∃ t m L H,T[j]?=some t/\StepOK P I ops o t m L H/\m=Oh T m0 j/\(∀ x,J5 x L=UI (fun _=>true) ops T x (J5 x L0) j)/\(∀ k,hlk k H=hvn (fun _=>true) T k (hlk k H0) j)
 | [],tr,m,L,H,h,_,hm,hL,hH=>⟨tr,m,L,H,by simp,fun _ _=>rfl,h,hm,hL,hH,fun j o h1 h2=>by omega⟩
 | o::r,tr,m,L,H,h,hl,hm,hL,hH=>by
  obtain⟨t,hs,hr⟩:=h
  have ho:ops[tr.length]?=some o:=by have:=hl 0 zak;simp_all
  have hlast:(tr++[t])[tr.length]?=some t:=zak
  obtain⟨T,m',L',H',g1,g2,g3,g4,g5,g6,g7⟩:=DRX.steps (m0:=m0) (L0:=L0) (H0:=H0) r (tr++[t]) _ _ _ hr (fun i hi=>by
    have:=hl (i+1) zat
    grind) (by
    simp_all[Oh,dS]) (fun x=>by
    rw[show(tr++[t]).length=tr.length+1 from by simp]
    simp only[UI,hlast,dQ (Nat.le_refl _),cond_true,Eb,ho,Option.bind_some]
    unfold vO
    cases o.dst with
    | none=>exact hL x
    | some d =>
     simp only[WB,FP]
     grind) (fun k=>by
    simp_all[hvn,dR,A1o])
  have hT:∀ i,i<=tr.length->T[i]?=(tr++[t])[i]?:=fun i hi=>g2 i zat
  have hpre:∃ T2,T=(tr++[t])++T2:=⟨T.drop (tr.length+1),by
   apply List.ext_getElem?
   intro i
   rcases Nat.lt_or_ge i (tr.length+1) with hi|hi
   ·grind
   ·rw[List.getElem?_append_right zat,List.getElem?_drop];simp_all⟩
  obtain⟨T2,rfl⟩:=hpre
  refine⟨_,m',L',H',by grind,fun i hi=>by grind,g3,g4,g5,g6,fun j o' h1 h2 ho'=>?_⟩
  rcases Nat.lt_or_ge j (tr++[t]).length with hj|hj
  ·have hj':j=tr.length:=zaF
   subst hj'
   rw[ho] at ho';obtain rfl:=Option.some.inj ho'
   have hle:tr.length<=(tr++[t]).length:=zak
   exact⟨t,m,L,H,by simp_all,hs,by simp_all[dS],fun x=>by simp_all[dQ],fun k=>by simp_all[dR]⟩
  ·exact g7 j o' hj h2 ho'
section
variable {P:Program}{I:World->Prop}{n:Nat}{g:Gx}{ops:Array Oper}{T:List Tr}{m0:Nat}{L0:LX}{H0:HX}
theorem A1p(t:Tr)(m:Nat):m<=stepM t m:=Nat.le_add_right _ _
theorem KY {j : Nat} : ∀ {i : Nat}, j <= i -> Oh T m0 j <= Oh T m0 i
  | 0, h => by have : j = 0 := by omega
               rw [this]; exact Nat.le_refl _
  | i + 1, h => by
    by_cases e : j = i + 1
    · rw [e]; exact Nat.le_refl _
    · refine Nat.le_trans (KY (i := i) zaa) ?_
      simp only [Oh]
      split
      · exact A1p _ _
      · exact Nat.le_refl _
theorem Steps.names(St:Steps P I ops T m0 L0 H0)(hT:T.length=ops.size)(h0:∀ k R,hlk k H0=some R->k<m0):∀(j:Nat),j<=ops.size->∀ k R,hvn (fun _=>true) T k (hlk k H0) j=some R->k<Oh T m0 j
 | 0,_,k,R,h=>h0 k R h
 | j+1,hj,k,R,h=>by
  obtain⟨t,m,L,H,h1,h2,h3,h4,h5⟩:=St.at' j ops[j] (Array.getElem?_eq_getElem zaa)
  simp only[hvn,h1,Option.bind_some,cond_true] at h
  have hle:Oh T m0 j<=Oh T m0 (j+1):=KY zaa
  cases hw:wr t k with
  | none=>rw[hw] at h;exact Nat.lt_of_lt_of_le (St.names hT h0 j zaa k R h) hle
  | some x =>
   rw[hw] at h
   simp only at h
   subst h
   rcases h2.new k (A57 hw) with hF|hF
   ·obtain⟨R0,hF⟩:=(DT _ _).1 hF
    have:=h2.pre k R0 hF
    rw[h5] at this
    exact Nat.lt_of_lt_of_le (St.names hT h0 j zaa k R0 this) hle
   simp_all[Oh,stepM]
def NDr(T:List Tr)(m0:Nat)(D:Nat->Bool)(k:Nat):Prop:=k<m0\/∃ i t,D i=true/\T[i]?=some t/\has k t.F'
structure InvX (P:Program) (I:World->Prop) (n:Nat) (g:Gx) (ops:Array Oper) (T:List Tr) (m0:Nat) (L0:LX) (H0:HX) (listed:Array Bool) (a:Act) (w:World):Prop where
 len:listed.size=ops.size
 closed:∀ j (o:Oper),ops[j]?=some o->Ez listed j->∀ e∈o.after,Region.binds .any e=true->Ez listed e.on
 sat:∃ ν,Sat I n g (NDr T m0 (listed.getD · false)) (fun t=>UI (listed.getD · false) ops T t (J5 t L0) ops.size) (fun k=>hvn (listed.getD · false) T k (hlk k H0) ops.size) a w ν
theorem yZ(C:Chk n ops T)(St:Steps P I ops T m0 L0 H0)(h0:∀ k R,hlk k H0=some R->k<m0){Q:Exit->Act->World->Prop}
  (hfin:∀ a w ν,Sat I n g (· < Oh T m0 ops.size) (fun t=>UI (fun _=>true) ops T t (J5 t L0) ops.size) (fun k=>hvn (fun _=>true) T k (hlk k H0) ops.size) a w ν->Q .normal a w) :
  ∀(fuel:Nat) (listed:Array Bool) (a:Act) (w:World),InvX P I n g ops T m0 L0 H0 listed a w->unl listed ops.size=fuel->wpAny P .any ops Q fuel listed a w:=by
 have hTget:∀ i,i<ops.size->∃ t,T[i]?=some t:=fun i hi=>⟨T[i]'(by rw[C.len];exact hi),List.getElem?_eq_getElem _⟩
 have hTlt:∀ i t,T[i]?=some t->i<ops.size:=fun i t h=>by rw[<-C.len];grind
 intro fuel
 induction fuel with
 | zero =>
  intro listed a w hI hf
  have hall:=Wq.1 hf
  have hr:Region.ready .any ops listed=[]:=by
   cases hr:Region.ready .any ops listed with
   | nil=>rfl
   | cons i r =>
    obtain⟨h0',o,ho,_⟩:=mem_ready.1 (show i∈Region.ready .any ops listed by rw[hr];simp)
    grind[Ez]
  refine⟨hr,?_⟩
  obtain⟨ν,S⟩:=hI.sat
  refine hfin a w ν ?_
  have e1:(fun t=>UI (listed.getD · false) ops T t (J5 t L0) ops.size)=fun t=>UI (fun _=>true) ops T t (J5 t L0) ops.size:=funext fun t=>Q9 fun i hi _=>hall i hi
  have e2:(fun k=>hvn (listed.getD · false) T k (hlk k H0) ops.size)=fun k=>hvn (fun _=>true) T k (hlk k H0) ops.size:=funext fun k=>Q8 fun i hi _ _ _ _=>hall i hi
  rw[<-e1,<-e2]
  refine S.moreN fun k hk=>?_
  rcases hk with h|⟨i,t,hi,ht,hF'⟩
  ·exact Nat.lt_of_lt_of_le h (KY (j:=0) (Nat.zero_le _))
  ·have hilt:=hTlt i t ht
   obtain⟨t',m,L,H,h1,h2,h3,h4,h5⟩:=St.at' i ops[i] (Array.getElem?_eq_getElem hilt)
   rw[ht] at h1;obtain rfl:=Option.some.inj h1
   have hle:Oh T m0 (i+1)<=Oh T m0 ops.size:=KY zaa
   rcases h2.new k hF' with hF|hF
   ·obtain⟨R0,hF⟩:=(DT _ _).1 hF
    have:=h2.pre k R0 hF
    rw[h5] at this
    exact Nat.lt_of_lt_of_le (St.names C.len h0 i zaa k R0 this) (KY zaa)
   ·have e:Oh T m0 (i+1)=stepM t (Oh T m0 i):=by grind[Oh]
    show k<Oh T m0 ops.size
    have e2:stepM t (Oh T m0 i)=Oh T m0 i+t.nn:=rfl
    omega
 | succ fuel ih =>
  intro listed a w hI hf
  have hunl:∀ i,i<ops.size->(listed.getD i true=false↔¬Ez listed i):=by
   intro i hi
   have:=hI.len
   simp_all[Ez]
  refine⟨fun hr0=>?_,fun j hj=>?_⟩
  ·exfalso
   have hex:∃ i,i<ops.size/\¬Ez listed i:=by
    rcases Classical.em (∃ i,i<ops.size/\¬Ez listed i) with h|h
    ·exact h
    ·have:=Wq.2 fun i hi=>Classical.byContradiction fun hn=>h ⟨i,hi,hn⟩
     omega
   obtain⟨i,⟨hik,hin⟩,hmin⟩:=exists_least (p:=fun i=>i<ops.size/\¬Ez listed i) hex
   have ho:ops[i]?=some ops[i]:=Array.getElem?_eq_getElem hik
   have:i∈Region.ready .any ops listed:=by
    rw[mem_ready]
    refine⟨(hunl i hik).2 hin,_,ho,fun e he hb=>?_⟩
    have hlt:=C.edge i _ ho e he hb
    grind
   simp_all
  ·obtain⟨h0',o,ho,hedge⟩:=mem_ready.1 hj
   have hjlt:=(Array.getElem?_eq_some_iff.1 ho).1
   have hjn:¬Ez listed j:=(hunl j hjlt).1 h0'
   have hDj:listed.getD j false=false:=zaF
   have hrd:∀ o',ops[j]?=some o'->∀ e∈o'.after,Region.binds .any e=true->Ez listed e.on:=fun o' ho' e he hb=>by
    rw[ho] at ho';obtain rfl:=Option.some.inj ho';exact hedge e he hb
   obtain⟨t,m,L,H,hTj,hst,hm,hL,hH⟩:=St.at' j o ho
   obtain⟨ν,S⟩:=hI.sat
   -- what is forced
   have before:∀ i ti,i<j->T[i]?=some ti->VR ops i j ti t=true->listed.getD i false=true:=fun i ti hi hti hc=>(C.conf i j ti t hi hjlt hti hTj hc).ready hI.closed hrd
   have after:∀ i ti,j<i->T[i]?=some ti->VR ops j i t ti=true->listed.getD i false=false:=fun i ti hi hti hc=>by
    cases hb:listed.getD i false with
    | false=>rfl
    | true=>exact absurd ((C.conf j i t ti hi (hTlt i ti hti) hTj hti hc).listed hI.closed hb) hjn
   have slotB:∀ i d,i<j->Eb ops i=some d->(o.looksAt ops).contains d=true->listed.getD i false=true:=fun i d hi hd hc=>by
    grind[VR]
   have slotA:∀ i d,j<i->Eb ops i=some d->(o.looksAt ops).contains d=true->listed.getD i false=false:=fun i d hi hd hc=>by
    grind[Eb,VR]
   have keyin:∀(q:Tr) k,touches q k=true->k∈keysOf q.F++keysOf q.F':=fun q k h=>by
    unfold touches at h
    rw[Bool.or_eq_true] at h
    exact List.mem_append.2 (h.imp jK jK)
   have cf:∀(i1 i2:Nat) (t1 t2:Tr) (k:Nat),touches t1 k=true->touches t2 k=true->(t1.rd=false\/t2.rd=false)->VR ops i1 i2 t1 t2=true:=fun i1 i2 t1 t2 k h1 h2 h3=>by
    unfold VR
    grind
   have LH:∀ i ti k x,i<j->T[i]?=some ti->wr ti k=some x->touches t k=true->listed.getD i false=true:=fun i ti k x hi hti hw hk =>
    before i ti hi hti (cf i j ti t k (Lu hw).1 hk (.inl (Lu hw).2))
   have resA:∀ i ti k x,j<i->T[i]?=some ti->wr ti k=some x->touches t k=true->listed.getD i false=false:=fun i ti k x hi hti hw hk =>
    after i ti hi hti (cf j i t ti k hk (Lu hw).1 (.inr (Lu hw).2))
   -- what is looked at
   have hlook:∀ x s,O9 x (o.looksAt ops)=true->J5 x L=some s->Rep ⟨NDr T m0 (listed.getD · false),ν,Es g.Oa (fun k=>hvn (listed.getD · false) T k (hlk k H0) ops.size) ν,w⟩ s (a.tmps.getD x undef):=fun x s hx hs=>by
    have hc:(o.looksAt ops).contains x=true:=by grind[Lr]
    refine S.slots x s ?_
    show UI (listed.getD · false) ops T x (J5 x L0) ops.size=some s
    rw[TB (j:=j) zaa (fun i hi _ hd=>by
     grind),Q9 (D':=fun _=>true) (fun i hi hd=>slotB i x hi hd hc),<-hL]
    exact hs
   have hval:UN ⟨NDr T m0 (listed.getD · false),ν,Es g.Oa (fun k=>hvn (listed.getD · false) T k (hlk k H0) ops.size) ν,w⟩ (iV (o.looksAt ops) L) a.eval:=by
    intro x s hx
    cases x with
    | tmp q=>obtain⟨h1,h2⟩:=dO hx;exact hlook q s h1 h2
    | const c=>simp only[FB,Option.some.injEq] at hx;subst hx;exact AV.of_rep _ c
    | global g=>simp only[FB,Option.some.injEq] at hx;subst hx;simp only[Rep];rfl
    | func g=>simp only[FB,Option.some.injEq] at hx;subst hx;simp only[Rep,AY];exact⟨[],[],rfl,rfl,rfl⟩
   have hpre:∀ k R,Eh k t.F=some R->hvn (listed.getD · false) T k (hlk k H0) ops.size=some R:=fun k R hF=>by
    have htk:touches t k=true:=by simp[touches,hF]
    rw[TA (j:=j) zaa (fun i hi _ ti x hti hw=>by
     grind),Q8 (D':=fun _=>true) (fun i hi ti x hti hw=>LH i ti k x hi hti hw htk),<-hH]
    exact hst.pre k R hF
   have hnew:∀ k,has k t.F'->has k t.F\/¬NDr T m0 (listed.getD · false) k:=fun k hF'=>by
    have htk:touches t k=true:=by grind[has,touches]
    rcases hst.new k hF' with h|h
    ·exact .inl h
    ·by_cases hF:has k t.F
     ·exact .inl hF
     ·right
      have hrdj:t.rd=false:=by
       cases hr:t.rd with
       | false=>rfl
       | true=>exact absurd (by rw[<-hst.rd hr];exact hF') hF
      have ej:Oh T m0 (j+1)=Oh T m0 j+t.nn:=by grind[Oh,stepM]
      rintro(hlt|⟨i,ti,hDi,hti,hFi⟩)
      ·have:m0<=Oh T m0 j:=KY (j:=0) (Nat.zero_le _)
       omega
      ·have hDi:listed.getD i false=true:=hDi
       have hij:i≠j:=fun e=>zaF
       have htik:touches ti k=true:=by grind[has,touches]
       have hilt:=hTlt i ti hti
       obtain⟨t',m',L',H',g1,g2,g3,g4,g5⟩:=St.at' i ops[i] (Array.getElem?_eq_getElem hilt)
       rw[hti] at g1;obtain rfl:=Option.some.inj g1
       rcases Nat.lt_or_gt_of_ne hij with hlt|hgt
       ·rcases g2.new k hFi with hFi2|hFi2
        ·obtain⟨R0,hq⟩:=(DT _ _).1 hFi2
         have:=g2.pre k R0 hq
         rw[g5] at this
         have:=St.names C.len h0 i zaa k R0 this
         have hmm:Oh T m0 i<=Oh T m0 j:=KY zaa
         omega
        ·have ei:Oh T m0 (i+1)=Oh T m0 i+ti.nn:=by grind[Oh,stepM]
         have hmm:Oh T m0 (i+1)<=Oh T m0 j:=KY zaa
         omega
       grind
   -- what follows
   have hls:∀ i,Ez (listed.setIfInBounds j true) i↔i=j\/Ez listed i:=fun i=>Wn zaF
   have hD':∀ i,i≠j->(listed.setIfInBounds j true).getD i false=listed.getD i false:=fun i hi=>getD_set_ne false (fun e=>hi e.symm)
   have hD'j:(listed.setIfInBounds j true).getD j false=true:=by have:=hI.len;simp[show j<listed.size by omega]
   have hlen':(listed.setIfInBounds j true).size=ops.size:=by simp[hI.len]
   have hcl':∀ i (o:Oper),ops[i]?=some o->Ez (listed.setIfInBounds j true) i->∀ e∈o.after,Region.binds .any e=true->Ez (listed.setIfInBounds j true) e.on:=fun i o' ho' h e he hb=>(hls _).2 (by
    rcases(hls i).1 h with rfl|h
    ·grind
    ·exact .inr (hI.closed i o' ho' h e he hb))
   have hunl':unl (listed.setIfInBounds j true) ops.size=fuel:=by grind[uh]
   have hN:∀ k,NDr T m0 ((listed.setIfInBounds j true).getD · false) k↔NDr T m0 (listed.getD · false) k\/has k t.F':=fun k=>by
    constructor
    ·rintro(h|⟨i,ti,h1,h2,h3⟩)
     ·exact .inl (.inl h)
     ·by_cases e:i=j
      ·grind
      ·have h1:(listed.setIfInBounds j true).getD i false=true:=h1
       rw[hD' i e] at h1;exact .inl (.inr ⟨i,ti,h1,h2,h3⟩)
    ·rintro((h|⟨i,ti,h1,h2,h3⟩)|h)
     ·exact .inl h
     ·have h1:listed.getD i false=true:=h1
      by_cases e:i=j
      ·grind
      ·exact .inr ⟨i,ti,by grind,h2,h3⟩
     ·exact .inr ⟨j,t,hD'j,hTj,h⟩
   have hkq:∀ k,hvn ((listed.setIfInBounds j true).getD · false) T k (hlk k H0) ops.size=upd t.F t.F' (fun k=>hvn (listed.getD · false) T k (hlk k H0) ops.size) k:=fun k=>by
    have same:wr t k=none->hvn ((listed.setIfInBounds j true).getD · false) T k (hlk k H0) ops.size=hvn (listed.getD · false) T k (hlk k H0) ops.size:=fun hw=>Q8 fun i _ ti x hti hwi=>by
     grind
    cases hr:t.rd with
    | true =>
     have hw:wr t k=none:=by grind[wr]
     rw[same hw]
     have hFF:=hst.rd hr
     grind[upd]
    | false =>
     rw[A7w t _ k hr]
     cases hw:wr t k with
     | none=>exact same hw
     | some x =>
      have htk:=(Lu hw).1
      rw[TA (j:=j+1) zaa (fun i hi _ ti x hti hwi=>by
       grind)]
      simp only[hvn,hTj,Option.bind_some,hw,hD'j,cond_true]
   have hlq:∀ x,UI ((listed.setIfInBounds j true).getD · false) ops T x (J5 x L0) ops.size=if o.dst=some x then some t.s else UI (listed.getD · false) ops T x (J5 x L0) ops.size:=fun x=>by
    have hdj:Eb ops j=o.dst:=by simp[Eb,ho]
    by_cases e:o.dst=some x
    ·rw[if_pos e,TB (j:=j+1) zaa (fun i hi hi2 hd=>absurd hd (C.uniq j i x zaa hi2 zaF))]
     simp only[UI,hdj,e,hTj,hD'j,cond_true,if_true]
    ·rw[if_neg e]
     grind[Q9]
   have next:∀(v:Value) (w':World) (ν':Nat->Value),Ok ⟨NDr T m0 (listed.getD · false),ν,Es g.Oa (fun k=>hvn (listed.getD · false) T k (hlk k H0) ops.size) ν,w⟩ t.F t.F' t.s v w' ν'->wpAny P .any ops Q fuel (listed.setIfInBounds j true) (a.put o.dst v) w':=by
    intro v w' ν' ok
    obtain⟨S',hr⟩:=S.step (N':=NDr T m0 ((listed.setIfInBounds j true).getD · false)) (hk':=fun k=>hvn ((listed.setIfInBounds j true).getD · false) T k (hlk k H0) ops.size) hpre ok hN hkq
    refine ih _ _ _ ⟨hlen',hcl',ν',?_⟩ hunl'
    cases hd:o.dst with
    | none =>
     have e1:(fun x=>UI ((listed.setIfInBounds j true).getD · false) ops T x (J5 x L0) ops.size)=fun x=>UI (listed.getD · false) ops T x (J5 x L0) ops.size:=funext fun x=>zaF
     rw[e1]
     exact S'
    | some d =>
     exact S'.put (C.dstn j o d ho hd) hr fun x=>by
      grind
   unfold wpOp
   rw[ho]
   show if _ then _ else _
   have hobl:=hst.obl
   unfold Obl at hobl
   cases hg:o.guard with
   | none =>
    rw[hg] at hobl
    rw[if_pos (by simp[Region.wanted,hg])]
    refine .inl (Hz (Gv (hobl _ a.eval (S.good) hval ⟨fun k R hF=>?_,fun k k' R R' b h h'=>S.dist k k' R R' b (hpre k R h) (hpre k' R' h'),hnew⟩) ?_))
    ·obtain⟨r0,r1,r2⟩:=S.res k R (hpre k R hF)
     exact⟨r0,r1,fun b hb=>.inr ⟨k,R,hpre k R hF,hb⟩⟩
    grind
   | some p =>
    obtain⟨gi,want⟩:=p
    rw[hg] at hobl
    obtain⟨d',vd,hd',hb,hcase⟩:=hobl
    have hlkd:O9 d' (o.looksAt ops)=true:=by
     refine Lr.2 (List.mem_append_right _ ?_)
     have:(ops[gi]?).bind (·.dst)=some d':=hd'
     grind
    have hvb:=hlook d' _ hlkd hb
    have hgl:∃ og,ops[gi]?=some og/\og.dst=some d':=by
     have:(ops[gi]?).bind (·.dst)=some d':=hd'
     cases hog:ops[gi]? with
     | none|some og=>grind
    obtain⟨og,hog,hogd⟩:=hgl
    have hdn':=C.dstn gi og d' hog hogd
    have hyb:∀ b,vd=.b b->yielded ops a.tmps gi=some b:=by
     rintro b rfl
     simp only[Rep] at hvb
     simp only[yielded,hog,Option.bind_some,hogd]
     rw[Array.getD_eq_getD_getElem?] at hvb
     have hlt:d'<a.tmps.size:=by rw[S.size];exact hdn'
     grind
    have hyu:vd=.tup []->yielded ops a.tmps gi=none:=by
     rintro rfl
     simp only[Rep,AY] at hvb
     obtain⟨us,hvb,rfl⟩:=hvb
     simp only[yielded,hog,Option.bind_some,hogd]
     rw[Array.getD_eq_getD_getElem?] at hvb
     grind
    rcases hcase with⟨hv,hy⟩|⟨hv,e1,e2,e3⟩
    ·rw[if_pos (by grind[Region.wanted])]
     refine .inl (Hz (Gv (hy _ a.eval (S.good) hval ⟨fun k R hF=>?_,fun k k' R R' b h h'=>S.dist k k' R R' b (hpre k R h) (hpre k' R' h'),hnew⟩) ?_))
     ·obtain⟨r0,r1,r2⟩:=S.res k R (hpre k R hF)
      exact⟨r0,r1,fun b hb=>.inr ⟨k,R,hpre k R hF,hb⟩⟩
     grind
    ·rw[if_neg (by
      grind[Region.wanted])]
     have:=Ok.pure (c:=⟨NDr T m0 (listed.getD · false),ν,Es g.Oa (fun k=>hvn (listed.getD · false) T k (hlk k H0) ops.size) ν,w⟩) (s:=.tup []) (v:=undef) (w':=w) zba (Stp.refl _ _)
     grind
theorem A59{Q:PostX}{id:Nat}{l:List Oper}{m:Nat}{L:LX}{H:HX}(hm:P.follows .mixedOrders=true)(h:DRX P I l.toArray (fun tr m' L' H'=>drawChk0 n l.toArray tr=true/\Q .normal m' L' H') l [] m L H):Wc P I n g (.region id l.toArray true) Q m L H:=by
 intro a w ν S
 obtain⟨T,m',L',H',g1,g2,⟨g3,g3'⟩,g4,g5,g6,g7⟩:=h.steps (m0:=m) (L0:=L) (H0:=H) l [] m L H (fun i hi=>by simp) rfl (fun x=>rfl) (fun k=>rfl)
 have C:=dP g3
 have hTl:T.length=l.toArray.size:=zaF
 have St:Steps P I l.toArray T m L H:=⟨fun j o ho=>g7 j o (Nat.zero_le _) zaF ho⟩
 refine wp_region_any hm ?_
 have hno:∀ j,(Array.replicate l.toArray.size false).getD j false=false:=fun j=>by
  simp only[Array.getD_eq_getD_getElem?,Array.getElem?_replicate]
  split<;>rfl
 have hu:unl (Array.replicate l.toArray.size false) l.toArray.size=l.toArray.size:=by
  have:=UJ (listed:=Array.replicate l.toArray.size false) (m:=0) l.toArray.size (fun i hi=>by
   simp_all[Ez])
  omega
 have S1:IP I n g m L H a {w with drawn:=w.drawn+1} ν:=by
  have hst:Stp No w {w with drawn:=w.drawn+1}:=⟨rfl,rfl,rfl,Nat.le_refl _,fun _ _ _=>rfl⟩
  have hle:Cx.Le none ⟨(· < m),ν,Es g.Oa (fun k=>hlk k H) ν,w⟩ ⟨(· < m),ν,Es g.Oa (fun k=>hlk k H) ν,{w with drawn:=w.drawn+1}⟩:=⟨fun _ _ h=>⟨h,rfl⟩,fun w'' hs=>hst.then hs (fun i _ h=>h.elim) fun i _ h=>h⟩
  refine⟨S.size,S.defers,S.stp.then hst (fun i _ h=>h) (fun i _ h=>h.elim),S.amb,fun w' hs=>S.inv w' (hle.st w' hs),S.pin,fun t s hs=>Rep.le hle s _ (G9 s) (S.slots t s hs),fun k R hR=>?_,S.dist⟩
  obtain⟨r0,r1,r2⟩:=S.res k R hR
  exact⟨r0,Holds.le hle (DJ _) rfl (fun b hb=>⟨(r2 b hb).1,rfl⟩) r1,r2⟩
 refine yZ (g:=g) C St (fun k R hk=>(S.res k R hk).1) (Q:=iK I n g Q) ?_ _ _ a _ ⟨by simp,(fun j o _ h=>by simp_all[Ez]),ν,?_⟩ hu
 ·intro a' w' ν' S'
  refine⟨m',L',H',ν',g3',?_⟩
  grind
 ·have e1:(fun t=>UI ((Array.replicate l.toArray.size false).getD · false) l.toArray T t (J5 t L) l.toArray.size)=fun t=>J5 t L:=funext fun t=>TB (j:=0) (Nat.zero_le _) fun i _ _ _=>hno i
  have e2:(fun k=>hvn ((Array.replicate l.toArray.size false).getD · false) T k (hlk k H) l.toArray.size)=fun k=>hlk k H:=funext fun k=>TA (j:=0) (Nat.zero_le _) fun i _ _ _ _ _ _=>hno i
  rw[e1,e2]
  exact S1.moreN fun k hk=>.inl hk
end
def AA:Nat->Array Oper->List Tr->Bool:=A8 drawChk0
theorem ZL:AA=drawChk0:=BJ _
theorem drw{n:Nat}{ops:Array Oper}{tr:List Tr}(h:drawChk0 n ops tr=true):AA n ops tr=true:=by rw[ZL];exact h
def JE{R:Type}:LX->(LX->R)->R
 | [],K=>K []
 | (t,s)::L,K=>force s fun s=>JE L fun L=>K ((t,s)::L)
theorem ET{R:Type}:∀(l:LX) (K:LX->R),JE l K=K l
 | [],K=>rfl
 | (t,s)::r,K=>by simp only[JE,force_eq,ET r]
def IK{R:Type}(T:TT)(G:FT)(Q:Req->Option Rsp)(ops:List Oper):List Oper->List Tr->Nat->LX->HX->(List Tr->Nat->LX->HX->Option R)->Option R
 | [],tr,m,L,H,K=>K tr m L H
 | o::r,tr,m,L,H,K=>match o.guard with
  | none=>Ij (o.looksAt ops.toArray) fun lk=>JE (iV lk L) fun L'=>II T G Q (FB L') (fun k=>hlk k H) m o.op fun t=>IX o.dst t m L H fun m L H=>IK T G Q ops r (tr++[t]) m L H K
  | some (j,want)=>(match(ops[j]?).bind (·.dst) with
   | some d'=>(match J5 d' L with
    | some (.b c)=>bif c then
      bif want then Ij (o.looksAt ops.toArray) fun lk=>JE (iV lk L) fun L'=>II T G Q (FB L') (fun k=>hlk k H) m o.op fun t=>IX o.dst t m L H fun m L H=>IK T G Q ops r (tr++[t]) m L H K
      else IK T G Q ops r (tr++[⟨.tup [],[],[],true,0⟩]) m (WB o.dst (.tup []) L) H K
     else
      bif want then IK T G Q ops r (tr++[⟨.tup [],[],[],true,0⟩]) m (WB o.dst (.tup []) L) H K
      else Ij (o.looksAt ops.toArray) fun lk=>JE (iV lk L) fun L'=>II T G Q (FB L') (fun k=>hlk k H) m o.op fun t=>IX o.dst t m L H fun m L H=>IK T G Q ops r (tr++[t]) m L H K
    | some (.tup [])=>IK T G Q ops r (tr++[⟨.tup [],[],[],true,0⟩]) m (WB o.dst (.tup []) L) H K
    | _=>none)
   | none=>none)
theorem A5A{m:Nat}{H:HX}(hm:∀ k R,hlk k H=some R->k<m)(hpre:∀ k R,Eh k t.F=some R->hlk k H=some R)(hnew:∀ k,has k t.F'->has k t.F\/(m<=k/\k<m+t.nn))(hrd:t.rd=true->t.F'=t.F):∀ k R,hlk k (stH t H)=some R->k<m+t.nn:=by
 intro k R h
 rw[vM hpre hrd] at h
 rcases Yz h with h|⟨h,_,_⟩
 ·rcases hnew k ((DT _ _).2 ⟨R,h⟩) with h1|h1
  ·obtain⟨R0,h2⟩:=(DT _ _).1 h1
   have:=hm k R0 (hpre k R0 h2);omega
  ·exact h1.2
 ·have:=hm k R h;omega
section
variable {P:Program}{I:World->Prop}{n:Nat}{g:Gx}{T:TT}{G:FT}{Q:Req->Option Rsp}{α:Type}{r:α}
theorem A1q(hT:TTok P I T)(hG:cZ P G)(hQ:QOK P I Q){ops:List Oper}{fin:List Tr->Nat->LX->HX->Prop}{K:List Tr->Nat->LX->HX->Option α}(hK:∀ tr m L H,K tr m L H=some r->fin tr m L H)(l:List Oper):∀(tr:List Tr) (m:Nat) (L:LX) (H:HX),(∀ k R,hlk k H=some R->k<m)->IK T G Q ops l tr m L H K=some r->DRX P I ops.toArray fin l tr m L H:=by
 induction l with
 | nil=>intro tr m L H _ h;exact hK _ _ _ _ h
 | cons o l ih =>
  intro tr m L H hm h
  rw[IK] at h
  have run:∀ lk,lk=o.looksAt ops.toArray->II T G Q (FB (iV lk L)) (fun k=>hlk k H) m o.op (fun t=>IX o.dst t m L H fun m L H=>IK T G Q ops l (tr++[t]) m L H K)=some r->∃ t,(OPL P I (iV (o.looksAt ops.toArray) L) t.F o.op o.type t.s t.F')/\(∀ k R,Eh k t.F=some R->hlk k H=some R)/\(∀ k,has k t.F'->has k t.F\/(m<=k/\k<m+t.nn))/\(t.rd=true->t.F'=t.F)/\DRX P I ops.toArray fin l (tr++[t]) (stepM t m) (vO o.dst t.s L) (jJ t H):=by
   clear h
   rintro lk rfl h9
   obtain⟨t,ht,ok⟩:=XQ hT hG hQ hm h9
   rw[Sz] at ht
   exact⟨t,ok.opl _,ok.pre,ok.new,ok.rd,ih _ _ _ _ (A5A hm ok.pre ok.new ok.rd) ht⟩
  have skip:IK T G Q ops l (tr++[⟨.tup [],[],[],true,0⟩]) m (WB o.dst (.tup []) L) H K=some r->DRX P I ops.toArray fin l (tr++[⟨.tup [],[],[],true,0⟩]) (stepM ⟨.tup [],[],[],true,0⟩ m) (vO o.dst (.tup []) L) (jJ ⟨.tup [],[],[],true,0⟩ H):=fun h=>ih _ _ _ _ hm h
  have hnil:∀ k R,Eh k ([]:Fp)=some R->hlk k H=some R:=fun k R h=>zaL
  have hnil2:∀ k,has k ([]:Fp)->has k ([]:Fp)\/(m<=k/\k<m+0):=fun k h=>absurd h (Ha k)
  split at h
  ·rename_i hg
   rw[EO,ET] at h
   obtain⟨t,h1,h2,h3,h4,h5⟩:=run _ rfl h
   exact⟨t,⟨by simp_all[Obl],h2,h3,h4⟩,h5⟩
  ·rename_i j want hg
   split at h
   ·rename_i d' hd'
    have hj:Eb ops.toArray j=some d':=by grind[Eb]
    split at h
    ·rename_i c hc
     have run2:c=want->II T G Q (FB (iV (o.looksAt ops.toArray) L)) (fun k=>hlk k H) m o.op (fun t=>IX o.dst t m L H fun m L H=>IK T G Q ops l (tr++[t]) m L H K)=some r->DRX P I ops.toArray fin (o::l) tr m L H:=by
      intro e h9
      obtain⟨t,h1,h2,h3,h4,h5⟩:=run _ rfl h9
      exact⟨t,⟨by simp_all[Obl],h2,h3,h4⟩,h5⟩
     have skip2:c = !want->IK T G Q ops l (tr++[⟨.tup [],[],[],true,0⟩]) m (WB o.dst (.tup []) L) H K=some r->DRX P I ops.toArray fin (o::l) tr m L H:=by
      intro e h9
      exact⟨⟨.tup [],[],[],true,0⟩,⟨by unfold Obl;simp_all,hnil,hnil2,fun _=>rfl⟩,skip h9⟩
     cases c with
     | true =>
      cases want with
      | true=>simp only[cond_true,EO,ET] at h;simp_all
      | false=>simp_all
     | false =>
      cases want with
      | true=>simp_all
      | false=>simp only[cond_false,EO,ET] at h;simp_all
    ·rename_i hc
     exact⟨⟨.tup [],[],[],true,0⟩,⟨by unfold Obl;simp_all,hnil,hnil2,fun _=>rfl⟩,skip h⟩
    ·cases h
   ·cases h
end
end
end Go.Ax
namespace Go.Ax
noncomputable section
open Go Go.RowKit Go.Eng
set_option linter.unusedVariables false
set_option linter.unusedSimpArgs false
def XR(keep:List Nat)(L:LX):LX:=match keep with
 | []=>[]
 | t::r=>(match J5 t L with|some s=>(t,s)::XR r L|none=>XR r L)
def RI:LX->List Nat
 | []=>[]
 | (_,s)::L=>names s++RI L
def A5B(ρ:Nat->Nat):LX->LX
 | []=>[]
 | (t,s)::L=>(t,ren ρ s)::A5B ρ L
def upto(n:Nat):List Nat:=List.range n
def hIn(ρ:Nat->Nat)(hk:Nat->Option Rs):Nat->List Nat->HX
 | _,[]=>[]
 | i,k::r=>match hk k with
  | some R=>(i,some (IA ρ R))::hIn ρ hk (i+1) r
  | none=>hIn ρ hk (i+1) r
variable {R:Type}
def NH:HX->(HX->R)->R
 | [],K=>K []
 | (k,some r)::H,K=>UQ r fun r=>NH H fun H=>K ((k,some r)::H)
 | (k,none)::H,K=>NH H fun H=>K ((k,none)::H)
theorem I4:∀(l:HX) (K:HX->R),NH l K=K l
 | [],K=>rfl
 | (k,some r)::H,K=>by simp only[NH,Pm,I4 H]
 | (k,none)::H,K=>by simp only[NH,I4 H]
def preB:Nat->Nat->List Nat->Bool
 | 0,_,_=>true
 | n+1,i,k::r=>Nat.beq k i&&preB n (i+1) r
 | _+1,_,[]=>false
def RJ(hk:Nat->Option Rs)(ks:List Nat):List Nat->Bool
 | []=>true
 | k::r=>(match hk k with|some R=>allIn ks (NG R)|none=>true)&&RJ hk ks r
def canon(keep:List Nat)(n0:Nat)(L:LX)(H:HX)(K:Nat->LX->HX->Option R):Option R :=
 JE (XR keep L) fun L1=>Ij (close (fun k=>hlk k H) 60 [] (upto n0++RI L1)) fun ks =>
  bif nodupB ks&&preB n0 0 ks&&allIn ks (RI L1)&&RJ (fun k=>hlk k H) ks ks then
   JE (A5B (fun k=>idx k ks) L1) fun L=>NH (hIn (fun k=>idx k ks) (fun k=>hlk k H) 0 ks) fun H=>addN 0 ks.length fun m=>K m L H
  else none
theorem A1r{keep:List Nat}{L:LX}{t:Nat}{s:AV}(h:J5 t (XR keep L)=some s):J5 t L=some s:=by
 induction keep with
 | nil=>cases h
 | cons d r ih =>
  grind[XR,FP]
theorem jL{ρ:Nat->Nat}{t:Nat}{s:AV}:∀ {L:LX},J5 t (A5B ρ L)=some s->∃ s1,J5 t L=some s1/\s=ren ρ s1
 | [],h=>zaL
 | (d,v)::L,h=>by
  simp only[A5B] at h
  rw[FP] at h ⊢
  split at h
  ·simp_all
  ·rename_i e;rw[if_neg e];exact jL h
theorem XT{t:Nat}{s:AV}{k:Nat}(hk:k∈names s):∀ {L:LX},J5 t L=some s->k∈RI L
 | [],h=>zaL
 | (d,v)::L,h=>by
  rw[FP] at h
  simp only[RI]
  split at h
  ·simp_all
  ·exact List.mem_append.2 (.inr (XT hk h))
theorem P6{ρ:Nat->Nat}{hk:Nat->Option Rs}{R:Rs}{j:Nat}:∀ {ks:List Nat} {i:Nat},hlk j (hIn ρ hk i ks)=some R->∃ q k R1,ks[q]?=some k/\j=i+q/\hk k=some R1/\R=IA ρ R1
 | [],i,h=>zaL
 | k::ks,i,h=>by
  simp only[hIn] at h
  split at h
  ·rename_i R1 h1
   rw[F5] at h
   split at h
   ·rename_i e;exact⟨0,k,R1,rfl,by simpa using e,h1,(Option.some.inj h).symm⟩
   ·obtain⟨q,k',R',g1,g2,g3,g4⟩:=P6 h
    exact⟨q+1,k',R',by grind,by omega,g3,g4⟩
  ·obtain⟨q,k',R',g1,g2,g3,g4⟩:=P6 h
   exact⟨q+1,k',R',by grind,by omega,g3,g4⟩
theorem XU:∀ {n i:Nat} {ks:List Nat} {j:Nat},preB n i ks=true->j<n->ks[j]?=some (i+j)
 | 0,i,ks,j,_,hj=>zaa
 | n+1,i,[],j,h,_=>zaL
 | n+1,i,k::r,0,h,_=>by simp_all[preB]
 | n+1,i,k::r,j+1,h,hj=>by
  simp only[preB,Bool.and_eq_true] at h
  have:=XU (j:=j) h.2 zaa
  grind
theorem RN{hk:Nat->Option Rs}{ks:List Nat}:∀ {l:List Nat} {k:Nat} {R:Rs},RJ hk ks l=true->k∈l->hk k=some R->∀ q∈NG R,q∈ks
 | a::l,k,R,h,hm,hR=>by
  simp only[RJ,Bool.and_eq_true] at h
  rcases List.mem_cons.1 hm with rfl|hm
  ·simp_all[LM]
  ·exact RN h.2 hm hR
theorem A1s{keep:List Nat}{n0:Nat}{L:LX}{H:HX}{K:Nat->LX->HX->Option R}{r:R}(h:canon keep n0 L H K=some r):∃(m':Nat) (L':LX) (H':HX) (ρ:Nat->Nat),K m' L' H'=some r /\
  ∀ {I:World->Prop} {n:Nat} {g:Gx} {m:Nat} {a:Act} {w:World} {ν:Nat->Value},g.n0=n0->IP I n g m L H a w ν->IP I n g m' L' H' a w (fun k=>ν (ρ k)):=by
 unfold canon at h
 rw[ET,EO] at h
 generalize hks:close (fun k=>hlk k H) 60 [] (upto n0++RI (XR keep L))=ks at h
 cases hc:(nodupB ks&&preB n0 0 ks&&allIn ks (RI (XR keep L))&&RJ (fun k=>hlk k H) ks ks) with
 | false=>simp_all
 | true =>
  rw[hc] at h
  simp only[cond_true,ET,I4,DX,Nat.zero_add] at h
  simp only[Bool.and_eq_true,OE,LM] at hc
  obtain⟨⟨⟨hnd,hpre⟩,hin⟩,hinH⟩:=hc
  refine⟨_,_,_,nth ks,h,fun {I n g m a w ν} hg S=>?_⟩
  refine S.cut (nth ks) (fun k hk=>?_) (fun t s hs=>?_) (fun k R hR=>?_) (fun k k' R R' h1 h2 e=>?_)
  ·rw[hg] at hk
   have:=XU hpre hk
   rw[Nat.zero_add] at this
   grind[J9]
  ·obtain⟨s1,h1,rfl⟩:=jL hs
   grind[jI,XT,A1r]
  ·obtain⟨q,k',R1,h1,h2,h3,rfl⟩:=P6 hR
   rw[Nat.zero_add] at h2
   subst h2
   obtain⟨h4,h5⟩:=Ul (R:=R1) (RN hinH (List.mem_of_getElem? h1) h3)
   grind[J9]
  ·obtain⟨q,k1,R1,g1,g2,_,_⟩:=P6 h1
   obtain⟨q',k2,R2,f1,f2,_,_⟩:=P6 h2
   rw[Nat.zero_add] at g2 f2
   grind[J9,List.getElem?_inj]
def one1(k e:Nat)(t:Ty)(l:List (El t)):Nat->Option Rs:=fun j=>bif Nat.beq j k then some (.row e t l) else none
def vwX(hk:Nat->Option Rs):LX->LX
 | []=>[]
 | (t,s)::L=>(t,vw hk s)::vwX hk L
def A7x(hk:Nat->Option Rs):Rs->Rs
 | .var l=>.var (iT hk l)
 | .rowA e s n l=>.rowA e s n (iT hk l)
 | R=>R
def vwH(hk:Nat->Option Rs):HX->HX
 | []=>[]
 | (k,some R)::H=>(k,some (A7x hk R))::vwH hk H
 | (k,none)::H=>(k,none)::vwH hk H
theorem vP(hk:Nat->Option Rs)(t:Nat):∀(L:LX),J5 t (vwX hk L)=(J5 t L).map (vw hk)
 | []=>rfl
 | (d,s)::L=>by rw[vwX,FP,FP,vP hk t L];split<;>rfl
theorem vS(hk:Nat->Option Rs)(k:Nat):∀(H:HX),hlk k (vwH hk H)=(hlk k H).map (A7x hk)
 | []=>rfl
 | (d,some R)::H|(d,none)::H=>by rw[vwH,F5,F5,vS hk k H];split<;>rfl
theorem Sat.giveUp{I:World->Prop}{n:Nat}{g:Gx}{m:Nat}{L:LX}{H:HX}{a:Act}{w:World}{ν:Nat->Value}(S:IP I n g m L H a w ν){k e:Nat}{t:Ty}{l:List (El t)}(hkk:hlk k H=some (.row e t l)):
  IP I n g m (vwX (one1 k e t l) L) ((k,none)::vwH (one1 k e t l) H) a w ν:=by
 have hG:∀ q R,Eh q [(k,Rs.row e t l)]=some R->q=k/\R=.row e t l:=fun q R h=>by
  rw[Cf] at h
  simp_all
 have hres:∀ q R,Eh q [(k,Rs.row e t l)]=some R->q<m/\Holds ⟨(· < m),ν,Es g.Oa (fun k=>hlk k H) ν,w⟩ q R/\∀ b,blk (ν q)=some b->Es g.Oa (fun k=>hlk k H) ν b:=fun q R h=>by
  obtain⟨rfl,rfl⟩:=hG q R h
  obtain⟨r0,r1,r2⟩:=S.res _ _ hkk
  exact⟨r0,r1,fun b hb=>.inr ⟨_,_,hkk,hb⟩⟩
 have hin:∀ q,∀ e' t' l',one1 k e t l q=some (.row e' t' l')->Eh q [(k,Rs.row e t l)]=some (.row e' t' l'):=fun q e' t' l' h=>by
  unfold one1 at h
  cases hb:Nat.beq q k with
  | false=>simp_all
  | true =>
   simp_all[Cf]
 have hk':∀ q R,hlk q ((k,none)::vwH (one1 k e t l) H)=some R->q≠k/\∃ R0,hlk q H=some R0/\R=A7x (one1 k e t l) R0:=fun q R h=>by
  grind[F5,vS,Option.map_eq_some_iff]
 have hfb:∀ b,EH ν [(k,Rs.row e t l)] b↔blk (ν k)=some b:=fun b=>by
  constructor
  ·rintro⟨q,R,h,hb⟩;grind
  ·intro hb;exact⟨k,_,by rw[Cf,if_pos rfl],hb⟩
 have hown:∀ b,Es g.Oa (fun q=>hlk q ((k,none)::vwH (one1 k e t l) H)) ν b->Es g.Oa (fun k=>hlk k H) ν b/\¬EH ν [(k,Rs.row e t l)] b:=by
  rintro b (hb|⟨q,R,hq,hb⟩)
  ·refine⟨.inl hb,fun hf=>?_⟩
   have h1:=S.amb b hb
   have h2:=((S.res _ _ hkk).2.2 b ((hfb b).1 hf)).2
   grind
  ·obtain⟨hne,R0,h1,_⟩:=hk' q R hq
   refine⟨.inr ⟨q,R0,h1,hb⟩,fun hf=>?_⟩
   exact S.dist q k R0 _ b h1 hkk hne hb ((hfb b).1 hf)
 have hle:Cx.Le none (Cx.less ⟨(· < m),ν,Es g.Oa (fun k=>hlk k H) ν,w⟩ [(k,Rs.row e t l)]) ⟨(· < m),ν,Es g.Oa (fun q=>hlk q ((k,none)::vwH (one1 k e t l) H)) ν,w⟩ :=
  ⟨fun k _ h=>⟨h,rfl⟩,fun w'' hs=>hs.mono fun i _ h=>hown i h⟩
 refine⟨S.size,S.defers,S.stp,S.amb,fun w'' hs=>S.inv w'' (hs.mono fun i _ h=>(hown i h).1),S.pin,fun d s hs=>?_,fun q R hR=>?_,fun q q' R R' b h h' hne=>?_⟩
 ·rw[vP] at hs
  obtain⟨s0,h1,rfl⟩:=Option.map_eq_some_iff.1 hs
  exact Rep.le hle _ _ (G9 _) (A79 hres s0 _ (fun q _ e' t' l' h=>hin q e' t' l' h) (S.slots d s0 h1))
 ·obtain⟨hne,R0,h1,rfl⟩:=hk' q R hR
  obtain⟨r0,r1,r2⟩:=S.res q R0 h1
  refine⟨r0,Holds.le hle (DJ _) rfl (fun b hb=>⟨(r2 b hb).1,rfl⟩) ?_,r2⟩
  cases R0 with
  | var l0 =>
   obtain⟨b,us,g1,g2,g3,g4⟩:=r1
   exact⟨b,us,g1,g2,Lt hres l0 us (fun q _ e' t' l' h=>hin q e' t' l' h) g3,g4⟩
  | row e0 t0 l0=>exact Holds.le (Cx.less_le _ _) (DJ _) rfl (fun b hb=>⟨(r2 b hb).1,rfl⟩) r1
  | rowA e0 s0 n0 l0 =>
   obtain⟨us,g1,g2,g3⟩:=r1
   exact⟨us,g1,Lt hres l0 us (fun q _ e' t' l' h=>hin q e' t' l' h) g2,g3⟩
 ·obtain⟨_,R0,h1,_⟩:=hk' q R h
  obtain⟨_,R1,h2,_⟩:=hk' q' R' h'
  exact S.dist q q' R0 R1 b h1 h2 hne
def Um(L0:LX):LX->List Nat
 | []=>[]
 | (t,.nm k)::L=>(match J5 t L0 with|some (.nm j)=>bif Nat.beq j k then k::Um L0 L else Um L0 L|_=>Um L0 L)
 | _::L=>Um L0 L
def heldBy(L:LX):List Nat->List Nat
 | []=>[]
 | t::r=>(match J5 t L with|some s=>names s++heldBy L r|none=>heldBy L r)
def WQ:HX->List Nat
 | []=>[]
 | (_,some R)::H=>NG R++WQ H
 | (_,none)::H=>WQ H
def XV(ks:List Nat):List Nat->List Nat
 | []=>[]
 | k::r=>bif O9 k ks then XV ks r else k::XV ks r
def KZ:List Nat->LX->HX->(LX->HX->R)->R
 | [],L,H,K=>K L H
 | k::r,L,H,K=>(match hlk k H with
  | some (.row e t l)=>JE (vwX (one1 k e t l) L) fun L=>NH ((k,none)::vwH (one1 k e t l) H) fun H=>KZ r L H K
  | _=>KZ r L H K)
def vT(sz n:Nat)(cells:List AV):Option (List (El (.sl (.sl .u8)))):=bif Nat.beq sz 1 then oz (.sl (.sl .u8)) n cells else none
def Gl:List Nat->LX->HX->(LX->HX->R)->R
 | [],L,H,K=>K L H
 | k::r,L,H,K=>(match hlk k H with
  | some (.row e t l)=>JE (vwX (one1 k e t l) L) fun L=>NH ((k,none)::vwH (one1 k e t l) H) fun H=>Gl r L H K
  | some (.rowA _ _ _ cells)=>KZ (FX cells) L H fun L H=>(match hlk k H with
   | some (.rowA e sz n cells)=>(match vT sz n cells with
    | some l=>JE (vwX (one1 k e (.sl (.sl .u8)) l) L) fun L=>NH ((k,none)::vwH (one1 k e (.sl (.sl .u8)) l) ((k,some (.row e (.sl (.sl .u8)) l))::H)) fun H=>Gl r L H K
    | none=>Gl r L H K)
   | _=>Gl r L H K)
  | _=>Gl r L H K)
def XW(need:Option (List Nat))(n0:Nat)(L:LX)(H:HX)(K:LX->HX->R):R:=match need with
 | none=>K L H
 | some need=>Ij (bif O9 999999 need then XV (upto n0++heldBy L need) (nub [] (Um L L++WQ H)) else XV (upto n0++heldBy L need++WQ H) (nub [] (Um L L))) fun ks=>Gl ks L H K
theorem Sat.conv{I:World->Prop}{n:Nat}{g:Gx}{m:Nat}{L:LX}{H:HX}{a:Act}{w:World}{ν:Nat->Value}(S:IP I n g m L H a w ν){k:Nat}{R R':Rs}(hkk:hlk k H=some R)(hR:∀ c,Holds c k R->Holds c k R'):
  IP I n g m L ((k,some R')::H) a w ν:=by
 have hk':∀ q Q,hlk q ((k,some R')::H)=some Q->∃ Q0,hlk q H=some Q0/\∀ c,Holds c q Q0->Holds c q Q:=fun q Q h=>by
  rw[F5] at h
  grind
 have hown:Es g.Oa (fun q=>hlk q ((k,some R')::H)) ν=Es g.Oa (fun q=>hlk q H) ν:=by
  funext b
  refine propext (or_congr Iff.rfl ⟨fun⟨q,Q,h1,h2⟩=>?_,fun⟨q,Q,h1,h2⟩=>?_⟩)
  ·grind
  ·by_cases e:q=k
   ·subst e;exact⟨q,R',(F5 q q (some R') H).trans (if_pos rfl),h2⟩
   ·exact⟨q,Q,((F5 q k (some R') H).trans (if_neg e)).trans h1,h2⟩
 refine⟨S.size,S.defers,S.stp,S.amb,?_,S.pin,?_,fun q Q h=>?_,fun q q' Q Q' b h h' hne=>?_⟩
 ·rw[hown];exact S.inv
 ·rw[hown];exact S.slots
 ·obtain⟨Q0,h1,h2⟩:=hk' q Q h
  obtain⟨r0,r1,r2⟩:=S.res q Q0 h1
  simp_all
 ·obtain⟨Q0,h1,_⟩:=hk' q Q h
  obtain⟨Q1,h2,_⟩:=hk' q' Q' h'
  exact S.dist q q' Q0 Q1 b h1 h2 hne
theorem A1t{e sz n k:Nat}{cells:List AV}{l:List (El (.sl (.sl .u8)))}(h:vT sz n cells=some l)(c:Cx)(hh:Holds c k (.rowA e sz n cells)):Holds c k (.row e (.sl (.sl .u8)) l):=by
 unfold vT at h
 cases hb:Nat.beq sz 1 with
 | false=>simp_all
 | true =>
  rw[hb,cond_true] at h
  obtain rfl:sz=1:=by simpa using hb
  obtain⟨vs,h1,h2,h3⟩:=hh
  obtain⟨h4,h5⟩:=bn h h2
  exact⟨vs,by rw[h5];exact h1,h4,h3⟩
theorem P7{I:World->Prop}{n:Nat}{g:Gx}{m:Nat}{a:Act}{w:World}{ν:Nat->Value}:∀(ks:List Nat) {L:LX} {H:HX} {K:LX->HX->R},IP I n g m L H a w ν->∃ L' H',KZ ks L H K=K L' H'/\IP I n g m L' H' a w ν
 | [],L,H,K,S=>⟨L,H,rfl,S⟩
 | k::r,L,H,K,S=>by
  unfold KZ
  split
  ·rename_i e t l hkk
   simp only[ET,I4]
   exact P7 r (Sat.giveUp S hkk)
  ·exact P7 r S
theorem JJ{I:World->Prop}{n:Nat}{g:Gx}{m:Nat}{a:Act}{w:World}{ν:Nat->Value}:∀(ks:List Nat) {L:LX} {H:HX} {K:LX->HX->R},IP I n g m L H a w ν->∃ L' H',Gl ks L H K=K L' H'/\IP I n g m L' H' a w ν
 | [],L,H,K,S=>⟨L,H,rfl,S⟩
 | k::r,L,H,K,S=>by
  unfold Gl
  split
  ·rename_i e t l hkk
   simp only[ET,I4]
   exact JJ r (Sat.giveUp S hkk)
  ·rename_i cells hkk
   obtain⟨L',H',h1,S'⟩:=P7 (K:=fun L H=>(match hlk k H with
    | some (.rowA e sz n cells)=>(match vT sz n cells with
     | some l=>JE (vwX (one1 k e (.sl (.sl .u8)) l) L) fun L=>NH ((k,none)::vwH (one1 k e (.sl (.sl .u8)) l) ((k,some (.row e (.sl (.sl .u8)) l))::H)) fun H=>Gl r L H K
     | none=>Gl r L H K)
    | _=>Gl r L H K)) (FX cells) S
   rw[h1]
   split
   ·rename_i e sz n' cells' hkk'
    split
    ·rename_i l hl
     simp only[ET,I4]
     exact JJ r (Sat.giveUp (Sat.conv S' hkk' (R':=.row e (.sl (.sl .u8)) l) (A1t hl)) (by rw[F5,if_pos rfl]))
    ·exact JJ r S'
   ·exact JJ r S'
  ·exact JJ r S
theorem A1u{I:World->Prop}{n:Nat}{g:Gx}{m:Nat}{a:Act}{w:World}{ν:Nat->Value}{need:Option (List Nat)}{n0:Nat}{L:LX}{H:HX}{K:LX->HX->R}(S:IP I n g m L H a w ν):∃ L' H',XW need n0 L H K=K L' H'/\IP I n g m L' H' a w ν:=by
 unfold XW
 split
 ·grind
 ·rw[EO];exact JJ _ S
theorem RP:∀(ks:List Nat) {L:LX} {H:HX} {R':Type} {K:LX->HX->R} {K':LX->HX->R'} {Z:R->R'->Prop},(∀ L H,Z (K L H) (K' L H))->Z (KZ ks L H K) (KZ ks L H K')
 | [],L,H,R',K,K',Z,h=>h L H
 | k::r,L,H,R',K,K',Z,h=>by
  unfold KZ
  split
  ·simp only[ET,I4];exact RP r h
  ·exact RP r h
theorem Jl:∀(ks:List Nat) {L:LX} {H:HX} {R':Type} {K:LX->HX->R} {K':LX->HX->R'} {Z:R->R'->Prop},(∀ L H,Z (K L H) (K' L H))->Z (Gl ks L H K) (Gl ks L H K')
 | [],L,H,R',K,K',Z,h=>h L H
 | k::r,L,H,R',K,K',Z,h=>by
  unfold Gl
  split
  ·simp only[ET,I4];exact Jl r h
  ·refine RP _ fun L H=>?_
   split
   ·split
    ·simp only[ET,I4];exact Jl r h
    ·exact Jl r h
   ·exact Jl r h
  ·exact Jl r h
theorem A5C{need:Option (List Nat)}{n0:Nat}{L:LX}{H:HX}{R':Type}{K:LX->HX->R}{K':LX->HX->R'}{Z:R->R'->Prop}(h:∀ L H,Z (K L H) (K' L H)):Z (XW need n0 L H K) (XW need n0 L H K'):=by
 unfold XW
 split
 ·exact h L H
 ·simp only[EO];exact Jl _ h
def WC:List (Nat×Nat×Ty)->Nat->LX->HX->(Nat->LX->HX->R)->R
 | [],m,L,H,K=>K m L H
 | (t,e,τ)::r,m,L,H,K=>bif Nat.ble 1000000 t then(match J5 ((t-1000000)/1000) L with
   | some (.pa k o)=>(match hlk k H with
    | some (.var cells)=>(match cells[o+(t-1000000)%1000]? with
     | some .nil=>addN 1 m fun m'=>WC r m' L ((k,some (.var (cells.set (o+(t-1000000)%1000) (.nm m))))::(m,some (.row e τ []))::H) K
     | _=>WC r m L H K)
    | _=>WC r m L H K)
   | _=>WC r m L H K)
  else(match J5 t L with
  | some .nil=>addN 1 m fun m'=>WC r m' ((t,.nm m)::L) ((m,some (.row e τ []))::H) K
  | _=>WC r m L H K)
theorem Sat.nilName{I:World->Prop}{n:Nat}{g:Gx}{m:Nat}{L:LX}{H:HX}{a:Act}{w:World}{ν:Nat->Value}(S:IP I n g m L H a w ν)(e:Nat)(τ:Ty):
  IP I n g (m+1) L ((m,some (.row e τ []))::H) a w (fun q=>if q=m then .slice none 0 0 else ν q)/\Rep ⟨(· < m+1),(fun q=>if q=m then Value.slice none 0 0 else ν q),Es g.Oa (fun k=>hlk k ((m,some (.row e τ []))::H)) (fun q=>if q=m then .slice none 0 0 else ν q),w⟩ (.nm m) (.slice none 0 0):=by
 have hO:∀ b,Es g.Oa (fun k=>hlk k H) ν b->b<w.heap.size:=by
  rintro b (h|⟨k,R,h1,h2⟩)
  ·exact Nat.lt_of_lt_of_le (S.amb b h).1 S.stp.size
  ·exact((S.res k R h1).2.2 b h2).1
 have ok:Ok ⟨(· < m),ν,Es g.Oa (fun k=>hlk k H) ν,w⟩ [] [(m,.row e τ [])] (.nm m) (.slice none 0 0) w (fun q=>if q=m then .slice none 0 0 else ν q) :=
  Ok.newM (sz:=τ.n) (n:=0) (e:=e) (cells:=[]) (vs:=[]) (Nat.lt_irrefl m) hO (Stp.refl _ _) (World.ownsG_nil w 0 e τ.n) (fun b h=>by cases h) (by simp only[AY]) (fun u hu=>by cases hu) (fun c' hh=>hh)
 have hh:∀ k,has k [(m,Rs.row e τ [])]↔k=m:=fun k=>by
  unfold has
  rw[Cf]
  by_cases h:k=m
  ·simp[h]
  ·simp[h]
 exact Sat.step S (N':=(· < m+1)) (hk':=fun k=>hlk k ((m,some (.row e τ []))::H)) (fun k R h=>by cases h) ok (fun k=>by rw[hh];omega) (fun k=>by
  unfold upd
  rw[F5,Cf]
  by_cases h:k=m
  ·simp[h]
  ·simp[h])
theorem Sat.nilRow{I:World->Prop}{n:Nat}{g:Gx}{m:Nat}{L:LX}{H:HX}{a:Act}{w:World}{ν:Nat->Value}(S:IP I n g m L H a w ν){t e:Nat}{τ:Ty}(ht:J5 t L=some .nil):
  IP I n g (m+1) ((t,.nm m)::L) ((m,some (.row e τ []))::H) a w (fun q=>if q=m then .slice none 0 0 else ν q):=by
 have hv:=S.slots t _ ht
 simp only[Rep] at hv
 obtain⟨S1,hr⟩:=Sat.nilName S e τ
 refine⟨S1.size,S1.defers,S1.stp,S1.amb,S1.inv,S1.pin,fun d s hs=>?_,S1.res,S1.dist⟩
 rw[FP] at hs
 split at hs
 ·rename_i he
  obtain rfl:=Option.some.inj hs
  subst he
  rw[hv];exact hr
 ·exact S1.slots d s hs
theorem AY.setv{c:Cx}:∀ {l:List AV} {us:List Value} {i:Nat} {s:AV},AY c l us->(∀ u,us[i]?=some u->Rep c s u)->AY c (l.set i s) us
 | [],us,i,s,h,hs=>zaN
 | a::r,us,i,s,h,hs=>by
  simp only[AY] at h
  obtain⟨u,t,rfl,h1,h2⟩:=h
  cases i with
  | zero=>simp only[List.set_cons_zero,AY];exact⟨u,t,rfl,hs u rfl,h2⟩
  | succ i=>simp only[List.set_cons_succ,AY];exact⟨u,t,rfl,h1,AY.setv h2 fun v hv=>hs v (by simpa using hv)⟩
theorem Sat.vcell{I:World->Prop}{n:Nat}{g:Gx}{m:Nat}{L:LX}{H:HX}{a:Act}{w:World}{ν:Nat->Value}(S:IP I n g m L H a w ν){k i p:Nat}{cells:List AV}(hk:hlk k H=some (.var cells))(hi:cells[i]?=some .nil)(hp:Rep ⟨(· < m),ν,Es g.Oa (fun k=>hlk k H) ν,w⟩ (.nm p) (.slice none 0 0)):
  IP I n g m L ((k,some (.var (cells.set i (.nm p))))::H) a w ν:=by
 have hown:Es g.Oa (fun q=>hlk q ((k,some (.var (cells.set i (.nm p))))::H)) ν=Es g.Oa (fun q=>hlk q H) ν:=by
  funext b
  refine propext ⟨?_,?_⟩
  ·rintro(h|⟨q,R,h1,h2⟩)
   ·exact .inl h
   ·simp only[F5] at h1
    by_cases e:q=k
    ·subst e;exact .inr ⟨q,_,hk,h2⟩
    ·rw[if_neg e] at h1;exact .inr ⟨q,R,h1,h2⟩
  ·rintro(h|⟨q,R,h1,h2⟩)
   ·exact .inl h
   ·by_cases e:q=k
    ·subst e;exact .inr ⟨q,.var (cells.set i (.nm p)),by simp only[F5,if_pos],h2⟩
    ·exact .inr ⟨q,R,by simp only[F5,if_neg e];exact h1,h2⟩
 refine⟨S.size,S.defers,S.stp,S.amb,?_,S.pin,?_,?_,?_⟩
 ·rw[hown];exact S.inv
 ·rw[hown];exact S.slots
 ·rw[hown]
  intro q R hq
  simp only[F5] at hq
  by_cases e:q=k
  ·subst e
   rw[if_pos rfl] at hq
   obtain rfl:=Option.some.inj hq
   obtain⟨h1,⟨b,us,h2,h3,h4,h5⟩,h6⟩:=S.res q _ hk
   refine⟨h1,⟨b,us,h2,h3,AY.setv h4 fun u hu=>?_,h5⟩,h6⟩
   obtain⟨u',hu',hr⟩:=h4.get hi
   simp only[Rep] at hr
   rw[hu'] at hu
   obtain rfl:=Option.some.inj hu
   rw[hr];exact hp
  ·rw[if_neg e] at hq;exact S.res q R hq
 ·intro q q' R R' b h1 h2
  have get:∀ {q R},hlk q ((k,some (.var (cells.set i (.nm p))))::H)=some R->∃ R0,hlk q H=some R0:=by
   intro q R h
   simp only[F5] at h
   by_cases e:q=k
   ·subst e;exact⟨_,hk⟩
   ·rw[if_neg e] at h;exact⟨R,h⟩
  obtain⟨R0,g0⟩:=get h1
  obtain⟨R1,g1⟩:=get h2
  exact S.dist q q' R0 R1 b g0 g1
theorem OG{I:World->Prop}{n:Nat}{g:Gx}{a:Act}{w:World}:∀(l:List (Nat×Nat×Ty)) {m:Nat} {ν:Nat->Value} {L:LX} {H:HX} {K:Nat->LX->HX->R},IP I n g m L H a w ν->∃ m' L' H' ν',WC l m L H K=K m' L' H'/\IP I n g m' L' H' a w ν'
 | [],m,ν,L,H,K,S=>⟨m,L,H,ν,rfl,S⟩
 | (t,e,τ)::r,m,ν,L,H,K,S=>by
  unfold WC
  cases Nat.ble 1000000 t with
  | true =>
   rw[cond_true]
   split
   ·rename_i k o hl
    split
    ·rename_i cells hk
     split
     ·rename_i hi
      rw[DX,Nat.add_comm 1 m]
      obtain⟨S1,hr⟩:=Sat.nilName S e τ
      have hkm:k<m:=(S.res k _ hk).1
      have hk':hlk k ((m,some (.row e τ []))::H)=some (.var cells):=by rw[F5,if_neg zaa];exact hk
      exact OG r (Sat.vcell S1 hk' hi hr)
     ·exact OG r S
    ·exact OG r S
   ·exact OG r S
  | false =>
   rw[cond_false]
   split
   ·rename_i h
    rw[DX,Nat.add_comm 1 m]
    exact OG r (Sat.nilRow S h)
   ·exact OG r S
theorem RQ:∀(l:List (Nat×Nat×Ty)) {m:Nat} {L:LX} {H:HX} {R':Type} {K:Nat->LX->HX->R} {K':Nat->LX->HX->R'} {Z:R->R'->Prop},(∀ m L H,Z (K m L H) (K' m L H))->Z (WC l m L H K) (WC l m L H K')
 | [],m,L,H,R',K,K',Z,h=>h m L H
 | (t,e,τ)::r,m,L,H,R',K,K',Z,h=>by
  unfold WC
  cases Nat.ble 1000000 t with
  | true =>
   rw[cond_true,cond_true]
   split
   ·split
    ·split
     ·simp only[DX];exact RQ r h
     ·exact RQ r h
    ·exact RQ r h
   ·exact RQ r h
  | false =>
   rw[cond_false,cond_false]
   split
   ·simp only[DX];exact RQ r h
   ·exact RQ r h
def NI(E:Plc)(n0 m:Nat)(L:LX)(H:HX)(K:Nat->LX->HX->Option R):Option R:=WC E.nils m L H fun m L H=>XW E.need n0 L H fun L H=>match E.keep with
 | some keep=>canon keep n0 L H K
 | none=>K m L H
theorem QA{E:Plc}{n0 m:Nat}{L:LX}{H:HX}{K:Nat->LX->HX->Option R}{r:R}{I:World->Prop}{n:Nat}{g:Gx}{a:Act}{w:World}{ν:Nat->Value}(hg:g.n0=n0)(S:IP I n g m L H a w ν)(h:NI E n0 m L H K=some r):
  ∃ m' L' H' ν',K m' L' H'=some r/\IP I n g m' L' H' a w ν':=by
 unfold NI at h
 obtain⟨m1,L1,H1,ν1,h1,S1⟩:=OG E.nils (K:=fun m L H=>XW E.need n0 L H fun L H=>match E.keep with|some keep=>canon keep n0 L H K|none=>K m L H) S
 rw[h1] at h
 obtain⟨L2,H2,h2,S2⟩:=A1u (need:=E.need) (n0:=n0) (K:=fun L H=>match E.keep with|some keep=>canon keep n0 L H K|none=>K m1 L H) S1
 rw[h2] at h
 revert h
 cases E.keep with
 | none=>grind
 | some keep =>
  intro h
  obtain⟨m',L',H',ρ,h3,h4⟩:=A1s h
  exact⟨_,_,_,_,h3,h4 hg S2⟩
def VS(G:FT)(f id:Nat):Plc:=match WA f G with
 | some fi=>(match fi.give with
  | []=>{}
  | l=>(match l.find? fun p=>Nat.beq p.1 id with|some p=>p.2|none=>{}))
 | none=>{}
theorem dU(a j:Nat):Nat.blt (a+j) a=false:=by
 simp_all[Bool.eq_false_iff]
def DK:Code->Nat
 | .seq a b|.cond _ a b=>DK a+DK b
 | .block _ c=>DK c
 | .loop c=>DK c+1
 | _=>0
def Ew:Code->Nat->Option Code
 | .seq a b,k|.cond _ a b,k=>bif Nat.blt k (DK a) then Ew a k else Ew b (k-DK a)
 | .block _ c,k=>Ew c k
 | .loop c,k=>bif Nat.beq k 0 then some c else Ew c (k-1)
 | _,_=>none
def OY(T:TT)(G:FT)(Q:Req->Option Rsp)(n f n0:Nat)(keep:List (Plc×Plc)):Code->Nat->Nat->LX->HX->(Exit->Nat->LX->HX->Option Rsp)->Option Rsp
 | .skip,k,m,L,H,K|.label _,k,m,L,H,K=>K .normal m L H
 | .seq a b,k,m,L,H,K=>OY T G Q n f n0 keep a k m L H fun e m L H=>match e with
  | .normal=>OY T G Q n f n0 keep b (k+DK a) m L H K
  | e=>K e m L H
 | .cond c a b,k,m,L,H,K=>(match FB L c with
  | some (.b t)=>bif t then OY T G Q n f n0 keep a k m L H K else OY T G Q n f n0 keep b (k+DK a) m L H K
  | _=>none)
 | .block id c,k,m,L,H,K=>OY T G Q n f n0 keep c k m L H fun e m L H=>match e with
  | .exit id'=>bif Nat.beq id' id then K .normal m L H else K (.exit id') m L H
  | e=>K e m L H
 | .exit id,k,m,L,H,K=>K (.exit id) m L H
 | .ret,k,m,L,H,K=>K .ret m L H
 | .region id ops false,k,m,L,H,K=>NI (VS G f id) n0 m L H fun m L H=>Iy T G Q n ops.toList ops.toList m L H fun m L H=>K .normal m L H
 | .region id ops true,k,m,L,H,K=>NI (VS G f id) n0 m L H fun m L H=>IK T G Q ops.toList ops.toList [] m L H fun tr m L H=>bif AA n ops.toList.toArray tr then K .normal m L H else none
 | .loop c,k,m,L,H,K=>addN 0 k fun k=>(match keep[k]? with
  | some kp=>NI kp.1 n0 m L H fun m L H=>(Q (.loop f k n0 m L H)).bind fun r=>match r with
   | .fin e m L H=>K e m L H
   | _=>none
  | none=>none)
 | _,_,_,_,_,_=>none
def Qg(P:Program)(c:Code)(Q:Exit->Act->World->Prop)(a:Act)(w:World):Prop:=∀ b k cs,∃ e a' w',Q e a' w'/\Arrives P (lone (b.at a (.code c::.inLoop c::k)) cs w) b k cs e a' w'
theorem Qg.wp{P:Program}{c:Code}{Q:Exit->Act->World->Prop}{a:Act}{w:World}(h:Qg P c Q a w):(Code.loop c).wp P Q a w:=by
 intro b k cs
 obtain⟨e,a',w',hq,harr⟩:=h b k cs
 exact⟨e,a',w',hq,.of_steps (.one step_loop) harr⟩
theorem Qg.mono{P:Program}{c:Code}{Q Q':Exit->Act->World->Prop}{a:Act}{w:World}(h:Qg P c Q a w)(hq:∀ e a w,Q e a w->Q' e a w):Qg P c Q' a w:=by
 intro b k cs
 obtain⟨e,a',w',h1,harr⟩:=h b k cs
 grind
theorem Qg.unroll{P:Program}{c:Code}{Q:Exit->Act->World->Prop}{a:Act}{w:World}(h:c.wp P (Exit.then (fun a w=>Qg P c Q a w) Q) a w):Qg P c Q a w:=by
 intro b k cs
 obtain⟨e,a₁,w₁,hq,harr⟩:=h b (.inLoop c::k) cs
 cases e with
 | normal =>
  obtain⟨e₂,a₂,w₂,hq₂,harr₂⟩:=hq b k cs
  exact⟨e₂,a₂,w₂,hq₂,.of_steps (Steps.trans harr (.one step_inLoop)) harr₂⟩
 | exit id|goto l|ret|panic ch|outgrown=>exact⟨_,a₁,w₁,hq,.pass (x:=.inLoop c) rfl (fun _ _=>.inl zak) harr⟩
def A9U(P:Program)(I:World->Prop)(n:Nat)(c:Code)(n0 m:Nat)(L:LX)(H:HX)(e:Exit)(m':Nat)(L':LX)(H':HX):Prop :=
 ∀ g:Gx,g.n0=n0->∀ a w ν,IP I n g m L H a w ν->Qg P c (iK I n g fun e1 m1 L1 H1=>e1=e/\m1=m'/\L1=L'/\H1=H') a w
section
variable {P:Program}{I:World->Prop}{n f n0:Nat}{g:Gx}{T:TT}{G:FT}{Q:Req->Option Rsp}{r:Rsp}{keep:List (Plc×Plc)}{tab:Nat->Option Code}
theorem A1v(hT:TTok P I T)(hG:cZ P G)(hQ:QOK P I Q)(hx:P.follows .mixedOrders=true)(hg:g.n0=n0)(hL:∀ k c m L H e m' L' H',tab k=some c->Q (.loop f k n0 m L H)=some (.fin e m' L' H')->A9U P I n c n0 m L H e m' L' H'):
  ∀(c:Code) (k m:Nat) (L:LX) (H:HX) (K:Exit->Nat->LX->HX->Option Rsp) (Φ:PostX),(∀ j c',Ew c j=some c'->j<DK c->tab (k+j)=some c')->OY T G Q n f n0 keep c k m L H K=some r->(∀ e m L H,K e m L H=some r->Φ e m L H)->Wc P I n g c Φ m L H:=by
 intro c
 induction c with
 | skip=>intro k m L H K Φ hk h hK;exact A4s (hK _ _ _ _ h)
 | label l=>intro k m L H K Φ hk h hK;exact A11 (hK _ _ _ _ h)
 | exit id=>intro k m L H K Φ hk h hK;exact A4t (hK _ _ _ _ h)
 | ret=>intro k m L H K Φ hk h hK;exact A7o (hK _ _ _ _ h)
 | seq a b iha ihb =>
  intro k m L H K Φ hk h hK
  rw[OY] at h
  refine A7n (fun e m L H=>(match e with|.normal=>OY T G Q n f n0 keep b (k+DK a) m L H K|e=>K e m L H)=some r) (iha k m L H _ _ (fun j c' hj hlt=>hk j c' ?_ ?_) h fun e m L H h=>h) (fun m L H h=>ihb _ _ _ _ _ _ (fun j c' hj hlt=>?_) h hK) (fun e m L H he h=>hK e m L H ?_)
  ·simp only[Ew];rw[show Nat.blt j (DK a)=true from by simpa using hlt];exact hj
  ·grind[DK]
  ·simp_all[Nat.add_assoc,DK,Ew,dU]
  simp_all
 | cond x a b iha ihb =>
  intro k m L H K Φ hk h hK
  rw[OY] at h
  split at h
  ·rename_i t ht
   refine A4u ht ?_
   cases t with
   | true =>
    refine iha k m L H _ _ (fun j c' hj hlt=>hk j c' ?_ ?_) h hK
    ·simp only[Ew];rw[show Nat.blt j (DK a)=true from by simpa using hlt];exact hj
    grind[DK]
   | false =>
    refine ihb _ m L H _ _ (fun j c' hj hlt=>?_) h hK
    simp_all[Nat.add_assoc,DK,Ew,dU]
  ·cases h
 | block id c ih =>
  intro k m L H K Φ hk h hK
  rw[OY] at h
  refine A13 (fun e m L H=>(match e with|.exit id'=>bif Nat.beq id' id then K .normal m L H else K (.exit id') m L H|e=>K e m L H)=some r) (ih k m L H _ _ (fun j c' hj hlt=>hk j c' hj hlt) h fun e m L H h=>h) (fun m L H h=>hK _ _ _ _ ?_) (fun e m L H he h=>hK e m L H ?_)
  ·simp_all
  ·cases e with
   | exit id' =>
    have:Nat.beq id' id=false:=by simp_all[Bool.eq_false_iff]
    simp_all
   | _=>exact h
 | region id ops b =>
  intro k m L H K Φ hk h hK
  obtain⟨l⟩:=ops
  cases b with
  | false =>
   rw[OY] at h
   intro a w ν S
   obtain⟨m',L',H',ν',h2,S'⟩:=QA hg S h
   exact xy (A1n hT hG hQ (fun m L H h=>hK _ _ _ _ h) l m' L' H' h2) a w ν' S'
  | true =>
   rw[OY] at h
   intro a w ν S
   obtain⟨m',L',H',ν',h,S'⟩:=QA hg S h
   refine A59 (n:=n) hx (A1q (fin:=fun tr m L H=>drawChk0 n l.toArray tr=true/\Φ .normal m L H) hT hG hQ (fun tr m L H h=>?_) l [] m' L' H' (fun k R hk=>(S'.res k R hk).1) h) a w ν' S'
   grind[ZL]
 | loop c ih =>
  intro k m L H K Φ hk h hK
  rw[OY,DX,Nat.zero_add] at h
  split at h
  ·rename_i kp hkp
   intro a w ν S
   obtain⟨m',L',H',ν',h1,S'⟩:=QA hg S h
   obtain⟨rr,h3,h4⟩:=Option.bind_eq_some_iff.1 h1
   split at h4
   ·rename_i e m2 L2 H2
    have hs:=hL k c m' L' H' e m2 L2 H2 (by have:=hk 0 c (by simp[Ew]) (by simp[DK]);omega) h3 g hg
    exact wp_mono (hs a w _ S').wp fun e' a' w' ⟨m3,L3,H3,ν3,q,S3⟩=>by
     obtain⟨rfl,rfl,rfl,rfl⟩:=q
     exact⟨_,_,_,ν3,hK _ _ _ _ h4,S3⟩
   ·cases h4
  ·cases h
 | _=>simp_all[OY]
end
end
end Go.Ax
namespace Go.Ax
variable {fn:Func}
noncomputable section
open Go Go.RowKit Go.Eng
set_option linter.unusedVariables false
set_option linter.unusedSimpArgs false
def argX(k:Nat):List AV->LX
 | []=>[]
 | v::r=>(k,v)::argX (k+1) r
theorem A5D(vs:List AV):∀(k t:Nat) (s:AV),J5 t (argX k vs)=some s->k<=t/\vs[t-k]?=some s:=by
 induction vs with
 | nil=>intro k t s h;cases h
 | cons v r ih =>
  intro k t s h
  rw[argX,FP] at h
  by_cases e:t=k
  ·simp_all
  grind
def hOf(k:Nat):List Rs->HX
 | []=>[]
 | r::l=>(k,some r)::hOf (k+1) l
theorem WR:∀(l:List Rs) (i k:Nat),hlk k (hOf i l)=Eh k (L9 i l)
 | [],i,k=>rfl
 | R::l,i,k=>by rw[hOf,L9,F5,Cf,WR l]
def rv(tmps:Array Value)(r:ResultVar):Sem Value:=match r with|.tmp t=>pure (tmps.getD t undef)|.cell x t=>do loadVar t (<-asAddr (tmps.getD x undef))
theorem pY(fn:Func)(tmps:Array Value):results fn tmps=(do let vs<-fn.results.mapM (rv tmps);pure (if h:vs.size=1 then vs[0] else .tuple vs)):=rfl
def jM(T:TT)(L:LX)(H:HX):List ResultVar->Option (List AV)
 | []=>some []
 | .tmp t::r=>(match J5 t L,jM T L H r with|some s,some l=>some (s::l)|_,_=>none)
 | .cell t ty::r=>(match J5 t L,ML ty T,jM T L H r with
  | some (.pa k o),some i,some l=>(match hlk k H with
   | some (.var cells)=>(match IG (scalar i.u) i.size (cells.drop o) with|some s=>some (s::l)|none=>none)
   | _=>none)
  | _,_,_=>none)
def A5E(l:List AV):AV:=match l with|[s]=>s|l=>.tup l
def A5F(us:List Value):Value:=match us with|[u]=>u|us=>.tuple us.toArray
variable {R:Type}
def QB:List (Option Rs)->(List (Option Rs)->R)->R
 | [],K=>K []
 | some s::r,K=>UQ s fun s=>QB r fun r=>K (some s::r)
 | none::r,K=>QB r fun r=>K (none::r)
theorem RU:∀(l:List (Option Rs)) (K:List (Option Rs)->R),QB l K=K l
 | [],K=>rfl
 | some s::r,K=>by simp only[QB,Pm,RU]
 | none::r,K=>by simp only[QB,RU]
def hrw(n0:Nat)(hk:Nat->Option Rs)(k:Nat):Option Rs:=bif Nat.blt k n0 then none else hk k
def hvw(n0:Nat)(hk:Nat->Option Rs)(k:Nat):Option Rs:=match hk k with
 | some (.var l)=>some (.var (iT (hrw n0 hk) l))
 | some (.rowA e s n l)=>some (.rowA e s n (iT (hrw n0 hk) l))
 | R=>R
def XX(hk:Nat->Option Rs):List Nat->List Nat
 | []=>[]
 | k::r=>(match hk k with|some R=>NG R|none=>[])++XX hk r
def A1w(T:TT)(fi:FI)(n0:Nat)(rs:List ResultVar)(L:LX)(H:HX):Option Rsp:=match jM T L H rs with
 | some l=>IW (VL fi.rs (bif fi.own then l else iT (hrw n0 fun k=>hlk k H) l)) fun l'=>Ij (close (bif fi.own then(fun k=>hlk k H) else hvw n0 fun k=>hlk k H) 60 [] (upto n0++FX l')) fun ks =>
   QB (ks.map fun k=>((bif fi.own then(fun k=>hlk k H) else hvw n0 fun k=>hlk k H) k).map (IA fun k=>idx k ks)) fun Hout =>
    bif nodupB ks&&preB n0 0 ks&&allIn ks (FX l')&&RJ (bif fi.own then(fun k=>hlk k H) else hvw n0 fun k=>hlk k H) ks ks&&Ou n0 Hout&&djB ks (bif fi.own then [] else rowsOf (hrw n0 fun k=>hlk k H) (nub [] (FX l++XX (fun k=>hlk k H) ks)))&&Nat.ble n0 ks.length then
     IW (I9 (fun k=>idx k ks) l') fun l=>force (A5E l) fun s=>some (.ret s Hout)
    else none
 | none=>none
def A7z(T:TT)(fi:FI)(n0:Nat)(rs:List ResultVar)(m:Nat)(L:LX)(H:HX):Option Rsp:=NI fi.fin n0 m L H fun _ L H=>A1w T fi n0 rs L H
section
variable {P:Program}{I:World->Prop}{n:Nat}{g:Gx}{m:Nat}{L:LX}{H:HX}{a:Act}{w:World}{ν:Nat->Value}{T:TT}
theorem A1x(hT:TTok P I T)(S:IP I n g m L H a w ν):∀ {rs:List ResultVar} {l:List AV},jM T L H rs=some l->∃ us,(rs.mapM (rv a.tmps)).run P w=.ok us w/\AY ⟨(· < m),ν,Es g.Oa (fun k=>hlk k H) ν,w⟩ l us
 | [],l,h=>by simp_all[jM,AY]
 | .tmp t::rs,l,h=>by
  simp only[jM] at h
  split at h
  ·rename_i s l' h1 h2
   obtain rfl:=Option.some.inj h
   obtain⟨us,h3,h4⟩:=A1x hT S h2
   refine⟨a.tmps.getD t undef::us,?_,by simp only[AY];exact⟨_,us,rfl,S.slots _ _ h1,h4⟩⟩
   simp_all[rv]
  ·cases h
 | .cell t ty::rs,l,h=>by
  simp only[jM] at h
  split at h
  ·rename_i k o i l' h1 hi h2
   split at h
   ·rename_i cells hk
    split at h
    ·rename_i s hs
     obtain rfl:=Option.some.inj h
     obtain⟨us,h3,h4⟩:=A1x hT S h2
     obtain⟨_,⟨b,vs,e1,e2,e3,e4⟩,_⟩:=S.res k _ hk
     have hp:=A1W (S.slots _ _ h1) e1
     obtain⟨v,hv,hr⟩:=Uh (w:=w) (hT _ _ hi) hs (e3.drop o) (fun u hu=>e4 u (List.mem_of_mem_drop hu)) (e2.cs o)
     refine⟨v::us,?_,by simp only[AY];grind⟩
     simp_all[rv,asAddr]
    ·cases h
   ·cases h
  ·cases h
theorem pg(hT:TTok P I T)(S:IP I n g m L H a w ν){rs:List ResultVar}(hrs:fn.results.toList=rs){l:List AV}(h:jM T L H rs=some l):
  ∃ us,(results fn a.tmps).run P w=.ok (A5F us) w/\AY ⟨(· < m),ν,Es g.Oa (fun k=>hlk k H) ν,w⟩ l us:=by
 obtain⟨us,h1,h2⟩:=A1x hT S h
 refine⟨us,?_,h2⟩
 rw[pY]
 have h3:(fn.results.mapM (rv a.tmps)).run P w=.ok us.toArray w:=by
  rw[show fn.results=rs.toArray from by rw[<-hrs]]
  simp_all
 simp only[Sem.run_bind,h3,Result.andThen_ok,Sem.run_pure]
 match us with
 | []|[u]=>rfl
 | u::v::r=>simp;rfl
theorem A1y{c:Cx}:∀ {l:List AV} {us:List Value},AY c l us->Rep c (A5E l) (A5F us)
 | [s],us,h=>by obtain⟨u,rfl,hr⟩:=AY.un1 h;exact hr
 | [],us,h=>by
  have h':=h
  simp only[AY] at h
  subst h
  simp only[A5E,A5F,Rep];simp_all
 | s::s'::l,us,h=>by
  have h':=h
  simp only[AY] at h
  obtain⟨u,t,rfl,h1,u',t',rfl,h2,h3⟩:=h
  simp only[A5E,A5F,Rep];simp_all
theorem A1z{hk:Nat->Option Rs}{ks:List Nat}{k:Nat}{R:Rs}(h:Eh k (Gq id 0 (ks.map fun k=>(hk k).map (IA fun k=>idx k ks)))=some R):∃ q R1,ks[k]?=some q/\hk q=some R1/\R=IA (fun k=>idx k ks) R1:=by
 have:=XN h
 grind[Option.map_eq_some_iff]
theorem XY{hk:Nat->Option Rs}{k:Nat}{R:Rs}{q:Nat}(hR:hk k=some R)(hq:q∈NG R):∀ {ks:List Nat},k∈ks->q∈XX hk ks
 | a::ks,h=>by
  simp only[XX]
  rcases List.mem_cons.1 h with rfl|h
  ·simp_all
  ·exact List.mem_append.2 (.inr (XY hR hq h))
theorem A20{n0:Nat}{hk:Nat->Option Rs}{k:Nat}{R:Rs}(h:hrw n0 hk k=some R):hk k=some R:=by
 grind[hrw]
theorem A21{n0:Nat}{hk:Nat->Option Rs}{k:Nat}{R:Rs}(h:hvw n0 hk k=some R):∃ R0,hk k=some R0/\(R=R0\/(∃ l,R0=.var l/\R=.var (iT (hrw n0 hk) l))\/∃ e s n l,R0=.rowA e s n l/\R=.rowA e s n (iT (hrw n0 hk) l)):=by
 unfold hvw at h
 grind
theorem A22(hT:TTok P I T){fi:FI}{n0:Nat}{rs:List ResultVar}{r:Rsp}{w0:World}{O:Nat->Prop}{F:Fp}{ν0:Nat->Value}(hrs:fn.results.toList=rs)(hO:∀ b,EH ν0 F b->O b)(S:IP I n ⟨w0,EH ν0 F,fun b=>O b/\¬EH ν0 F b,n0,ν0⟩ m L H a w ν)(h:A1w T fi n0 rs L H=some r):
  ∃ s Hout v ν',r=.ret s Hout/\(results fn a.tmps).run P w=.ok v w/\Ok ⟨(· < n0),ν0,O,w0⟩ F (Gq id 0 Hout) s v w ν':=by
 unfold A1w at h
 split at h
 ·rename_i l hl
  obtain⟨us,hrun,hreps⟩:=pg hT S hrs hl
  rw[Gy,EO,RU] at h
  generalize hl':VL fi.rs (bif fi.own then l else iT (hrw n0 fun k=>hlk k H) l)=l' at h
  generalize hhv:(bif fi.own then(fun k=>hlk k H) else hvw n0 fun k=>hlk k H)=hv at h
  generalize hks:close hv 60 [] (upto n0++FX l')=ks at h
  generalize hvs:(bif fi.own then [] else rowsOf (hrw n0 fun k=>hlk k H) (nub [] (FX l++XX (fun k=>hlk k H) ks)))=vs at h
  cases hc:(nodupB ks&&preB n0 0 ks&&allIn ks (FX l')&&RJ hv ks ks&&Ou n0 (ks.map fun k=>(hv k).map (IA fun k=>idx k ks))&&djB ks vs&&Nat.ble n0 ks.length) with
  | false=>simp_all
  | true =>
   rw[hc] at h
   simp only[cond_true,Gy,force_eq,Option.some.injEq] at h
   simp only[Bool.and_eq_true,OE,LM] at hc
   obtain⟨⟨⟨⟨⟨⟨hnd,hpre⟩,hin⟩,hinH⟩,hnew⟩,hdj⟩,hn0⟩:=hc
   have hn0:n0<=ks.length:=by simpa using hn0
   have hdj:=cO hdj
   have hvH:∀ k R,Eh k vs=some R->hlk k H=some R:=by
    intro k R hk
    rw[<-hvs] at hk
    cases ho:fi.own with
    | true=>simp_all
    | false=>rw[ho] at hk;exact A20 (MW hk).1
   have hresG:∀ k R,Eh k vs=some R->k<m/\Holds ⟨(· < m),ν,Es (fun b=>O b/\¬EH ν0 F b) (fun k=>hlk k H) ν,w⟩ k R/\∀ b,blk (ν k)=some b->Es (fun b=>O b/\¬EH ν0 F b) (fun k=>hlk k H) ν b:=fun k R hk=>by
    obtain⟨r0,r1,r2⟩:=S.res k R (hvH k R hk)
    exact⟨r0,r1,fun b hb=>.inr ⟨k,R,hvH k R hk,hb⟩⟩
   -- the values, without the rows that are read from now on
   have hr1:AY (Cx.less ⟨(· < m),ν,Es (fun b=>O b/\¬EH ν0 F b) (fun k=>hlk k H) ν,w⟩ vs) l' us:=by
    grind[Sv,AY.le,Cx.less_le,DJ,Lt,Ls,Su]
   -- the things
   have hthing:∀ k R,k∈ks->hv k=some R->∃ R0,hlk k H=some R0/\Holds (Cx.less ⟨(· < m),ν,Es (fun b=>O b/\¬EH ν0 F b) (fun k=>hlk k H) ν,w⟩ vs) k R:=by
    intro k R hkk hR
    rw[<-hhv] at hR
    have same:∀ R,hlk k H=some R->Holds (Cx.less ⟨(· < m),ν,Es (fun b=>O b/\¬EH ν0 F b) (fun k=>hlk k H) ν,w⟩ vs) k R:=fun R hR=>by
     obtain⟨r0,r1,r2⟩:=S.res k R hR
     exact Holds.le (Cx.less_le _ _) (DJ _) rfl (fun b hb=>⟨(r2 b hb).1,rfl⟩) r1
    cases ho:fi.own with
    | true=>grind
    | false =>
     rw[ho] at hR
     have hvw:∀ R0,hlk k H=some R0->∀ q∈NG R0,∀ e t l,hrw n0 (fun k=>hlk k H) q=some (.row e t l)->Eh q vs=some (.row e t l):=fun R0 h0 q hq e t l0 hh=>by
      grind[Ls,Su,XY]
     obtain⟨R0,h0,h1⟩:=A21 (n0:=n0) (hk:=fun k=>hlk k H) hR
     refine⟨R0,h0,?_⟩
     rcases h1 with rfl|⟨l0,rfl,rfl⟩|⟨e,sz,n1,l0,rfl,rfl⟩
     ·grind
     ·obtain⟨_,⟨b,vs1,g1,g2,g3,g4⟩,_⟩:=S.res k _ h0
      exact⟨b,vs1,g1,g2,Lt hresG l0 vs1 (hvw _ h0) g3,g4⟩
     ·obtain⟨_,⟨vs1,g1,g2,g3⟩,_⟩:=S.res k _ h0
      exact⟨vs1,g1,Lt hresG l0 vs1 (hvw _ h0) g2,g3⟩
   obtain⟨hback,hlt⟩:=JI l' hin
   have hHout:=fun {k R} h=>A1z (hk:=hv) (ks:=ks) (k:=k) (R:=R) h
   have hOb:∀ b,((O b/\¬EH ν0 F b)\/EH (fun k=>ν (nth ks k)) (Gq id 0 (ks.map fun k=>(hv k).map (IA fun k=>idx k ks))) b)->Es (fun b=>O b/\¬EH ν0 F b) (fun k=>hlk k H) ν b/\¬EH ν vs b:=by
    rintro b (hb|⟨k,R,hk,hb⟩)
    ·refine⟨.inl hb,?_⟩
     rintro⟨q,R1,hq,hqb⟩
     obtain⟨_,_,r2⟩:=S.res q R1 (hvH q R1 hq)
     have:=S.amb b hb
     grind
    ·obtain⟨q,R1,h1,h2,rfl⟩:=hHout hk
     have hb:blk (ν (nth ks k))=some b:=hb
     rw[J9 h1] at hb
     obtain⟨R0,h0,_⟩:=hthing q R1 (List.mem_of_getElem? h1) h2
     refine⟨.inr ⟨q,R0,h0,hb⟩,?_⟩
     rintro⟨q',R2,hq',hqb⟩
     refine S.dist q q' R0 R2 b h0 (hvH q' R2 hq') ?_ hb hqb
     rintro rfl
     grind[DT]
   have hN:∀ k,k<ks.length->nth ks k<m->(k<n0\/has k (Gq id 0 (ks.map fun k=>(hv k).map (IA fun k=>idx k ks))))/\(fun k=>ν (nth ks k)) k=ν (nth ks k):=by
    intro k hk _
    refine⟨?_,rfl⟩
    grind[Nk,jH]
   have hpin:∀ k,k<n0->nth ks k=k:=fun k hk=>by
    have:=XU hpre hk
    simp_all[J9]
   refine⟨_,_,_,fun k=>ν (nth ks k),h.symm,hrun,fun k hk=>?_,?_,fun k R hk=>?_,fun k k' R R' b hk hk' hne hb=>?_,S.stp⟩
   ·show ν (nth ks k)=ν0 k
    rw[hpin k hk];exact(S.pin k hk).2
   ·refine A1y ?_
    exact AY.ren (ρ:=nth ks) (N:=(· < m)) (ν:=ν) (m:=ks.length) hN (fun w'' hs=>hs.mono fun i _ hi=>hOb i hi) _ us hlt (by rw[hback];exact hr1)
   ·obtain⟨q,R1,h1,h2,rfl⟩:=hHout hk
    have hkl:k<ks.length:=(List.getElem?_eq_some_iff.1 h1).1
    obtain⟨R0,h0,hold⟩:=hthing q R1 (List.mem_of_getElem? h1) h2
    obtain⟨r0,r1,r2⟩:=S.res q R0 h0
    obtain⟨b1,b2⟩:=Ul (R:=R1) (RN hinH (List.mem_of_getElem? h1) h2)
    refine⟨?_,fun b hb=>?_⟩
    ·refine Holds.ren (ρ:=nth ks) (N:=(· < m)) (ν:=ν) (O:=fun b=>Es (fun b=>O b/\¬EH ν0 F b) (fun k=>hlk k H) ν b/\¬EH ν vs b) (m:=ks.length) hN (fun w'' hs=>hs.mono fun i _ hi=>hOb i hi) rfl b2 ?_
     rw[b1,J9 h1];exact hold
    simp_all[J9]
   ·obtain⟨q,R1,h1,h2,rfl⟩:=hHout hk
    obtain⟨q',R2,h3,h4,rfl⟩:=hHout hk'
    have hb:blk (ν (nth ks k))=some b:=hb
    show blk (ν (nth ks k'))≠some b
    rw[J9 h1] at hb
    rw[J9 h3]
    obtain⟨R0,h0,_⟩:=hthing q R1 (List.mem_of_getElem? h1) h2
    obtain⟨R0',h0',_⟩:=hthing q' R2 (List.mem_of_getElem? h3) h4
    refine S.dist q q' R0 R0' b h0 h0' ?_ hb
    rintro rfl
    grind[List.getElem?_inj]
 ·cases h
theorem A5G{f:FuncId}{c:Code}{fi:FI}{ins:List AV}{Hin:List Rs}{s:AV}{Hout:List (Option Rs)}(hT:TTok P I T)(hf:P.funcs[f]?=some fn)(hb:fn.body=some c)(hlen:Nat.ble ins.length fn.ntmps=true)(h:∀ g:Gx,g.n0=Hin.length->Wc P I fn.ntmps g c (fun e m L H=>(e=.normal\/e=.ret)/\A7z T fi Hin.length fn.results.toList m L H=some (.ret s Hout)) Hin.length (argX 0 ins) (hOf 0 Hin)):Yh P I f ins Hin s Hout:=by
 intro ν O w args hG hin hP
 have hlen:ins.length<=fn.ntmps:=zay
 have hl:=hin.len
 refine calls_of_wp hf hb ?_
 have hsz:(args.toArray++Array.replicate (fn.ntmps-args.toArray.size) undef).size=fn.ntmps:=zat
 have hF:(fun k=>hlk k (hOf 0 Hin))=fun k=>Eh k (L9 0 Hin):=funext fun k=>WR Hin 0 k
 have hO:∀ b,EH ν (L9 0 Hin) b->O b:=by rintro b ⟨k,R,hk,hb⟩;exact(hP.res k R hk).2.2 b hb
 have hown:Es (fun b=>O b/\¬EH ν (L9 0 Hin) b) (fun k=>Eh k (L9 0 Hin)) ν=O:=by
  funext b
  refine propext ⟨fun hb=>hb.elim (·.1) fun⟨k,R,hk,h⟩=>hO b ⟨k,R,hk,h⟩,fun hb=>?_⟩
  rcases Classical.em (EH ν (L9 0 Hin) b) with h|h
  ·exact .inr h
  ·exact .inl ⟨hb,h⟩
 refine wp_mono (h ⟨w,EH ν (L9 0 Hin),fun b=>O b/\¬EH ν (L9 0 Hin) b,Hin.length,ν⟩ rfl _ w ν ⟨hsz,rfl,Stp.refl _ _,fun b hb=>⟨hG.lt b hb.1,hb.2⟩,fun w' hs=>hG.inv w' zay,fun k hk=>⟨hk,rfl⟩,?_,?_,?_⟩) ?_
 ·intro t s hs
  rw[hF,hown]
  obtain⟨_,hv⟩:=A5D _ _ _ _ hs
  simp only[Nat.sub_zero] at hv
  obtain⟨u,hu,hr⟩:=hin.get hv
  have hlt:t<args.length:=(List.getElem?_eq_some_iff.1 hu).1
  simp_all[Array.getElem?_append_left]
 ·intro k R hk
  rw[hF,hown]
  rw[WR] at hk
  obtain⟨h1,h2,h3⟩:=hP.res k R hk
  exact⟨h1,h2,fun b hb=>⟨hG.lt b (h3 b hb),.inr ⟨k,R,hk,hb⟩⟩⟩
 ·intro k k' R R' b h1 h2
  rw[WR] at h1 h2
  exact hP.dist k k' R R' b h1 h2
 ·rintro e a w' ⟨m',L',H',ν',⟨he,q⟩,S'⟩
  obtain⟨m',L',H',ν',q,S'⟩:=QA rfl S' q
  obtain⟨s1,H1,v,ν2,e1,hrun,ok⟩:=A22 hT rfl hO S' q
  simp only[Rsp.ret.injEq] at e1
  obtain⟨rfl,rfl⟩:=e1
  rcases he with rfl|rfl
  ·exact⟨S'.defers,v,hrun,ν2,ok⟩
  ·exact⟨S'.defers,v,hrun,ν2,ok⟩
end
end
end Go.Ax
namespace Go.Ax
open Go Go.RowKit Go.Eng
set_option linter.unusedVariables false
set_option linter.unusedSimpArgs false
variable {t:TypeId}{a x:Option AV}{lo:Int}{b:Option (AV×Fp)}
section
variable {R:Type}{r:R}{T:TT}{hk:Nat->Option Rs}{m:Nat}
def Le{α:Type}(K K':α->Option R)(r:R):Prop:=∀ x,K x=some r->K' x=some r
theorem Hr{K K':AV->Option R}(hK:Le K K' r):y9 a K=some r->y9 a K'=some r:=by
 unfold y9;intro h;split at h
 ·exact hK _ h
 ·cases h
theorem bind_mono{α:Type}{a:Option α}{K K':α->Option R}(hK:Le K K' r):a.bind K=some r->a.bind K'=some r:=by
 intro h
 obtain⟨x,h1,h2⟩:=Option.bind_eq_some_iff.1 h
 rw[h1];exact hK _ h2
theorem Az{c:Bool}{a a' b b':Option R}(h1:a=some r->a'=some r)(h2:b=some r->b'=some r):(bif c then a else b)=some r->(bif c then a' else b')=some r:=by
 grind
theorem TC{y:AV}{K K':Nat->Option R}(hK:Le K K' r):O8 y K=some r->O8 y K'=some r:=by
 unfold O8
 split
 ·exact Az id (hK _)
 all_goals first|exact hK _|exact id
theorem jO{op:BinOp}{a b:UInt8}{K K':AV->Option R}(hK:Le K K' r):UR op a b K=some r->UR op a b K'=some r:=by
 unfold UR;split
 ·exact Az id (hK _)
 ·exact id
theorem pq{bt e2:Bool}{en:Nat}{bs:Bool}{op:BinOp}{x y:AV}{K K':AV->Option R}(hK:Le K K' r):Z5 bt e2 en bs op x y K=some r->Z5 bt e2 en bs op x y K'=some r:=by
 unfold Z5
 split
 ·refine TC fun c=>?_
  split<;>first|exact hK _|exact id
 ·refine TC fun c=>?_
  split<;>first|exact hK _|exact id
 ·repeat' split
  all_goals first|exact hK _|exact id|exact Az id (hK _)|exact Az (hK _) id|exact Az (hK _) (Az (hK _) id)|exact Az (hK _) (Az (hK _) (jO hK))|exact Az (Az id (hK _)) id|skip
  all_goals refine Az ?_ id;split<;>first|exact hK _|exact id
theorem jP{d:Und}{x:AV}{K K':AV->Option R}(hK:Le K K' r):Ot d x K=some r->Ot d x K'=some r:=by
 unfold Ot;split<;>first|exact hK _|exact id
theorem jQ{K K':Tr->Option R}(hK:Le K K' r):UT T hk t x K=some r->UT T hk t x K'=some r:=by
 unfold UT
 repeat' split
 all_goals first|exact hK _|exact id|skip
 all_goals refine Az (bind_mono fun x=>?_) id
 all_goals split<;>first|exact hK _|exact id
theorem dV{y:Option (List AV)}{K K':Tr->Option R}(hK:Le K K' r):Pn T hk t x y K=some r->Pn T hk t x y K'=some r:=by
 unfold Pn
 repeat' split
 all_goals first|exact hK _|exact id|skip
 all_goals repeat'(first|exact hK _|exact id|exact Hr (fun x=>hK _)|exact bind_mono (fun x=>hK _)|refine Az ?_ ?_|refine bind_mono fun x=>?_|split)
theorem jR{f:Nat}{K K':Tr->Option R}(hK:Le K K' r):UU T t x f K=some r->UU T t x f K'=some r:=by
 unfold UU
 repeat' split
 all_goals first|exact hK _|exact id|skip
 all_goals repeat'(first|exact hK _|exact id|exact Hr (fun x=>hK _)|exact bind_mono (fun x=>hK _)|refine Az ?_ ?_|refine bind_mono fun x=>?_|split)
theorem jS{ev:Operand->Option AV}{n:Nat}{ps:List (Nat×Operand)}{K K':Tr->Option R}(hK:Le K K' r):UV T ev hk m t n ps K=some r->UV T ev hk m t n ps K'=some r:=by
 unfold UV
 repeat' split
 all_goals first|exact hK _|exact id|skip
 all_goals repeat'(first|exact hK _|exact id|exact Hr (fun x=>hK _)|exact bind_mono (fun x=>hK _)|refine Az ?_ ?_|refine bind_mono fun x=>?_|split)
theorem yc{l c:Option AV}{K K':Tr->Option R}(hK:Le K K' r):yA T m t l c K=some r->yA T m t l c K'=some r:=by
 unfold yA
 simp only[SQ]
 repeat' split
 all_goals first|exact hK _|exact id|skip
 all_goals repeat'(first|exact hK _|exact id|exact Hr (fun x=>hK _)|exact bind_mono (fun x=>hK _)|refine Az ?_ ?_|refine bind_mono fun x=>?_|split)
theorem pz{j:Option Int}{K K':Tr->Option R}(hK:Le K K' r):Z7 T hk t x j K=some r->Z7 T hk t x j K'=some r:=by
 unfold Z7 A7r A7s
 repeat' split
 all_goals first|exact hK _|exact id|skip
 all_goals repeat'(first|exact hK _|exact id|exact Hr (fun x=>hK _)|exact bind_mono (fun x=>hK _)|refine Az ?_ ?_|refine bind_mono fun x=>?_|split)
theorem yf{j:Option Int}{K K':Tr->Option R}(hK:Le K K' r):yB T t x j K=some r->yB T t x j K'=some r:=by
 unfold yB
 repeat' split
 all_goals first|exact hK _|exact id|skip
 all_goals repeat'(first|exact hK _|exact id|exact Hr (fun x=>hK _)|exact bind_mono (fun x=>hK _)|refine Az ?_ ?_|refine bind_mono fun x=>?_|split)
theorem qK{x:AV}{F:Fp}{hi mx:Option (Option Int)}{K K':Tr->Option R}(hK:Le K K' r):Z8 T t x F lo hi mx K=some r->Z8 T t x F lo hi mx K'=some r:=by
 unfold Z8
 repeat' split
 all_goals first|exact hK _|exact id|skip
 all_goals repeat'(first|exact hK _|exact id|exact Hr (fun x=>hK _)|exact bind_mono (fun x=>hK _)|refine Az ?_ ?_|refine bind_mono fun x=>?_|split)
theorem qL{K K':Tr->Option R}(hK:Le K K' r):Z9 T t hk x K=some r->Z9 T t hk x K'=some r:=by
 unfold Z9
 repeat' split
 all_goals first|exact hK _|exact id|skip
 all_goals repeat'(first|exact hK _|exact id|exact Hr (fun x=>hK _)|exact bind_mono (fun x=>hK _)|refine Az ?_ ?_|refine bind_mono fun x=>?_|split)
theorem qP{K K':Tr->Option R}(hK:Le K K' r):ZA T hk m t a b K=some r->ZA T hk m t a b K'=some r:=by
 unfold ZA
 simp only[SQ]
 repeat' split
 all_goals first|exact hK _|exact id|skip
 all_goals repeat'(first|exact hK _|exact id|exact Hr (fun x=>hK _)|exact bind_mono (fun x=>hK _)|refine Az ?_ ?_|refine bind_mono fun x=>?_|split)
theorem jT{b:Option AV}{K K':Tr->Option R}(hK:Le K K' r):UZ T hk m t a b K=some r->UZ T hk m t a b K'=some r:=by
 unfold UZ
 simp only[DX]
 repeat' split
 all_goals first|exact hK _|exact id|skip
 all_goals repeat'(first|exact hK _|exact id|refine Az ?_ ?_|split)
theorem jU{K K':Tr->Option R}(hK:Le K K' r):UW T t x K=some r->UW T t x K'=some r:=by
 unfold UW
 repeat' split
 all_goals first|exact hK _|exact id|skip
 all_goals repeat'(first|exact hK _|exact id|refine Az ?_ ?_|split)
theorem jV{K K':Tr->Option R}(hK:Le K K' r):UX T hk t x K=some r->UX T hk t x K'=some r:=by
 unfold UX
 repeat' split
 all_goals first|exact hK _|exact id|skip
 all_goals repeat'(first|exact hK _|exact id|refine Az ?_ ?_|split)
theorem jW{hi:Option (Option Int)}{K K':Tr->Option R}(hK:Le K K' r):UY T hk t x lo hi K=some r->UY T hk t x lo hi K'=some r:=by
 unfold UY
 repeat' split
 all_goals first|exact hK _|exact id|skip
 all_goals repeat'(first|exact hK _|exact id|refine Az ?_ ?_|split)
theorem jX{t':TypeId}{b:Option AV}{K K':Tr->Option R}(hK:Le K K' r):Ua T hk m t t' a b K=some r->Ua T hk m t t' a b K'=some r:=by
 unfold Ua
 repeat' split
 all_goals first|exact hK _|exact id|skip
 all_goals repeat'(first|exact hK _|exact id|refine Az ?_ ?_|split)
theorem jY{t':TypeId}{b:Option AV}{K K':Tr->Option R}(hK:Le K K' r):Ub T hk m t t' a b K=some r->Ub T hk m t t' a b K'=some r:=by
 unfold Ub
 repeat' split
 all_goals first|exact hK _|exact id|skip
 all_goals repeat'(first|exact hK _|exact id|refine Az ?_ ?_|split)
theorem qQ{K K':Tr->Option R}(hK:Le K K' r):ZB T hk t a b K=some r->ZB T hk t a b K'=some r:=by
 unfold ZB
 repeat' split
 all_goals first|exact hK _|exact id|skip
 all_goals repeat'(first|exact hK _|exact id|exact Hr (fun x=>hK _)|exact bind_mono (fun x=>hK _)|refine Az ?_ ?_|refine bind_mono fun x=>?_|split)
theorem jZ{K K':Tr->Option R}(hK:Le K K' r):Uc T hk t a b K=some r->Uc T hk t a b K'=some r:=by
 unfold Uc
 repeat' split
 all_goals first|exact hK _|exact id|skip
 all_goals repeat'(first|exact hK _|exact id|refine Az ?_ ?_|split)
theorem qR{K K':Tr->Option R}(hK:Le K K' r):ZC T hk t a K=some r->ZC T hk t a K'=some r:=by
 unfold ZC
 repeat' split
 all_goals first|exact hK _|exact id|skip
 all_goals repeat'(first|exact hK _|exact id|refine Az ?_ ?_|split)
theorem qV{K K':Tr->Option R}(hK:Le K K' r):ZE T hk t a lo K=some r->ZE T hk t a lo K'=some r:=by
 unfold ZE
 repeat' split
 all_goals first|exact hK _|exact id|skip
 all_goals repeat'(first|exact hK _|exact id|refine Az ?_ ?_|split)
theorem yg{ev:Operand->Option AV}{op:Op}{K K':Tr->Option R}(hK:Le K K' r):yC T ev hk m op K=some r->yC T ev hk m op K'=some r:=by
 unfold yC
 split
 all_goals first|exact jQ hK|exact dV hK|exact jR hK|exact jS hK|exact yc hK|exact pz hK|exact yf hK|exact Hr (fun x=>hK _)|skip
 all_goals repeat'(first|exact hK _|exact id|exact Hr (fun x=>hK _)|exact qL hK|exact jU hK|exact jV hK|exact qP hK|exact jT hK|exact jX hK|exact jY hK|exact jW hK|exact qV hK|exact qR hK|exact jZ hK|exact qQ hK|exact qK hK|exact pq (fun x=>hK _)|exact jP (fun x=>hK _)|refine Az ?_ ?_|split)
end
end Go.Ax
namespace Go.Ax
noncomputable section
open Go Go.RowKit Go.Eng
set_option linter.unusedVariables false
set_option linter.unusedSimpArgs false
abbrev Orc:=Req->Option Rsp
def ZM(Q Q':Orc):Prop:=∀ q r,Q q=some r->Q' q=some r
section
variable {R:Type}{r:R}{T:TT}{G:FT}{hk:Nat->Option Rs}{m:Nat}{Q Q':Orc}
theorem TD(hQ:ZM Q Q'){ro:Bool}{f:Nat}{vs:Fp}{al:List AV}{ks:List Nat}{K K':Tr->Option R}(hK:Le K K' r):SS ro Q hk m f vs al ks K=some r->SS ro Q' hk m f vs al ks K'=some r:=by
 unfold SS
 split
 ·refine Az ?_ id
  simp only[Gy,RH]
  intro h
  obtain⟨x,h1,h2⟩:=Option.bind_eq_some_iff.1 h
  rw[hQ _ _ h1]
  simp only[Option.bind_some]
  revert h2
  split
  ·exact Az (Az (Az (hK _) id) (Az (hK _) (hK _))) id
  ·exact id
 ·exact id
theorem ja(hQ:ZM Q Q'){fx:Option AV}{args:Option (List AV)}{K K':Tr->Option R}(hK:Le K K' r):Ue G Q hk m fx args K=some r->Ue G Q' hk m fx args K'=some r:=by
 unfold Ue
 split
 ·split
  ·simp only[Gy,SX,EO]
   exact Az (TD hQ hK) (TD hQ hK)
  ·exact id
 ·exact id
theorem ED(hQ:ZM Q Q'){ev:Operand->Option AV}{op:Op}{K K':Tr->Option R}(hK:Le K K' r):II T G Q ev hk m op K=some r->II T G Q' ev hk m op K'=some r:=by
 unfold II
 grind[ja,yg]
theorem EE{d:Option Nat}{t:Tr}{L:LX}{H:HX}{K K':Nat->LX->HX->Option R}(hK:∀ m L H,K m L H=some r->K' m L H=some r):IX d t m L H K=some r->IX d t m L H K'=some r:=by
 simp_all[Sz]
theorem qW(hQ:ZM Q Q'){n:Nat}{ops:List Oper}{r:Rsp}:∀(l:List Oper) {m:Nat} {L:LX} {H:HX} {K K':Nat->LX->HX->Option Rsp},(∀ m L H,K m L H=some r->K' m L H=some r)->Iy T G Q n ops l m L H K=some r->Iy T G Q' n ops l m L H K'=some r:=by
 intro l
 induction l with
 | nil=>intro m L H K K' hK;exact hK _ _ _
 | cons o l ih =>
  intro m L H K K' hK
  rw[Iy,Iy]
  split
  ·exact Az (ED hQ fun t=>EE fun m L H=>ih hK) id
  ·split
   ·split
    ·refine Az (Az (Az (ED hQ fun t=>EE fun m L H=>ih hK) (ih hK)) (Az (ih hK) (ED hQ fun t=>EE fun m L H=>ih hK))) id
    ·exact Az (ih hK) id
    ·exact id
   ·exact id
theorem qX(hQ:ZM Q Q'){ops:List Oper}:∀(l:List Oper) {tr:List Tr} {m:Nat} {L:LX} {H:HX} {K K':List Tr->Nat->LX->HX->Option R},(∀ tr m L H,K tr m L H=some r->K' tr m L H=some r)->IK T G Q ops l tr m L H K=some r->IK T G Q' ops l tr m L H K'=some r:=by
 intro l
 induction l with
 | nil=>intro tr m L H K K' hK;exact hK _ _ _ _
 | cons o l ih =>
  intro tr m L H K K' hK
  rw[IK,IK]
  simp only[EO,ET]
  split
  ·exact ED hQ fun t=>EE fun m L H=>ih hK
  ·split
   ·split
    ·refine Az (Az (ED hQ fun t=>EE fun m L H=>ih hK) (ih hK)) (Az (ih hK) (ED hQ fun t=>EE fun m L H=>ih hK))
    ·exact ih hK
    ·exact id
   ·exact id
theorem qY{keep:List Nat}{n0:Nat}{L:LX}{H:HX}{K K':Nat->LX->HX->Option R}(hK:∀ m L H,K m L H=some r->K' m L H=some r):canon keep n0 L H K=some r->canon keep n0 L H K'=some r:=by
 unfold canon
 simp only[ET,EO,I4,DX]
 grind
theorem GN{E:Plc}{n0 m:Nat}{L:LX}{H:HX}{K K':Nat->LX->HX->Option R}(hK:∀ m L H,K m L H=some r->K' m L H=some r):NI E n0 m L H K=some r->NI E n0 m L H K'=some r:=by
 unfold NI
 refine RQ (Z:=fun a b=>a=some r->b=some r) E.nils fun m L H=>A5C (Z:=fun a b=>a=some r->b=some r) fun L H=>?_
 grind[qY]
theorem Nl(hQ:ZM Q Q'){n f n0:Nat}{keep:List (Plc×Plc)}{r:Rsp}:∀(c:Code) {k m:Nat} {L:LX} {H:HX} {K K':Exit->Nat->LX->HX->Option Rsp},(∀ e m L H,K e m L H=some r->K' e m L H=some r)->OY T G Q n f n0 keep c k m L H K=some r->OY T G Q' n f n0 keep c k m L H K'=some r:=by
 intro c
 induction c with
 | skip|label l|exit id|ret=>intro k m L H K K' hK;exact hK _ _ _ _
 | seq a b iha ihb =>
  grind[OY]
 | cond x a b iha ihb =>
  intro k m L H K K' hK
  rw[OY,OY]
  grind
 | block id c ih =>
  intro k m L H K K' hK
  rw[OY,OY]
  grind
 | region id ops b =>
  intro k m L H K K' hK
  cases b with
  | false=>grind[OY,GN,qW]
  | true=>rw[OY,OY];exact GN fun m L H=>qX hQ _ fun tr m L H=>Az (hK _ _ _ _) _root_.id
 | loop c ih =>
  intro k m L H K K' hK
  rw[OY,OY,DX,DX,Nat.zero_add]
  split
  ·refine GN fun m L H h=>?_
   obtain⟨x,h1,h2⟩:=Option.bind_eq_some_iff.1 h
   rw[hQ _ _ h1]
   grind
  ·exact id
 | _=>simp_all[OY]
end
abbrev CT:=List (Nat×Func)
def cfk(k:Nat):CT->Option Func
 | []=>none
 | (d,v)::H=>bif Nat.beq k d then some v else cfk k H
structure Env where
 T:TT
 G:FT
 C:CT
 ov:Orc
 vw:List Nat:=[]   -- functions in which a part of a row stays a row
def Env.tt(E:Env)(f:Nat):TT:=bif O9 f E.vw then E.T++E.T.take 1 else E.T
theorem vU:∀(A B:TT) (t:Nat) (i:TI),ML t (A++B)=some i->ML t A=some i\/ML t B=some i
 | [],B,t,i,h=>.inr h
 | (d,v)::A,B,t,i,h=>by
  simp only[List.cons_append,ML] at h ⊢
  cases hb:Nat.beq t d with
  | true=>rw[hb] at h;exact .inl h
  | false=>rw[hb] at h;exact vU A B t i h
theorem A5H:∀(A:TT) (t:Nat) (i:TI),ML t (A.take 1)=some i->ML t A=some i
 | [],t,i,h=>zaL
 | (d,v)::A,t,i,h=>by
  simp only[List.take_succ_cons,List.take_zero,ML] at h ⊢
  cases hb:Nat.beq t d with
  | true=>rw[hb] at h;exact h
  | false=>rw[hb] at h;cases h
theorem TTok.tt{P:Program}{I:World->Prop}{E:Env}(h:TTok P I E.T)(f:Nat):TTok P I (E.tt f):=by
 unfold Env.tt
 cases O9 f E.vw with
 | false=>exact h
 | true =>
  have hl:∀ t i,ML t (E.T++E.T.take 1)=some i->ML t E.T=some i:=fun t i hi=>(vU _ _ t i hi).elim id (A5H _ t i)
  exact⟨fun t i hi=>h.tok t i (hl t i hi),fun t i g l hi=>h.gl t i g l (hl t i hi),fun t i g us hi=>h.ga t i g us (hl t i hi)⟩
def P8(E:Env)(Q:Orc)(q:Req):Option Rsp:=match E.ov q with
 | some r=>some r
 | none=>match q with
  | .call f args H=>(match cfk f E.C,WA f E.G with
   | some fn,some fi=>(match fn.body with
    | some c=>bif Nat.ble args.length fn.ntmps then addN 0 H.length fun n0=>OY (E.tt f) E.G Q fn.ntmps f n0 fi.keep c 0 n0 (argX 0 args) (hOf 0 H) fun e m L H'=>(match e with
      | .normal|.ret=>A7z E.T fi n0 fn.results.toList m L H'
      | _=>none)
     else none
    | none=>none)
   | _,_=>none)
  | .loop f k n0 m L H=>(match cfk f E.C,WA f E.G with
   | some fn,some fi=>(match fn.body,fi.keep[k]? with
    | some c,some kp=>(match Ew c k with
     | some b=>OY (E.tt f) E.G Q fn.ntmps f n0 fi.keep b (k+1) m L H fun e m L H=>(match e with
      | .normal=>NI kp.1 n0 m L H fun m L H=>Q (.loop f k n0 m L H)
      | e=>NI kp.2 n0 m L H fun m L H=>some (.fin e m L H))
     | none=>none)
    | _,_=>none)
   | _,_=>none)
theorem qZ(E:Env){Q Q':Orc}(hQ:ZM Q Q'):ZM (P8 E Q) (P8 E Q'):=by
 intro q r
 unfold P8
 split
 ·exact id
 ·split
  ·split
   ·split
    ·simp only[DX]
     refine Az (Nl hQ _ fun e m L H=>?_) id
     exact id
    ·exact id
   ·exact id
  ·split
   ·split
    ·split
     ·refine Nl hQ _ fun e m L H=>?_
      cases e<;>first|exact GN fun m L H=>hQ _ _|exact id
     ·exact id
    ·exact id
   ·exact id
def F(E:Env)(q:Req):Option Rsp:=P8 E (F E) q
partial_fixpoint monotonicity by
 intro F1 F2 h q
 have hQ:ZM F1 F2:=fun q r hq=>by
  have hr:=h q
  generalize F2 q=z at hr ⊢
  generalize F1 q=y at hr hq
  subst hq
  cases hr
  rfl
 have hm:=qZ E hQ q
 dsimp only
 generalize P8 E F2 q=z at hm ⊢
 generalize P8 E F1 q=y at hm ⊢
 cases y with
 | none=>exact .bot
 | some r=>grind
def A5I(P:Program)(I:World->Prop)(E:Env)(q:Req)(r:Rsp):Prop:=match q,r with
 | .call f args Hin,.ret s H=>Yh P I f args Hin s H
 | .loop f k n0 m L H,.fin e m' L' H'=>∀ fn c b,cfk f E.C=some fn->fn.body=some c->Ew c k=some b->A9U P I fn.ntmps b n0 m L H e m' L' H'
 | _,_=>True
structure EnvOK (P:Program) (I:World->Prop) (E:Env):Prop where
 hT:TTok P I E.T
 hG:cZ P E.G
 hC:∀ f fn,cfk f E.C=some fn->P.funcs[f]?=some fn
 hx:P.follows .mixedOrders=true
 ov:∀ q r,E.ov q=some r->A5I P I E q r
theorem ZN:∀(c:Code) {k:Nat} {b:Code},Ew c k=some b->k<DK c:=by
 intro c
 induction c with
 | seq x y ihx ihy =>
  grind[Ew,DK]
 | cond t x y ihx ihy =>
  grind[Ew,DK]
 | block id x ih=>intro k b h;exact ih h
 | loop x ih =>
  grind[Ew,DK,F8]
 | _=>intro k b h;cases h
theorem yh:∀(c:Code) {k:Nat} {b:Code},Ew c k=some b->∀ j c',Ew b j=some c'->Ew c (k+1+j)=some c':=by
 intro c
 induction c with
 | seq x y ihx ihy =>
  intro k b h j c' hj
  simp only[Ew] at h ⊢
  cases hb:Nat.blt k (DK x) with
  | true =>
   rw[hb] at h
   have h1:=ihx h j c' hj
   have:Nat.blt (k+1+j) (DK x)=true:=by simpa using ZN x h1
   grind
  | false =>
   rw[hb] at h
   have hk:DK x<=k:=by
    rcases Nat.lt_or_ge k (DK x) with h1|h1
    ·have:Nat.blt k (DK x)=true:=by simpa using h1
     simp_all
    ·exact h1
   have:Nat.blt (k+1+j) (DK x)=false:=za3
   rw[this]
   have h1:=ihy h j c' hj
   rw[show k+1+j-DK x=k-DK x+1+j from by omega];exact h1
 | cond t x y ihx ihy =>
  intro k b h j c' hj
  simp only[Ew] at h ⊢
  cases hb:Nat.blt k (DK x) with
  | true =>
   rw[hb] at h
   have h1:=ihx h j c' hj
   have:Nat.blt (k+1+j) (DK x)=true:=by simpa using ZN x h1
   grind
  | false =>
   rw[hb] at h
   have hk:DK x<=k:=by
    rcases Nat.lt_or_ge k (DK x) with h1|h1
    ·have:Nat.blt k (DK x)=true:=by simpa using h1
     simp_all
    ·exact h1
   have:Nat.blt (k+1+j) (DK x)=false:=za3
   rw[this]
   have h1:=ihy h j c' hj
   rw[show k+1+j-DK x=k-DK x+1+j from by omega];exact h1
 | block id x ih=>intro k b h j c' hj;exact ih h j c' hj
 | loop x ih =>
  intro k b h j c' hj
  simp only[Ew] at h ⊢
  have h0:Nat.beq (k+1+j) 0=false:=by simp_all[Bool.eq_false_iff]
  rw[h0]
  cases hb:Nat.beq k 0 with
  | true =>
   simp_all
  | false =>
   rw[hb] at h
   have hk:k≠0:=fun e=>zay
   have:=ih h j c' hj
   rw[show k+1+j-1=k-1+1+j from by omega];exact this
 | _=>intro k b h;cases h
section
variable {P:Program}{I:World->Prop}{E:Env}
theorem ABB(h:EnvOK P I E):∀ q r,F E q=some r->A5I P I E q r:=by
 refine F.partial_correctness E _ fun Q hQ q r hr=>?_
 have hq:QOK P I Q:=fun f args Hin s H h=>hQ _ _ h
 cases ho:E.ov q with
 | some r' =>
  simp only[P8,ho] at hr
  obtain rfl:=Option.some.inj hr
  exact h.ov _ _ ho
 | none =>
  cases q with
  | call f args H =>
   simp only[P8,ho] at hr
   split at hr
   ·rename_i fn fi hc hfi
    split at hr
    ·rename_i c hb
     cases hlen:Nat.ble args.length fn.ntmps with
     | false=>simp_all
     | true =>
      rw[hlen] at hr
      simp only[cond_true,DX,Nat.zero_add] at hr
      have hS:∀ s Hout,r=.ret s Hout->Yh P I f args H s Hout:=by
       rintro s Hout rfl
       refine A5G (fi:=fi) h.hT (h.hC _ _ hc) hb hlen fun g hg=>?_
       refine A1v (tab:=fun j=>Ew c j) (h.hT.tt _) h.hG hq h.hx hg (fun k b m L H' e m' L' H'' hk hl=>?_) c 0 _ _ _ _ _ (fun j c' hj _=>by simp_all) hr (fun e m L H' hK=>?_)
       ·exact hQ _ _ hl fn c b hc hb hk
       grind
      cases r with
      | ret s Hout=>exact hS s Hout rfl
      | fin e m L H=>trivial
    ·cases hr
   ·cases hr
  | loop f k n0 m L H =>
   simp only[P8,ho] at hr
   split at hr
   ·rename_i fn fi hc hfi
    split at hr
    ·rename_i c kp hb hkp
     split at hr
     ·rename_i b hk
      cases r with
      | ret s Hout=>trivial
      | fin e m' L' H' =>
       intro fn' c' b' hc' hb' hk'
       rw[hc] at hc';obtain rfl:=Option.some.inj hc'
       rw[hb] at hb';obtain rfl:=Option.some.inj hb'
       rw[hk] at hk';obtain rfl:=Option.some.inj hk'
       intro g hg a w ν S
       refine Qg.unroll ?_
       have hfs:=A1v (n:=fn.ntmps) (f:=f) (keep:=fi.keep) (tab:=fun j=>Ew c j) (Φ:=fun e1 m1 L1 H1=>(match e1 with
        | .normal=>NI kp.1 n0 m1 L1 H1 fun m L H=>Q (.loop f k n0 m L H)
        | e=>NI kp.2 n0 m1 L1 H1 fun m L H=>some (Rsp.fin e m L H))=some (Rsp.fin e m' L' H')) (h.hT.tt _) h.hG hq h.hx hg (fun k b m L H' e m' L' H'' hk hl=>hQ _ _ hl fn c b hc hb hk) b (k+1) m L H _ (fun j c' hj _=>yh c hk j c' hj) hr (fun e m L H' hK=>hK) a w ν S
       have out:∀(e1:Exit) m1 L1 H1 a1 w1 ν1,(NI kp.2 n0 m1 L1 H1 fun m L H=>some (Rsp.fin e1 m L H))=some (Rsp.fin e m' L' H')->IP I fn.ntmps g m1 L1 H1 a1 w1 ν1->iK I fn.ntmps g (fun e1 m1 L1 H1=>e1=e/\m1=m'/\L1=L'/\H1=H') e1 a1 w1:=by
        intro e1 m1 L1 H1 a1 w1 ν1 hc1 S1
        obtain⟨m2,L2,H2,ν2,g1,g2⟩:=QA hg S1 hc1
        simp only[Option.some.injEq,Rsp.fin.injEq] at g1
        obtain⟨rfl,rfl,rfl,rfl⟩:=g1
        exact⟨_,_,_,_,⟨rfl,rfl,rfl,rfl⟩,g2⟩
       refine wp_mono hfs ?_
       rintro e1 a1 w1 ⟨m1,L1,H1,ν1,q,S1⟩
       cases e1 with
       | normal =>
        obtain⟨m2,L2,H2,ν2,g1,g2⟩:=QA hg S1 q
        exact hQ _ _ g1 fn c b hc hb hk g hg a1 w1 _ g2
       | _=>exact out _ _ _ _ _ _ _ q S1
     ·cases hr
    ·cases hr
   ·cases hr
theorem A80(h:EnvOK P I E){f:FuncId}{args:List AV}{Hin:List Rs}{s:AV}{Hout:List (Option Rs)}(hF:F E (.call f args Hin)=some (.ret s Hout)):Yh P I f args Hin s Hout:=ABB h _ _ hF
end
end
end Go.Ax
namespace Go.Ax
open Go Go.RowKit Go.Eng
set_option linter.unusedVariables false
set_option linter.unusedSimpArgs false
variable {P:Program}
def A81:AV->AV->Bool
 | .un,.un=>true
 | .b x,.b y=>x==y
 | .i x,.i y|.u8 x,.u8 y|.u32 x,.u32 y|.u64 x,.u64 y|.str x,.str y=>decide (x=y)
 | .nil,.nil=>true
 | _,_=>false
theorem A5J{a b:AV}(h:A81 a b=true):a=b:=by
 unfold A81 at h
 grind
def vV:List AV->List AV->Bool
 | [],[]=>true
 | a::l,b::m=>A81 a b&&vV l m
 | _,_=>false
theorem jb:∀ {a b:List AV},vV a b=true->a=b
 | [],[],_=>rfl
 | a::l,b::m,h=>by simp only[vV,Bool.and_eq_true] at h;rw[A5J h.1,jb h.2]
 | [],_::_,h|_::_,[],h=>zaL
def A9V(P:Program)(t:TypeId)(i:TI):Bool:=match i.u,P.underlying t with
 | .bool,some .bool|.i64,some (.int .i64)|.u8,some (.int .u8)|.u32,some (.int .u32)|.u64,some (.int .u64)|.str,some .string=>true
 | .sl e,some (.slice e')=>Nat.beq e e'
 | .fld pl sc,some (.struct _)=>(match XA P t,yE P t with|some pl',some sc'=>decide (pl'=pl)&&decide (sc'=sc)|_,_=>false)
 | .arr n e,some (.array n' e')=>Nat.beq n n'&&Nat.beq e e'
 | .ptr e,some (.pointer e')=>Nat.beq e e'
 | .oth,some d=>O6 d
 | _,_=>false
def A9W(P:Program)(t:TypeId)(i:TI):Bool:=match P.info? t with
 | some ti=>(match ti.zero with
  | some z=>vV (z.cells.toList.map AV.of) i.zero&&Nat.beq z.cells.size i.size&&z.cells.toList.all (·.oneCell')
  | none=>false)&&Nat.beq ti.size i.size&&Nat.beq ti.bytes i.bytes&&Nat.blt 0 i.bytes
 | none=>false
def A9X(P:Program)(t:TypeId):Bool:=match P.underlying t with
 | some (.array n e)=>Nat.beq n 2&&(match P.underlying e with|some (.int .i64)=>true|_=>false)&&(match P.info? e with|some i=>Nat.beq i.size 1|none=>false) && !P.eqGuardType P.depth t
 | _=>false
def A82(P:Program)(t:TypeId)(n:Nat):Bool:=match P.underlying t with
 | some (.struct fs) => !P.stoodInHeld t&&fs.toList.all (fun f=>(match decEq f.name "_" with|isTrue _=>false|isFalse _=>true)&&(match P.underlying f.type with|some (.int .i64)=>true|_=>false))&&decide (fs.toList.map (·.offset)=List.range' 0 n) && !P.eqGuardType P.depth t
 | _=>false
theorem A5K{t:TypeId}{n:Nat}(h:A82 P t n=true):E6 P t n:=by
 unfold A82 at h
 split at h
 ·rename_i fs hu
  simp only[Bool.and_eq_true,Bool.not_eq_true',decide_eq_true_eq,List.all_eq_true] at h
  obtain⟨⟨⟨h1,h2⟩,h3⟩,h4⟩:=h
  have hfs:P.fieldsOf t=fs:=by unfold Program.fieldsOf;rw[hu]
  refine⟨by rw[hfs];exact hu,h1,fun f hf=>?_,by rw[hfs];exact h3,h4⟩
  rw[hfs] at hf
  obtain⟨h5,h6⟩:=h2 f hf
  refine⟨?_,?_⟩
  ·split at h5
   ·cases h5
   ·assumption
  ·split at h6
   ·assumption
   ·cases h6
 ·cases h
def A83(P:Program)(t:TypeId)(i:TI):Bool:=A9V P t i&&A9W P t i&&(match i.ty with|some τ=>Nat.beq τ.n i.size|none=>true)&&(!i.eq2||A9X P t)&&(!Nat.blt 0 i.eqn||A82 P t i.eqn)
theorem A5L{t:TypeId}{i:TI}(h:A83 P t i=true):TOK P t i:=by
 simp only[A83,Bool.and_eq_true] at h
 obtain⟨⟨⟨⟨h1,h2⟩,h3⟩,h4⟩,hq⟩:=h
 have hq:0<i.eqn->E6 P t i.eqn:=fun h0=>by
  have h0:Nat.blt 0 i.eqn=true:=by simpa using h0
  rw[h0] at hq
  exact A5K (by simpa using hq)
 have hu:(match i.u with
  | .bool=>P.underlying t=some .bool
  | .i64=>P.underlying t=some (.int .i64)
  | .u8=>P.underlying t=some (.int .u8)
  | .u32=>P.underlying t=some (.int .u32)
  | .u64=>P.underlying t=some (.int .u64)
  | .str=>P.underlying t=some .string
  | .sl el=>P.underlying t=some (.slice el)
  | .fld pl sc=>XA P t=some pl/\yE P t=some sc
  | .arr n el=>P.underlying t=some (.array n el)
  | .ptr el=>P.underlying t=some (.pointer el)
  | .oth=>∃ d,P.underlying t=some d/\O6 d=true):=by
  unfold A9V at h1
  split at h1
  case _ hu hp=>rw[hu];exact hp
  case _ hu hp=>rw[hu];exact hp
  case _ hu hp=>rw[hu];exact hp
  case _ hu hp=>rw[hu];exact hp
  case _ hu hp=>rw[hu];exact hp
  case _ hu hp=>rw[hu];exact hp
  case _ hu hp=>rw[hu];simp only;rw[F8 h1];exact hp
  case _ hu hp =>
   rw[hu]
   simp only
   split at h1
   ·rename_i pl' sc' e1 e2
    simp only[Bool.and_eq_true,decide_eq_true_eq] at h1
    exact⟨e1.trans (by rw[h1.1]),e2.trans (by rw[h1.2])⟩
   ·cases h1
  case _ hu hp =>
   rw[hu]
   simp only
   simp only[Bool.and_eq_true] at h1
   rw[F8 h1.1,F8 h1.2];exact hp
  case _ hu hp=>rw[hu];simp only;rw[F8 h1];exact hp
  case _ hu hp=>rw[hu];exact⟨_,hp,h1⟩
  case _=>cases h1
 unfold A9W at h2
 split at h2
 ·rename_i ti hi
  simp only[Bool.and_eq_true] at h2
  obtain⟨⟨⟨h5,h6⟩,h7⟩,h8⟩:=h2
  split at h5
  ·rename_i z hz
   simp only[Bool.and_eq_true] at h5
   obtain⟨⟨h9,h10⟩,h11⟩:=h5
   refine⟨hu,by rw[hi];simp only[Option.map_some,F8 h6],⟨z,?_,jb h9,F8 h10,h11,by simpa using h8⟩,fun τ hτ=>?_,fun he=>?_,hq⟩
   ·rw[hi];simp only[Option.map_some,hz,F8 h6,F8 h7]
   ·rw[hτ] at h3;exact F8 h3
   ·rw[he] at h4
    simp only[Bool.not_true,Bool.false_or] at h4
    unfold A9X at h4
    split at h4
    ·rename_i n e hp
     simp only[Bool.and_eq_true,Bool.not_eq_true'] at h4
     obtain⟨⟨⟨g1,g2⟩,g3⟩,g4⟩:=h4
     split at g2
     ·rename_i g2'
      split at g3
      ·rename_i ie g3'
       have hs:=F8 g3
       refine⟨e,by rw[hp,F8 g1],g2',by rw[g3'];simp only[Option.map_some,hs],by simp[Program.cellsOf,g3',hs],g4⟩
      ·cases g3
     ·cases g2
    ·cases h4
  ·cases h5
 ·cases h2
def ttB(P:Program):TT->Bool
 | []=>true
 | (t,i)::r=>A83 P t i&&ttB P r
theorem A23{P:Program}:∀ {T:TT},ttB P T=true->∀ t i,ML t T=some i->TOK P t i
 | [],_,t,i,h=>zaL
 | (d,v)::r,h,t,i,ht=>by
  simp only[ttB,Bool.and_eq_true] at h
  simp only[ML] at ht
  cases hb:Nat.beq t d with
  | true=>grind[F8,A5L]
  | false=>rw[hb] at ht;exact A23 h.2 t i ht
inductive CTok (P:Program):CT->Prop
 | nil:CTok P []
 | cons {d:Nat} {v:Func} {C:CT}:P.funcs[d]?=some v->CTok P C->CTok P ((d,v)::C)
theorem CTok.get{C:CT}(h:CTok P C):∀ f fn,cfk f C=some fn->P.funcs[f]?=some fn:=by
 induction h with
 | nil=>intro f fn h;cases h
 | @cons d v C h1 _ ih =>
  grind[cfk,F8]
inductive EntL (P:Program):FT->Prop
 | nil:EntL P []
 | cons {d:Nat} {v:FI} {C:FT}:Ent P d->EntL P C->EntL P ((d,v)::C)
theorem A5M{G:FT}(h:EntL P G):cZ P G:=by
 induction h with
 | nil=>intro f fn h;cases h
 | @cons d v C h1 _ ih =>
  intro f fn h
  simp only[WA] at h
  cases hb:Nat.beq f d with
  | true=>simp_all
  | false=>rw[hb] at h;exact ih f fn h
end Go.Ax
namespace Go.Ax
open Go Go.RowKit Go.Eng
set_option linter.unusedVariables false
set_option linter.unusedSimpArgs false
variable {a:Int}{α:Type}{b:Int}(l:List α)
theorem wrap64{n:Int}(h : -9223372036854775808<=n/\n<=9223372036854775807):IntKind.i64.wrap n=n:=by
 have e1:(2:Int)^IntKind.i64.bits=18446744073709551616:=rfl
 have e2:(2:Int)^(IntKind.i64.bits-1)=9223372036854775808:=rfl
 have e3:IntKind.i64.signed=true:=rfl
 unfold IntKind.wrap
 grind
theorem Bc(h : -9223372036854775808<=a+b/\a+b<=9223372036854775807):Bl a b=a+b:=by rw[A14];exact wrap64 h
theorem DU(h : -9223372036854775808<=a-b/\a-b<=9223372036854775807):CQ a b=a-b:=by rw[A15];exact wrap64 h
theorem JA(h : -9223372036854775808<=a*b/\a*b<=9223372036854775807):CS a b=a*b:=by rw[A16];exact wrap64 h
theorem QC(h:0<=a/\a<=9223372036854775807/\1<=b):Bo a b=a/b:=by
 have h1:a.tdiv b=a/b:=Int.tdiv_eq_ediv_of_nonneg h.1
 rw[A17];unfold iquo0;rw[h1]
 have h2:0<=a/b:=Int.ediv_nonneg h.1 zaa
 have h3:a/b<=a:=Int.ediv_le_self _ h.1
 grind[wrap64]
theorem MX(h:0<=a):Bg a b=a%b:=by rw[A18];exact Int.tmod_eq_emod_of_nonneg h
theorem TE(h : -9223372036854775807<=a/\a<=9223372036854775807):CU a = -a:=by rw[A19];exact wrap64 zaa
theorem TF(h : -9223372036854775808<=a/\a<=9223372036854775807):CV a=a:=by rw[A1B];exact wrap64 h
theorem Ff(h:a=b):Dw a b=true:=by simp[Qb,ieq0,h]
theorem Jc(h:a≠b):Dw a b=false:=by simp[Qb,ieq0,h]
theorem IY(h:a≠b):EN a b=true:=by simp[VK,ine0,h]
theorem DY(h:a=b):EN a b=false:=by simp[VK,ine0,h]
theorem Dp(h:a<b):Dy a b=true:=by simp[NW,ilt0,h]
theorem Gz(h:b<=a):Dy a b=false:=by simp[NW,ilt0];omega
theorem Fg(h:a<=b):EC a b=true:=by simp[MR,ile0,h]
theorem TG(h:b<a):EC a b=false:=by simp[MR,ile0];omega
theorem XZ(h:Dw a b=true):a=b:=by simpa [Qb,ieq0] using h
theorem Xa(h:Dw a b=false):a≠b:=by simpa [Qb,ieq0] using h
theorem Xb(h:EN a b=true):a≠b:=by simpa [VK,ine0] using h
theorem Xc(h:EN a b=false):a=b:=by simpa [VK,ine0] using h
theorem J7(h:Dy a b=true):a<b:=by simpa [NW,ilt0] using h
theorem J8(h:Dy a b=false):b<=a:=by simpa [NW,ilt0] using h
theorem A24(h:EC a b=true):a<=b:=by simpa [MR,ile0] using h
theorem A25(h:EC a b=false):b<a:=by simpa [MR,ile0] using h
theorem AC:Ap l=(l.length:Int):=by rw[bK];rfl
theorem Am(m:List α):BO l m=l++m:=by rw[bQ];rfl
theorem dW(m:List α):CG l m=m.take l.length++l.drop m.length:=by rw[A1I];rfl
theorem FY(n:Int)(a:α):Ba n a=List.replicate n.toNat a:=by rw[bP];rfl
theorem Ea(i:Int)(a:α):BH l i a=l.set i.toNat a:=by rw[A1H];rfl
theorem Ku{l:List α}{i:Int}{a:α}(h:0<=i)(h2:l[i.toNat]?=some a):Ai l i=some a:=by simp_all[Lj,lget0]
theorem DD(i:Nat):Ai l (i:Int)=l[i]?:=by simp_all[Lj,lget0]
theorem GL{l:List α}{i:Int}(h:0<=i/\i<l.length):CX l i=true:=by simp_all[A1G,linb0]
theorem Np:Bh l 0 (Ap l)=some l:=by
 simp_all[bM,lcut0,AC]
theorem Jm{l:List α}{lo hi:Int}(h:0<=lo/\lo<=hi/\hi<=l.length):Bh l lo hi=some ((l.drop lo.toNat).take (hi-lo).toNat):=by rw[bM,lcut0,if_pos h]
theorem Dx{l:List α}{b:Nat}(h:l.length*b<=140737488355328):fits l b=true:=by simp_all[X6,fits0]
theorem RV{n:Int}{b:Nat}(h:0<=n/\b*n.toNat<=281474976710656):CZ n b=true:=by simp_all[A1K,fitn0]
theorem Un{a b:List Int}(h:a=b):CO a b=true:=by simp[bT,ieqs0,h]
theorem Xd{a b:List UInt8}(h:a=b):C9 a b=true:=by simp[uj,seq0,h]
theorem ZO{a b:List UInt8}(h:a≠b):C9 a b=false:=by simp[uj,seq0,h]
theorem DF(a:Bool):Bz a = !a:=by rw[A1A];rfl
theorem IB(a b:Bool):and' a b=(a&&b):=by rw[A74];rfl
theorem Jn(a:UInt8):Dq a=(a.toNat:Int):=by rw[A1C];rfl
theorem Dh(a:Int):DI a=UInt8.ofInt a:=by rw[A75];rfl
theorem Ip(a:Int):BP a=UInt64.ofInt a:=by rw[F6];rfl
theorem TJ(a:UInt64):BG a=a.toUInt8:=by rw[uq];rfl
theorem jc(a:UInt8):BM a=a.toUInt64:=by rw[um];rfl
theorem QD{a:UInt64}(h:a.toNat<=9223372036854775807):CW a=(a.toNat:Int):=by rw[A1D];exact wrap64 zaa
theorem LP{c:Int}(h:0<=c/\c<18446744073709551616):(UInt64.ofInt c).toNat=c.toNat:=by
 grind[UInt64.ofInt,UInt64.toNat_ofNat']
theorem jd{c:Int}(h:0<=c/\c<256):(UInt8.ofInt c).toNat=c.toNat:=by
 grind[UInt8.ofInt,UInt8.toNat_ofNat']
theorem QE{a:UInt64}{c:Nat}(h:c<64):Aa a c=a>>>UInt64.ofNat c:=by
 apply UInt64.toNat_inj.1
 rw[X5];unfold u64shr0
 rw[UInt64.toNat_shiftRight,Nat.shiftRight_eq_div_pow,UInt64.toNat_ofNat',UInt64.toNat_ofNat',Nat.min_eq_left zaa]
 have h2:c%2^64%64=c:=zaa
 rw[h2]
 have:=a.toNat_lt
 exact Nat.mod_eq_of_lt (Nat.lt_of_le_of_lt (Nat.div_le_self _ _) this)
theorem ZP{a:UInt64}{c:Nat}(h:c<64):Ad a c=a<<<UInt64.ofNat c:=by
 rw[iO];unfold u64shl0
 apply UInt64.toNat_inj.1
 rw[Nat.min_eq_left zaa,UInt64.toNat_shiftLeft,Nat.shiftLeft_eq,UInt64.toNat_ofNat']
 have h2:c%2^64%64=c:=zaa
 grind[UInt64.ofInt,UInt64.toNat_ofNat']
theorem jf(a b:UInt64):BA .or a b=a|||b:=by rw[EM];rfl
theorem A5N{a b:UInt64}(h:b.toNat<a.toNat):AU .gtr a b=true:=by simp_all[JY,u64cmp0,Vw]
theorem A5O{a b:UInt64}(h:a.toNat<=b.toNat):AU .gtr a b=false:=by simp_all[JY,u64cmp0,Vw]
theorem A26(a:UInt8):Bf (a.toNat:Int) 8=(a.toNat:Int)*2^(8:Int).toNat:=by
 have:=a.toNat_lt
 rw[X4];unfold ishl0
 rw[show min 8 64=8 from rfl,show(2:Int)^(8:Int).toNat=256 from rfl,show(2:Int)^8=256 from rfl]
 grind[wrap64]
theorem qc(a b:Int):Ar .or a b=bits .or .i64 a b:=by rw[NF];rfl
end Go.Ax
namespace Go.Ax
open Go Go.Eng Go.RowKit
set_option linter.unusedVariables false
variable {b:List UInt8}{at':Nat}{e:Int}
def Oi:Nat->UInt64->List UInt8
 | 0,_=>[]
 | k+1,x=>(x>>>UInt64.ofNat (8*k)).toUInt8::Oi k x
theorem JB(k:Nat)(x:UInt64):(Oi k x).length=k:=by induction k with|zero=>rfl|succ k ih=>simp[Oi,ih]
def BQ(b:List UInt8)(size n:Int):List UInt8:=if size<1\/8<size then b else b++Oi size.toNat (UInt64.ofInt n)
theorem ZQ(b:List UInt8)(size n:Int):(BQ b size n).length<=b.length+8:=by
 grind[BQ,JB]
def Ht(b x:List UInt8):List UInt8:=BQ b 2 ((x.take 65535).length:Int)++x.take 65535
theorem Xe(x y:UInt8):bits .or .i64 ((x.toNat:Int)*2^(8:Int).toNat) (y.toNat:Int)=((x.toNat*256+y.toNat:Nat):Int):=by
 have hx:=x.toNat_lt
 have hy:=y.toNat_lt
 have h:=gq (x.toNat*256) y.toNat zaa zaa
 rw[show((x.toNat:Int)*2^(8:Int).toNat)=((x.toNat*256:Nat):Int) from by simp,h]
 have:=Nat.shiftLeft_add_eq_or_of_lt (i:=8) (show y.toNat<2^8 by omega) x.toNat
 simp_all[Nat.shiftLeft_eq]
def beN(l:List UInt8):UInt64:=l.foldl (fun n x=>n<<<8|||x.toUInt64) 0
def Ey(b:List UInt8)(at':Nat)(e size:Int):Int×Nat×Int :=
 if e≠0 then(0,at',e) else if size<1\/8<size then(0,at',1) else if b.length<at'+size.toNat then(0,at',2)
 else if 9223372036854775807<(beN ((b.drop at').take size.toNat)).toNat then(0,at',4) else((beN ((b.drop at').take size.toNat)).toNat,at'+size.toNat,0)
def OH(b:List UInt8)(at':Nat)(e n:Int):List UInt8×Nat×Int :=
 if e≠0 then([],at',e) else if n<0 then([],at',1) else if b.length<at'+n.toNat then([],at',2) else((b.drop at').take n.toNat,at'+n.toNat,0)
def FQ(b:List UInt8)(at':Nat):Nat:=(b.getD at' 0).toNat*256+(b.getD (at'+1) 0).toNat
def JK(b:List UInt8)(at':Nat)(e most:Int):List UInt8×Nat×Int :=
 if e≠0 then([],at',e) else if b.length<at'+2 then([],at',2) else if most<FQ b at' then([],at',4)
 else if b.length<at'+2+FQ b at' then([],at',2) else((b.drop (at'+2)).take (FQ b at'),at'+2+FQ b at',0)
def VT(b:List UInt8)(at':Nat)(e:Int):Int:=if e=0/\at'<b.length then 3 else e
theorem MB{size:Int}(h:at'<=b.length):(Ey b at' e size).2.1<=b.length:=by
 grind[Ey]
theorem A28{n:Int}(h:at'<=b.length):(OH b at' e n).2.1<=b.length:=by
 grind[OH]
theorem Xf{most:Int}(h:at'<=b.length):(JK b at' e most).2.1<=b.length:=by
 grind[JK]
end Go.Ax
namespace Go.Ax
open Go Go.RowKit Go.Eng
set_option linter.unusedVariables false
set_option linter.unusedSimpArgs false
variable (a b:UInt8)
theorem IC{α:Type}{l:List α}{n:Nat}(h:n<l.length):Ai l (n:Int)=some (l[n]'h):=by simp_all[DD]
theorem D8{α:Type}{l:List α}{i:Int}(h:0<=i/\i<l.length):Ai l i=some (l[i.toNat]'zaa):=by simp_all[Lj,lget0]
theorem A84(a b:List UInt8):C9 a b=decide (a=b):=by rw[uj];rfl
theorem A5P(a b:Int):Dw a b=(a==b):=by simp only[Qb,ieq0]
theorem J3(a b:Int):Dw a b=decide (a=b):=by simp only[Qb,ieq0];rfl
theorem Jo(a b:Int):EN a b = !decide (a=b):=by simp only[VK,ine0];rfl
theorem Jd(a b:Int):Dy a b=decide (a<b):=by rw[NW];rfl
theorem Jp(a b:Int):EC a b=decide (a<=b):=by rw[MR];rfl
theorem JL:BC .eql a b=Dw (a.toNat:Int) b.toNat:=by rw[O7,Qb];rfl
theorem JM:BC .neq a b=EN (a.toNat:Int) b.toNat:=by rw[O7,VK];rfl
theorem LQ:BC .lss a b=Dy (a.toNat:Int) b.toNat:=by rw[O7,NW];rfl
theorem LU:BC .leq a b=EC (a.toNat:Int) b.toNat:=by rw[O7,MR];rfl
theorem LV:BC .gtr a b=Dy (b.toNat:Int) a.toNat:=by rw[O7,NW];rfl
theorem LW:BC .geq a b=EC (b.toNat:Int) a.toNat:=by rw[O7,MR];rfl
theorem Jq(a b:UInt64):AU .eql a b=Dw (a.toNat:Int) b.toNat:=by rw[JY,Qb];rfl
theorem Jr(a b:UInt64):AU .neq a b=EN (a.toNat:Int) b.toNat:=by rw[JY,VK];rfl
theorem Js(a b:UInt64):AU .lss a b=Dy (a.toNat:Int) b.toNat:=by rw[JY,NW];rfl
theorem Jt(a b:UInt64):AU .leq a b=EC (a.toNat:Int) b.toNat:=by rw[JY,MR];rfl
theorem Ju(a b:UInt64):AU .gtr a b=Dy (b.toNat:Int) a.toNat:=by rw[JY,NW];rfl
theorem IZ(a b:UInt64):AU .geq a b=EC (b.toNat:Int) a.toNat:=by rw[JY,MR];rfl
theorem jg:CB .xor a b=a^^^b:=by rw[bI];rfl
theorem A29:CB .and a b=a&&&b:=by rw[bI];rfl
theorem A5Q:CB .or a b=a|||b:=by rw[bI];rfl
theorem A5R{c:Int}(h:0<=c/\c<=8):(BA .mul (UInt64.ofNat 8) (BP c)).toNat=(8*c).toNat:=by
 rw[EM,Ip]
 show((UInt64.ofNat 8)*(UInt64.ofInt c)).toNat=_
 grind[UInt64.toNat_mul,LP]
theorem A2A(k:Nat)(hk:k<=62)(n:Int):bits .and .i64 n ((2^k-1:Nat):Int)=n%((2^k:Nat):Int):=by
 have hp:0<2^k:=Nat.pow_pos zaa
 have hlt:2^k<=2^62:=Nat.pow_le_pow_right zaa hk
 have h1:(BitVec.ofInt 64 ((2^k-1:Nat):Int)).toNat=2^k-1:=by
  grind
 have key:(BitVec.ofInt 64 n&&&BitVec.ofInt 64 ((2^k-1:Nat):Int)).toNat=(n%((2^64:Nat):Int)).toNat%2^k:=by
  grind[BitVec.toNat_ofInt,Nat.and_two_pow_sub_one_eq_mod]
 show IntKind.i64.wrap ((BitVec.ofInt 64 n&&&BitVec.ofInt 64 ((2^k-1:Nat):Int)).toNat:Nat)=n%_
 rw[key,IntKind.wrap_i64]
 have hd:((2^k:Nat):Int)∣((2^64:Nat):Int):=by
  refine⟨((2^(64-k):Nat):Int),?_⟩
  rw[<-Int.natCast_mul,<-Nat.pow_add];grind
 have h2:((((n%((2^64:Nat):Int)).toNat%2^k:Nat)):Int)=n%((2^k:Nat):Int):=by
  grind[Int.emod_emod_of_dvd]
 omega
theorem I5(k:Nat)(hk:k<=62)(n:Int):Ar .and n ((2^k-1:Nat):Int)=n%((2^k:Nat):Int):=by rw[NF];exact A2A k hk n
end Go.Ax
namespace Go.Ax
open Go Go.Eng Go.RowKit
set_option linter.unusedVariables false
set_option linter.unusedSimpArgs false
variable {b:List UInt8}{at':Nat}{x r:List UInt8}{n:Nat}{e:Int}{p:Nat}{most:Int}(l:List UInt8)
def RX(l:List UInt8):Nat:=l.foldl (fun n x=>n*256+x.toNat) 0
theorem A5S:∀ a:Nat,l.foldl (fun n x=>n*256+x.toNat) a=a*256^l.length+RX l:=by
 induction l with
 | nil=>grind[RX]
 | cons x l ih =>
  intro a
  rw[List.foldl_cons,ih]
  have e:RX (x::l)=x.toNat*256^l.length+RX l:=by
   rw[show RX (x::l)=l.foldl (fun n x=>n*256+x.toNat) (0*256+x.toNat) from rfl,ih];simp
  grind
theorem ZR(x:UInt8)(l:List UInt8):RX (x::l)=x.toNat*256^l.length+RX l:=by
 grind[RX,A5S]
theorem A5T(n:UInt64)(x:UInt8)(h:n.toNat<2^56):(n<<<8|||x.toUInt64).toNat=n.toNat*256+x.toNat:=by
 have hx:=x.toNat_lt
 rw[UInt64.toNat_or,UInt64.toNat_shiftLeft]
 have e1:(8:UInt64).toNat%64=8:=zad
 rw[e1,Nat.shiftLeft_eq,Nat.mod_eq_of_lt zaa]
 have e2:x.toUInt64.toNat=x.toNat:=zak
 rw[e2]
 have:=Nat.shiftLeft_add_eq_or_of_lt (i:=8) (show x.toNat<2^8 by omega) n.toNat
 simp_all[Nat.shiftLeft_eq]
theorem A5U(h:l.length<=8):(beN l).toNat=RX l:=by
 have key:∀(l:List UInt8) (a:UInt64) (m:Nat),a.toNat<256^m->m+l.length<=8->(l.foldl (fun(n:UInt64) (x:UInt8)=>n<<<8|||x.toUInt64) a).toNat=a.toNat*256^l.length+RX l:=by
  intro l
  induction l with
  | nil=>simp_all[RX]
  | cons x l ih =>
   intro a m ha hm
   rw[List.length_cons] at hm
   have hx:=x.toNat_lt
   have h56:a.toNat<2^56:=by
    have:256^m<=256^7:=Nat.pow_le_pow_right zaa zaa
    omega
   have hs:=A5T a x h56
   rw[List.foldl_cons,ih _ (m+1) zaa zaa,hs,ZR,List.length_cons,Nat.pow_succ,Nat.add_mul,Nat.mul_assoc,Nat.mul_comm 256]
   omega
 have:=key l 0 0 zad zaa
 simp_all[beN]
theorem A5V(k:Nat)(x:UInt64)(hk:k<=8):RX (Oi k x)=x.toNat%256^k:=by
 induction k with
 | zero=>simp[Oi,RX,Nat.mod_one]
 | succ k ih =>
  rw[Oi,ZR,JB,ih zaa]
  have h1:((x>>>UInt64.ofNat (8*k)).toUInt8).toNat=x.toNat/256^k%256:=by
   rw[UInt64.toNat_toUInt8,UInt64.toNat_shiftRight,UInt64.toNat_ofNat',Nat.shiftRight_eq_div_pow]
   have e:8*k%2^64%64=8*k:=zaa
   rw[e,Nat.pow_mul]
  rw[h1,Nat.pow_succ,Nat.mod_mul]
  grind
theorem Xg(k:Nat)(x:Int)(hk:k<=8)(h0:0<=x)(h1:x<9223372036854775808)(h:x.toNat<256^k):RX (Oi k (UInt64.ofInt x))=x.toNat:=by
 grind[A5V,LP,Nat.mod_eq_of_lt]
theorem P9(h:b.drop p=r)(hp:p<=b.length):b.length=p+r.length:=zaF
theorem TK(h:b.drop p=x++r):b.drop (p+x.length)=r:=by
 rw[<-List.drop_drop,h,List.drop_left]
theorem FZ{x:Int}(hp:p<=b.length)(hn:1<=n/\n<=8)(h:b.drop p=Oi n (UInt64.ofInt x)++r)(h0:0<=x)(h1:x<9223372036854775808)(h2:x.toNat<256^n):
  Ey b p 0 n=(x,p+n,0)/\p+n<=b.length/\b.drop (p+n)=r:=by
 have hl:=P9 h hp
 rw[List.length_append,JB] at hl
 have ht:(b.drop p).take n=Oi n (UInt64.ofInt x):=by simp_all[JB]
 have hv:(beN (Oi n (UInt64.ofInt x))).toNat=x.toNat:=by simp_all[A5U,JB,Xg]
 refine⟨?_,by omega,by have:=TK h;rwa [JB] at this⟩
 unfold Ey
 grind
theorem TL(hp:p<=b.length)(h:b.drop p=x++r)(hx:x.length=n):OH b p 0 n=(x,p+n,0)/\p+n<=b.length/\b.drop (p+n)=r:=by
 have hl:=P9 h hp
 rw[List.length_append] at hl
 subst hx
 simp_all[TK,OH,if_neg]
theorem A2B{x:UInt8}{y:UInt8}(h:b.drop p=x::y::r):FQ b p=x.toNat*256+y.toNat:=by
 have e0:b.getD p 0=x:=by
  have:=congrArg (fun l=>l.getD 0 0) h
  grind
 have e1:b.getD (p+1) 0=y:=by
  have:=congrArg (fun l=>l.getD 1 0) h
  grind
 rw[FQ,e0,e1]
def WE(n:Nat):List UInt8:=Oi 2 (UInt64.ofInt (n:Int))
theorem Xh(n:Nat):∃ x y,WE n=[x,y]:=⟨_,_,rfl⟩
theorem TM(n:Nat):(WE n).length=2:=JB _ _
theorem Xi(h:n<=65535){x y:UInt8}(hxy:WE n=[x,y]):x.toNat*256+y.toNat=n:=by
 have:=Xg 2 (n:Int) zaa zaa zaa zat
 rw[show Oi 2 (UInt64.ofInt (n:Int))=[x,y] from hxy] at this
 simp_all[RX]
theorem QF(hp:p<=b.length)(h:b.drop p=WE x.length++x++r)(hx:x.length<=65535)(hm:(x.length:Int)<=most):
  JK b p 0 most=(x,p+2+x.length,0)/\p+2+x.length<=b.length/\b.drop (p+2+x.length)=r:=by
 have hl:=P9 h hp
 rw[List.length_append,List.length_append,TM] at hl
 obtain⟨u,v,huv⟩:=Xh x.length
 have hv:=Xi hx huv
 have hL:FQ b p=x.length:=by
  grind[A2B]
 have h2:b.drop (p+2)=x++r:=by
  grind[TK,TM]
 refine⟨?_,by omega,TK h2⟩
 unfold JK
 grind
theorem OI(hp:p<=b.length)(h:b.drop p=[]):VT b p 0=0:=by
 simp_all[VT]
theorem Ko{x:Int}(hn:1<=n/\n<=8):BQ b n x=b++Oi n (UInt64.ofInt x):=by
 unfold BQ;grind
theorem PD(h:x.length<=65535):Ht b x=b++WE x.length++x:=by
 unfold Ht
 rw[List.take_of_length_le h,show(2:Int)=((2:Nat):Int) from rfl,Ko zaa];rfl
theorem QG:(JK b at' e most).1.length<=b.length:=by
 grind[JK]
theorem dX{n:Int}:(OH b at' e n).1.length<=b.length:=by
 grind[OH]
theorem TN{x:Int}(hn:1<=n/\n<=8):(BQ b n x).length=b.length+n:=by simp_all[Ko,JB]
theorem Aj(b:List UInt8)(x:Int):(BQ b 1 x).length=b.length+1:=TN (n:=1) zaa
theorem AB(b:List UInt8)(x:Int):(BQ b 2 x).length=b.length+2:=TN (n:=2) zaa
theorem Ej(b:List UInt8)(x:Int):(BQ b 3 x).length=b.length+3:=TN (n:=3) zaa
theorem Ci(b:List UInt8)(x:Int):(BQ b 4 x).length=b.length+4:=TN (n:=4) zaa
theorem BD(b:List UInt8)(x:Int):(BQ b 8 x).length=b.length+8:=TN (n:=8) zaa
theorem Ah(b x:List UInt8):(Ht b x).length=b.length+2+min 65535 x.length:=by simp_all[Ht,AB]
theorem jh(h:0<=most):((JK b at' e most).1.length:Int)<=most:=by
 grind[JK]
end Go.Ax
namespace Go.Ax
open Go Go.Eng Go.RowKit
set_option linter.unusedVariables false
set_option linter.unusedSimpArgs false
variable {b v0:List UInt8}{p0:Nat}
structure Att where
 key:List UInt8
 nonce:List UInt8
 resets:Int
 restarts:Int
 clock:Int
 safe:Bool
 updates:Int
 s0:Int
 s1:Int
 digest:List UInt8
def NJ:List UInt8:=[83,87,81,49]
def Ef(a:Att):List UInt8 :=
 BQ (BQ (BQ (BQ (BQ (BQ (BQ (Ht (Ht NJ a.key) a.nonce) 8 a.resets) 8 a.restarts) 8 a.clock) 1 (bif a.safe then 1 else 0)) 8 a.updates) 2 a.s0) 2 a.s1++a.digest
def OJ:Att:=⟨[],[],0,0,0,false,0,0,0,[]⟩
def Nq(b:List UInt8):Att×Int :=
 let h:=OH b 0 0 4
 if h.2.2≠0 then(OJ,h.2.2) else if h.1≠NJ then(OJ,5) else
 let k:=JK b h.2.1 0 32
 let o:=JK b k.2.1 k.2.2 128
 let u:=Ey b o.2.1 o.2.2 8
 let v:=Ey b u.2.1 u.2.2 8
 let c:=Ey b v.2.1 v.2.2 8
 let s:=Ey b c.2.1 c.2.2 1
 let w:=Ey b s.2.1 s.2.2 8
 let x:=Ey b w.2.1 w.2.2 2
 let y:=Ey b x.2.1 x.2.2 2
 let d:=OH b y.2.1 y.2.2 32
 let e:=VT b d.2.1 d.2.2
 if e≠0 then(OJ,e) else if k.1.length≠32\/1<s.1 then(OJ,1) else
 (⟨k.1,o.1,u.1,v.1,c.1,s.1==1,w.1,x.1,y.1,d.1⟩,0)
def A2C(a:Att)(safe:Int):List UInt8 :=
  NJ++(WE a.key.length++a.key++(WE a.nonce.length++a.nonce++(Oi 8 (UInt64.ofInt a.resets)++(Oi 8 (UInt64.ofInt a.restarts)++(Oi 8 (UInt64.ofInt a.clock)++(Oi 1 (UInt64.ofInt safe) ++
   (Oi 8 (UInt64.ofInt a.updates)++(Oi 2 (UInt64.ofInt a.s0)++(Oi 2 (UInt64.ofInt a.s1)++(a.digest++[]))))))))))
theorem yj(a:Att)(hk:a.key.length<=65535)(hn:a.nonce.length<=65535):Ef a=A2C a (bif a.safe then 1 else 0):=by
 unfold Ef A2C
 rw[show(8:Int)=((8:Nat):Int) from rfl,show(2:Int)=((2:Nat):Int) from rfl,show ∀ b x,BQ b 1 x=BQ b ((1:Nat):Int) x from fun _ _=>rfl]
 rw[PD hk,PD hn]
 simp only[Ko (show 1<=8/\8<=8 by omega),Ko (show 1<=2/\2<=8 by omega),Ko (show 1<=1/\1<=8 by omega),List.append_assoc,List.append_nil]
structure OkA (a:Att):Prop where
 key:a.key.length=32
 nonce:a.nonce.length<=128
 resets:0<=a.resets/\a.resets<9223372036854775808
 restarts:0<=a.restarts/\a.restarts<9223372036854775808
 clock:0<=a.clock/\a.clock<9223372036854775808
 updates:0<=a.updates/\a.updates<9223372036854775808
 s0:0<=a.s0/\a.s0<65536
 s1:0<=a.s1/\a.s1<65536
 digest:a.digest.length=32
theorem A5W{a:Att}(h:OkA a):Nq (Ef a)=(a,0):=by
 obtain⟨hk,hn,hr,hs,hc,hu,h0,h1,hd⟩:=h
 rw[yj a zaa zaa]
 generalize hb:A2C a (bif a.safe then 1 else 0)=b
 have e8:(256:Nat)^8=18446744073709551616:=zad
 have e2:(256:Nat)^2=65536:=zad
 have e1:(256:Nat)^1=256:=zad
 obtain⟨q0,l0,d0⟩:=TL (b:=b) (p:=0) (n:=4) (Nat.zero_le _) (by rw[<-hb];exact rfl) rfl
 obtain⟨q1,l1,d1⟩:=QF (most:=32) l0 d0 zaa zaa
 obtain⟨q2,l2,d2⟩:=QF (most:=128) l1 d1 zaa zaa
 obtain⟨q3,l3,d3⟩:=FZ l2 zaa d2 hr.1 hr.2 zaa
 obtain⟨q4,l4,d4⟩:=FZ l3 zaa d3 hs.1 hs.2 zaa
 obtain⟨q5,l5,d5⟩:=FZ l4 zaa d4 hc.1 hc.2 zaa
 obtain⟨q6,l6,d6⟩:=FZ l5 zaa d5 (by cases a.safe<;>decide) (by cases a.safe<;>decide) (by cases a.safe<;>decide)
 obtain⟨q7,l7,d7⟩:=FZ l6 zaa d6 hu.1 hu.2 zaa
 obtain⟨q8,l8,d8⟩:=FZ l7 zaa d7 h0.1 zaa zaa
 obtain⟨q9,l9,d9⟩:=FZ l8 zaa d8 h1.1 zaa zaa
 obtain⟨q10,l10,d10⟩:=TL l9 d9 hd
 have qe:=OI l10 d10
 replace q0:OH b 0 0 4=_:=q0
 replace q3:Ey b _ 0 8=_:=q3
 replace q4:Ey b _ 0 8=_:=q4
 replace q5:Ey b _ 0 8=_:=q5
 replace q6:Ey b _ 0 1=_:=q6
 replace q7:Ey b _ 0 8=_:=q7
 replace q8:Ey b _ 0 2=_:=q8
 replace q9:Ey b _ 0 2=_:=q9
 replace q10:OH b _ 0 32=_:=q10
 unfold Nq
 simp only[q0,q1,q2,q3,q4,q5,q6,q7,q8,q9,q10,qe,ne_eq,not_true_eq_false,if_false]
 rw[if_neg (by rw[hk];cases a.safe<;>decide)]
 cases a;rename_i key nonce resets restarts clock safe updates s0 s1 digest
 cases safe<;>rfl
theorem WS{v1 v2 v10:List UInt8}{v3 v4 v5 v6 v7 v8 v9 er1 er2 er3 er4 er5 er6 er7 er8 er9 er10:Int}{p1 p2 p3 p4 p5 p6 p7 p8 p9 p10:Nat}(g0:OH b 0 0 4=(v0,p0,0))(hm:v0=NJ)(g1:JK b p0 0 32=(v1,p1,er1))(g2:JK b p1 er1 128=(v2,p2,er2))(g3:Ey b p2 er2 8=(v3,p3,er3))(g4:Ey b p3 er3 8=(v4,p4,er4))(g5:Ey b p4 er4 8=(v5,p5,er5))(g6:Ey b p5 er5 1=(v6,p6,er6))(g7:Ey b p6 er6 8=(v7,p7,er7))(g8:Ey b p7 er7 2=(v8,p8,er8))(g9:Ey b p8 er8 2=(v9,p9,er9))(g10:OH b p9 er9 32=(v10,p10,er10)):
  Nq b=if VT b p10 er10≠0 then(OJ,VT b p10 er10) else if v1.length≠32\/1<v6 then(OJ,1) else(⟨v1,v2,v3,v4,v5,v6==1,v7,v8,v9,v10⟩,0):=by
 simp_all[Nq]
theorem A85{er0:Int}(g0:OH b 0 0 4=(v0,p0,er0))(h:er0≠0):Nq b=(OJ,er0):=by
 simp_all[Nq]
theorem A86(g0:OH b 0 0 4=(v0,p0,0))(h:v0≠NJ):Nq b=(OJ,5):=by
 simp_all[Nq]
end Go.Ax
namespace Go.Ax
open Go Go.RowKit Go.Eng
set_option linter.unusedVariables false
set_option linter.unusedSimpArgs false
variable (l:List UInt8)
theorem Hf{a:Int}{c:Nat}(h:c<=64):BU a c=a/2^c:=by simp_all[UO,ishr0]
theorem ZT{c:Int}(h:0<=c/\c<=62):Bf 1 (BP c).toNat=2^c.toNat:=by
 rw[X4,Ip,LP zaa];unfold ishl0
 rw[Nat.min_eq_left zaa,Int.one_mul]
 apply wrap64
 have h1:(2:Int)^c.toNat<=2^62:=by
  have:=Nat.pow_le_pow_right (n:=2) zaa (show c.toNat<=62 by omega)
  grind
 grind
theorem dY{n:Nat}(h:n<=62):Bf 1 (BP (n:Int)).toNat=(2:Int)^n:=by
 grind[ZT]
theorem PE{α:Type}{l:List α}{n:Int}(h:0<=n/\n<=l.length):Bh l 0 n=some (l.take n.toNat):=by
 simp_all[bM,lcut0]
theorem LL:(∀ {α:Type} (l:List α),Ap l=(l.length:Int))/\(∀ {α:Type} (l m:List α),BO l m=l++m)/\(∀ {α:Type} (n:Int) (a:α),Ba n a=List.replicate n.toNat a)/\(∀ {α:Type} (l m:List α),CG l m=m.take l.length++l.drop m.length)/\(∀ {α:Type} (l:List α) (i:Int) (a:α),BH l i a=l.set i.toNat a) /\
  (∀ {α:Type} (l m:List α),(l++m).length=l.length+m.length)/\(∀ {α:Type} (i:Nat) (l:List α),(l.take i).length=min i l.length)/\(∀ {α:Type} (i:Nat) (l:List α),(l.drop i).length=l.length-i)/\(∀ {α:Type} (a:α) (l:List α),(a::l).length=l.length+1)/\(∀ {α:Type},([]:List α).length=0)/\(∀ {α:Type} (n:Nat) (a:α),(List.replicate n a).length=n)/\(∀ {α:Type} (l:List α) (i:Nat) (a:α),(l.set i a).length=l.length)/\(∀ n:Nat,((n:Int)).toNat=n) :=
 ⟨AC,Am,FY,dW,Ea,fun _ _=>List.length_append,fun _ _=>List.length_take,fun _ _=>List.length_drop,fun _ _=>List.length_cons,List.length_nil,fun _ _=>List.length_replicate,fun _ _ _=>List.length_set,Int.toNat_natCast⟩
theorem NO:(∀ {α:Type} (l:List α),Ap l=(l.length:Int))/\(∀ {α:Type} (l m:List α),BO l m=l++m)/\(∀ {α:Type} (n:Int) (a:α),Ba n a=List.replicate n.toNat a)/\(∀ {α:Type} (l m:List α),CG l m=m.take l.length++l.drop m.length)/\(∀ {α:Type} (l:List α) (i:Int) (a:α),BH l i a=l.set i.toNat a) /\
  (∀ {α:Type} (l:List α),[]++l=l)/\(∀ {α:Type} (l:List α),l++[]=l)/\(∀ {α:Type} (a b c:List α),a++b++c=a++(b++c))/\(∀ {α:Type} (a:α) (b c:List α),a::b++c=a::(b++c)) :=
 ⟨AC,Am,FY,dW,Ea,List.nil_append,List.append_nil,List.append_assoc,fun _ _ _=>List.cons_append⟩
theorem I7{a:UInt32}{c:Nat}(h:c<32):AP a c=a>>>UInt32.ofNat c:=by
 rw[iP];unfold u32shr0;rw[Nat.min_eq_left zaa]
 apply UInt32.toNat_inj.1
 rw[UInt32.toNat_shiftRight,UInt32.toNat_ofNat',UInt32.toNat_ofNat',Nat.shiftRight_eq_div_pow]
 have h1:c%2^32%32=c:=zaa
 rw[h1]
 have h2:a.toNat/2^c<=a.toNat:=Nat.div_le_self _ _
 have h3:=a.toNat_lt
 grind
theorem ABD:[BB (AP (CE (Ap l)) (UInt64.ofNat 24).toNat),BB (AP (CE (Ap l)) (UInt64.ofNat 16).toNat),BB (AP (CE (Ap l)) (UInt64.ofNat 8).toNat),BB (CE (Ap l))]=SC l:=by
 rw[I7 zad,I7 zad,I7 zad,AC,A1E,bJ];rfl
theorem rf4(h:l.length<4294967296):[DI (BU (l.length:Int) (UInt64.ofNat 24).toNat),DI (BU (l.length:Int) (UInt64.ofNat 16).toNat),DI (BU (l.length:Int) (UInt64.ofNat 8).toNat),DI (l.length:Int)]=SC l:=by
 rw[Hf zad,Hf zad,Hf zad]
 simp only[Dh]
 exact AB4 _ h
theorem VU(tag:Int)(ls:List (List UInt8))(i:Nat)(l:List UInt8)(h:ls[i]?=some l):Ag tag (ls.take (i+1))=Ag tag (ls.take i)++SC l++l:=by
 simp_all[Ag,bF]
theorem ZU(tag:Int)(ls:List (List UInt8))(i:Nat):(Ag tag (ls.take i)).length<=(Ag tag ls).length:=by
 grind[Ag,fieldsB,List.take_append_drop]
abbrev ABE:Ty:=.pair .i64 (.pair .i64 (.pair .i64 (.pair (.sl .u8) (.sl .u8))))
abbrev ABF:Ty:=.pair (.sl .u8) (.pair (.sl .u8) (.sl .u8))
abbrev objT:Ty:=.pair ABE (.pair ABF .i64)
abbrev AL:Ty:=.pair .i64 (.pair .i64 (.pair .i64 (.pair .i64 (.pair (.sl .u8) (.pair (.sl .u8) (.pair .bool (.sl .u8)))))))
abbrev BR:Ty:=.pair (.sl .u8) .i64
abbrev sesT:Ty:=.pair .i64 (.pair (.sl .u8) (.pair (.sl .u8) (.pair .i64 (.pair .i64 (.pair .i64 (.pair .i64 .bool))))))
abbrev AQ:Ty:=.pair .i64 (.pair (.sl .u8) (.sl .u8))
end Go.Ax
