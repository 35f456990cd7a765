/-
  Own texts, laid together for this claim: the rules that every walk uses, which claim nothing of any program.
-/
import Derived.Laws.BitsLemmas
import Derived.Test.YtlpkjhhfhannpaaGreatDoorBgb
set_option linter.all false
namespace Go.Ax
variable {t:Tr}{k:Nat}
noncomputable section
open Go Go.RowKit Go.Eng
theorem gV{lk:List Nat}{t:Nat}{s:AV}:∀ {L:LX},JG t (kS lk L)=some s->OV t lk=true/\JG t L=some s
 | [],h=>za0
 | (d,v)::L,h=>by
  simp only[kS] at h
  rw[Fq]
  cases hm:OV d lk with
  | false =>
   rw[hm] at h
   obtain⟨h1,h2⟩:=gV (L:=L) h
   grind
  | true =>
   rw[hm] at h
   simp only[cond_true] at h
   rw[Fq] at h
   by_cases e:t=d
   ·simp_all
   ·rw[if_neg e] at h ⊢;exact gV (L:=L) h
def Obl(P:Program)(I:World->Prop)(ops:Array Oper)(o:Oper)(L:LX)(t:Tr):Prop:=match o.guard with
 | none=>OPL P I (kS (o.looksAt ops) L) t.F o.op o.type t.s t.F'
 | some (j,want)=>∃ d v,En ops j=some d/\JG d L=some v/\((v=.b want/\OPL P I (kS (o.looksAt ops) L) t.F o.op o.type t.s t.F')\/((v=.b (!want)\/v=.tup [])/\t.F=[]/\t.F'=[]/\t.s=.tup []))
abbrev lH(t:Tr)(H:HX):HX:=stH t H
abbrev xh(d:Option Nat)(s:AV)(L:LX):LX:=Wi d s L
def stepM(t:Tr)(m:Nat):Nat:=m+t.nn
structure StepOK (P:Program) (I:World->Prop) (ops:Array Oper) (o:Oper) (t:Tr) (m:Nat) (L:LX) (H:HX):Prop where
 obl:Obl P I ops o L t
 pre:∀ k R,Ez k t.F=some R->hlk k H=some R
 new:∀ k,has k t.F'->has k t.F\/(m<=k/\k<m+t.nn)
 rd:t.rd=true->t.F'=t.F
def DRX(P:Program)(I:World->Prop)(ops:Array Oper)(fin:List Tr->Nat->LX->HX->Prop):List Oper->List Tr->Nat->LX->HX->Prop
 | [],tr,m,L,H=>fin tr m L H
 | o::r,tr,m,L,H=>∃ t,StepOK P I ops o t m L H/\DRX P I ops fin r (tr++[t]) (stepM t m) (xh o.dst t.s L) (lH t H)
def wr(t:Tr)(k:Nat):Option (Option Rs):=bif t.rd then none else match Ez k t.F' with
 | some R=>some (some R)
 | none=>(match Ez k t.F with|some _=>some none|none=>none)
def touches(t:Tr)(k:Nat):Bool:=(Ez k t.F).isSome||(Ez k t.F').isSome
def Uo(D:Nat->Bool)(ops:Array Oper)(T:List Tr)(t:Nat)(v:Option AV):Nat->Option AV
 | 0=>v
 | n+1=>bif D n then(match En ops n,T[n]? with
  | some d,some tr=>if d=t then some tr.s else Uo D ops T t v n
  | _,_=>Uo D ops T t v n) else Uo D ops T t v n
def hvn(D:Nat->Bool)(T:List Tr)(k:Nat)(v:Option Rs):Nat->Option Rs
 | 0=>v
 | n+1=>bif D n then(match(T[n]?).bind (wr · k) with|some x=>x|none=>hvn D T k v n) else hvn D T k v n
def PH(T:List Tr)(m:Nat):Nat->Nat
 | 0=>m
 | n+1=>match T[n]? with|some t=>stepM t (PH T m n)|none=>PH T m n
theorem A2h(t:Tr)(H:HX)(k:Nat):hlk k (lH t H)=match wr t k with|some x=>x|none=>hlk k H:=by
 unfold lH stH wr
 cases t.rd
 ·simp only[cond_false,gQ,gU]
  grind
 ·rfl
theorem A9a(t:Tr)(hk:Nat->Option Rs)(k:Nat)(hr:t.rd=false):upd t.F t.F' hk k=match wr t k with|some x=>x|none=>hk k:=by
 unfold upd wr
 grind
theorem MO{x:Option Rs}(h:wr t k=some x):touches t k=true/\t.rd=false:=by
 unfold wr at h
 cases hr:t.rd with
 | true=>simp_all
 | false =>
  rw[hr] at h
  simp only[cond_false] at h
  refine⟨?_,rfl⟩
  grind[touches]
theorem A6R{R:Rs}(h:wr t k=some (some R)):has k t.F':=by
 unfold wr at h
 cases hr:t.rd with
 | true=>simp_all
 | false =>
  rw[hr] at h
  simp only[cond_false] at h
  grind[has]
theorem QW{D D':Nat->Bool}{T:List Tr}{k:Nat}{v:Option Rs}:∀ {n:Nat},(∀ i,i<n->∀ t x,T[i]?=some t->wr t k=some x->D i=D' i)->hvn D T k v n=hvn D' T k v n
 | 0,_=>rfl
 | n+1,h=>by
  have ih:=QW (D:=D) (D':=D') (T:=T) (k:=k) (v:=v) (n:=n) fun i hi=>h i zaa
  grind[hvn]
theorem Tv{D:Nat->Bool}{T:List Tr}{k:Nat}{v:Option Rs}{j:Nat}:∀ {n:Nat},j<=n->(∀ i,j<=i->i<n->∀ t x,T[i]?=some t->wr t k=some x->D i=false)->hvn D T k v n=hvn D T k v j
 | 0,hj,_=>zaL
 | n+1,hj,h=>by
  by_cases e:j=n+1
  ·rw[e]
  ·rw[<-Tv (n:=n) zaa fun i hi hi'=>h i hi zaa]
   grind[hvn]
theorem QX{D D':Nat->Bool}{ops:Array Oper}{T:List Tr}{t:Nat}{v:Option AV}:∀ {n:Nat},(∀ i,i<n->En ops i=some t->D i=D' i)->Uo D ops T t v n=Uo D' ops T t v n
 | 0,_=>rfl
 | n+1,h=>by
  have ih:=QX (D:=D) (D':=D') (ops:=ops) (T:=T) (t:=t) (v:=v) (n:=n) fun i hi=>h i zaa
  simp only[Uo]
  grind
theorem Tz{D:Nat->Bool}{ops:Array Oper}{T:List Tr}{t:Nat}{v:Option AV}{j:Nat}:∀ {n:Nat},j<=n->(∀ i,j<=i->i<n->En ops i=some t->D i=false)->Uo D ops T t v n=Uo D ops T t v j
 | 0,hj,_=>zaL
 | n+1,hj,h=>by
  by_cases e:j=n+1
  ·rw[e]
  ·rw[<-Tz (n:=n) zaa fun i hi hi'=>h i hi zaa]
   simp only[Uo]
   grind
def keysOf(F:Fp):List Nat:=F.map (·.1)
theorem lI{F:Fp}(h:has k F):k∈keysOf F:=by
 induction F with
 | nil=>simp[has] at h
 | cons p F ih =>
  obtain⟨d,v⟩:=p
  unfold has at h
  rw[DF] at h
  by_cases e:k=d
  ·simp[keysOf,e]
  ·rw[if_neg e] at h;exact List.mem_cons_of_mem _ (ih h)
def Vz(ops:Array Oper)(i j:Nat)(ti tj:Tr):Bool :=
 (match En ops i,ops[j]? with|some d,some o=>(o.looksAt ops).contains d|_,_=>false) ||
 (match En ops j,ops[i]? with|some d,some o=>(o.looksAt ops).contains d|_,_=>false) ||
 (bif ti.rd&&tj.rd then false else(keysOf ti.F++keysOf ti.F').any fun k=>touches tj k)
def drawChk0(n:Nat)(ops:Array Oper)(T:List Tr):Bool :=
 let ms:=masks ops.toList []
 (Nat.beq T.length ops.size&&allB ops.size fun j=>match ops[j]? with
  | none=>false
  | some o=>o.after.toList.all (fun e => !Region.binds .any e||Nat.blt e.on j)&&(match o.dst with|some d=>Nat.blt d n|none=>true)&&(match o.op with|.select .. => false|_=>true)) &&
 allB ops.size fun j=>allB j fun i=>(match En ops i,En ops j with|some d,some d' => !Nat.beq d d'|_,_=>true)&&(match T[i]?,T[j]? with
  | some ti,some tj => !Vz ops i j ti tj||zg ms j i
  | _,_=>false)
structure Chk (n:Nat) (ops:Array Oper) (T:List Tr):Prop where
 len:T.length=ops.size
 edge:∀(j:Nat) (o:Oper),ops[j]?=some o->∀ e∈o.after,Region.binds .any e=true->e.on<j
 dstn:∀(j:Nat) (o:Oper) (d:Nat),ops[j]?=some o->o.dst=some d->d<n
 sel:∀(j:Nat) (o:Oper),ops[j]?=some o->∀ cs b,o.op≠.select cs b
 uniq:∀ i j d:Nat,i<j->j<ops.size->En ops i=some d->En ops j≠some d
 conf:∀(i j:Nat) (ti tj:Tr),i<j->j<ops.size->T[i]?=some ti->T[j]?=some tj->Vz ops i j ti tj=true->Anc ops j i
theorem gW{n:Nat}{ops:Array Oper}{T:List Tr}(h:drawChk0 n ops T=true):Chk n ops T:=by
 simp only[drawChk0,Bool.and_eq_true] at h
 obtain⟨⟨hl,h1⟩,h2⟩:=h
 have h1:=Ir h1
 have h2:=Ir h2
 have hlt:∀ j (o:Oper),ops[j]?=some o->j<ops.size:=fun j o ho=>(Array.getElem?_eq_some_iff.1 ho).1
 have edge:∀ j (o:Oper),ops[j]?=some o->∀ e∈o.after,Region.binds .any e=true->e.on<j:=by
  intro j o ho e he hbd
  have:=h1 j (hlt j o ho)
  rw[ho] at this
  simp only[Bool.and_eq_true,List.all_eq_true] at this
  have h3:=this.1.1 e (Array.mem_toList_iff.2 he)
  simp_all
 have hm:dw ops (masks ops.toList []):=jg ops _ _ zat edge (fun j i hj=>by simp at hj)
 have hml:(masks ops.toList []).length=ops.size:=by
  have:∀(l:List Oper) acc,(masks l acc).length=l.length+acc.length:=by
   intro l
   induction l with
   | nil|cons o r ih=>grind[masks]
  grind
 have hanc:∀ j i,j<ops.size->zg (masks ops.toList []) j i=true->Anc ops j i:=fun j i hj hb=>hm j i zaa hb
 refine⟨by simpa using hl,edge,?_,?_,?_,?_⟩
 ·intro j o d ho hd
  have:=h1 j (hlt j o ho)
  rw[ho] at this
  simp_all
 ·grind
 ·intro i j d hij hj hdi hdj
  have:=Ir (h2 j hj) i hij
  simp_all
 ·intro i j ti tj hij hj hti htj hc
  have:=Ir (h2 j hj) i hij
  simp_all
structure Steps (P:Program) (I:World->Prop) (ops:Array Oper) (T:List Tr) (m0:Nat) (L0:LX) (H0:HX):Prop where
 at':∀(j:Nat) (o:Oper),ops[j]?=some o->∃ t m L H,T[j]?=some t/\StepOK P I ops o t m L H/\m=PH T m0 j/\(∀ x,JG x L=Uo (fun _=>true) ops T x (JG x L0) j)/\(∀ k,hlk k H=hvn (fun _=>true) T k (hlk k H0) j)
theorem gX{D:Nat->Bool}{ops:Array Oper}{T T':List Tr}{t:Nat}{v:Option AV}:∀ {n:Nat},n<=T.length->Uo D ops (T++T') t v n=Uo D ops T t v n
 | 0,_=>rfl
 | n+1,h=>by simp only[Uo,gX (n:=n) (show n<=T.length by omega),List.getElem?_append_left (show n<T.length by omega)]
theorem gY{D:Nat->Bool}{T T':List Tr}{k:Nat}{v:Option Rs}:∀ {n:Nat},n<=T.length->hvn D (T++T') k v n=hvn D T k v n
 | 0,_=>rfl
 | n+1,h=>by simp only[hvn,gY (n:=n) (show n<=T.length by omega),List.getElem?_append_left (show n<T.length by omega)]
theorem gm{T T':List Tr}{m:Nat}:∀ {n:Nat},n<=T.length->PH (T++T') m n=PH T m n
 | 0,_=>rfl
 | n+1,h=>by simp only[PH,gm (n:=n) (show n<=T.length by omega),List.getElem?_append_left (show n<T.length by omega)]
theorem DRX.steps{P:Program}{I:World->Prop}{ops:Array Oper}{fin:List Tr->Nat->LX->HX->Prop}{m0:Nat}{L0:LX}{H0:HX}:∀(l:List Oper) (tr:List Tr) (m:Nat) (L:LX) (H:HX),DRX P I ops fin l tr m L H->(∀ i,i<l.length->l[i]?=ops[tr.length+i]?) ->
  m=PH tr m0 tr.length->(∀ x,JG x L=Uo (fun _=>true) ops tr x (JG x L0) tr.length)->(∀ k,hlk k H=hvn (fun _=>true) tr k (hlk k H0) tr.length) ->
  ∃ T m' L' H',T.length=tr.length+l.length/\(∀ i,i<tr.length->T[i]?=tr[i]?)/\fin T m' L' H'/\m'=PH T m0 T.length/\(∀ x,JG x L'=Uo (fun _=>true) ops T x (JG x L0) T.length)/\(∀ k,hlk k H'=hvn (fun _=>true) T k (hlk k H0) T.length) /\
   ∀(j:Nat) (o:Oper),tr.length<=j->j<T.length->ops[j]?=some o->∃ t m L H,T[j]?=some t/\StepOK P I ops o t m L H/\m=PH T m0 j/\(∀ x,JG x L=Uo (fun _=>true) ops T x (JG x L0) j)/\(∀ k,hlk k H=hvn (fun _=>true) T k (hlk k H0) j)
 | [],tr,m,L,H,h,_,hm,hL,hH=>⟨tr,m,L,H,by simp,fun _ _=>rfl,h,hm,hL,hH,fun j o h1 h2=>by omega⟩
 | o::r,tr,m,L,H,h,hl,hm,hL,hH=>by
  obtain⟨t,hs,hr⟩:=h
  have ho:ops[tr.length]?=some o:=by have:=hl 0 zat;simp_all
  have hlast:(tr++[t])[tr.length]?=some t:=zat
  obtain⟨T,m',L',H',g1,g2,g3,g4,g5,g6,g7⟩:=DRX.steps (m0:=m0) (L0:=L0) (H0:=H0) r (tr++[t]) _ _ _ hr (fun i hi=>by
    have:=hl (i+1) zaD
    grind) (by
    simp_all[PH,gm]) (fun x=>by
    rw[show(tr++[t]).length=tr.length+1 from by simp]
    simp only[Uo,hlast,gX (Nat.le_refl _),cond_true,En,ho,Option.bind_some]
    unfold xh
    cases o.dst with
    | none=>exact hL x
    | some d =>
     simp only[Wi,Fq]
     grind) (fun k=>by
    simp_all[hvn,gY,A2h])
  have hT:∀ i,i<=tr.length->T[i]?=(tr++[t])[i]?:=fun i hi=>g2 i zaD
  have hpre:∃ T2,T=(tr++[t])++T2:=⟨T.drop (tr.length+1),by
   apply List.ext_getElem?
   intro i
   rcases Nat.lt_or_ge i (tr.length+1) with hi|hi
   ·grind
   ·rw[List.getElem?_append_right zaD,List.getElem?_drop];simp_all⟩
  obtain⟨T2,rfl⟩:=hpre
  refine⟨_,m',L',H',by grind,fun i hi=>by grind,g3,g4,g5,g6,fun j o' h1 h2 ho'=>?_⟩
  rcases Nat.lt_or_ge j (tr++[t]).length with hj|hj
  ·have hj':j=tr.length:=zaU
   subst hj'
   rw[ho] at ho';obtain rfl:=Option.some.inj ho'
   have hle:tr.length<=(tr++[t]).length:=zat
   exact⟨t,m,L,H,by simp_all,hs,by simp_all[gm],fun x=>by simp_all[gX],fun k=>by simp_all[gY]⟩
  ·exact g7 j o' hj h2 ho'
section
variable {P:Program}{I:World->Prop}{n:Nat}{g:Gx}{ops:Array Oper}{T:List Tr}{m0:Nat}{L0:LX}{H0:HX}
theorem A2i(t:Tr)(m:Nat):m<=stepM t m:=Nat.le_add_right _ _
theorem Kz {j : Nat} : ∀ {i : Nat}, j <= i -> PH T m0 j <= PH T m0 i
  | 0, h => by have : j = 0 := by omega
               rw [this]; exact Nat.le_refl _
  | i + 1, h => by
    by_cases e : j = i + 1
    · rw [e]; exact Nat.le_refl _
    · refine Nat.le_trans (Kz (i := i) zaa) ?_
      simp only [PH]
      split
      · exact A2i _ _
      · exact Nat.le_refl _
theorem Steps.names(St:Steps P I ops T m0 L0 H0)(hT:T.length=ops.size)(h0:∀ k R,hlk k H0=some R->k<m0):∀(j:Nat),j<=ops.size->∀ k R,hvn (fun _=>true) T k (hlk k H0) j=some R->k<PH T m0 j
 | 0,_,k,R,h=>h0 k R h
 | j+1,hj,k,R,h=>by
  obtain⟨t,m,L,H,h1,h2,h3,h4,h5⟩:=St.at' j ops[j] (Array.getElem?_eq_getElem zaa)
  simp only[hvn,h1,Option.bind_some,cond_true] at h
  have hle:PH T m0 j<=PH T m0 (j+1):=Kz zaa
  cases hw:wr t k with
  | none=>rw[hw] at h;exact Nat.lt_of_lt_of_le (St.names hT h0 j zaa k R h) hle
  | some x =>
   rw[hw] at h
   simp only at h
   subst h
   rcases h2.new k (A6R hw) with hF|hF
   ·obtain⟨R0,hF⟩:=(Di _ _).1 hF
    have:=h2.pre k R0 hF
    rw[h5] at this
    exact Nat.lt_of_lt_of_le (St.names hT h0 j zaa k R0 this) hle
   simp_all[PH,stepM]
def NDr(T:List Tr)(m0:Nat)(D:Nat->Bool)(k:Nat):Prop:=k<m0\/∃ i t,D i=true/\T[i]?=some t/\has k t.F'
structure InvX (P:Program) (I:World->Prop) (n:Nat) (g:Gx) (ops:Array Oper) (T:List Tr) (m0:Nat) (L0:LX) (H0:HX) (listed:Array Bool) (a:Act) (w:World):Prop where
 len:listed.size=ops.size
 closed:∀ j (o:Oper),ops[j]?=some o->FN listed j->∀ e∈o.after,Region.binds .any e=true->FN listed e.on
 sat:∃ ν,Sat I n g (NDr T m0 (listed.getD · false)) (fun t=>Uo (listed.getD · false) ops T t (JG t L0) ops.size) (fun k=>hvn (listed.getD · false) T k (hlk k H0) ops.size) a w ν
theorem A0H(C:Chk n ops T)(St:Steps P I ops T m0 L0 H0)(h0:∀ k R,hlk k H0=some R->k<m0){Q:Exit->Act->World->Prop}
  (hfin:∀ a w ν,Sat I n g (· < PH T m0 ops.size) (fun t=>Uo (fun _=>true) ops T t (JG t L0) ops.size) (fun k=>hvn (fun _=>true) T k (hlk k H0) ops.size) a w ν->Q .normal a w) :
  ∀(fuel:Nat) (listed:Array Bool) (a:Act) (w:World),InvX P I n g ops T m0 L0 H0 listed a w->unl listed ops.size=fuel->wpAny P .any ops Q fuel listed a w:=by
 have hTget:∀ i,i<ops.size->∃ t,T[i]?=some t:=fun i hi=>⟨T[i]'(by rw[C.len];exact hi),List.getElem?_eq_getElem _⟩
 have hTlt:∀ i t,T[i]?=some t->i<ops.size:=fun i t h=>by rw[<-C.len];grind
 intro fuel
 induction fuel with
 | zero =>
  intro listed a w hI hf
  have hall:=XT.1 hf
  have hr:Region.ready .any ops listed=[]:=by
   cases hr:Region.ready .any ops listed with
   | nil=>rfl
   | cons i r =>
    obtain⟨h0',o,ho,_⟩:=mem_ready.1 (show i∈Region.ready .any ops listed by rw[hr];simp)
    grind[FN]
  refine⟨hr,?_⟩
  obtain⟨ν,S⟩:=hI.sat
  refine hfin a w ν ?_
  have e1:(fun t=>Uo (listed.getD · false) ops T t (JG t L0) ops.size)=fun t=>Uo (fun _=>true) ops T t (JG t L0) ops.size:=funext fun t=>QX fun i hi _=>hall i hi
  have e2:(fun k=>hvn (listed.getD · false) T k (hlk k H0) ops.size)=fun k=>hvn (fun _=>true) T k (hlk k H0) ops.size:=funext fun k=>QW fun i hi _ _ _ _=>hall i hi
  rw[<-e1,<-e2]
  refine S.moreN fun k hk=>?_
  rcases hk with h|⟨i,t,hi,ht,hF'⟩
  ·exact Nat.lt_of_lt_of_le h (Kz (j:=0) (Nat.zero_le _))
  ·have hilt:=hTlt i t ht
   obtain⟨t',m,L,H,h1,h2,h3,h4,h5⟩:=St.at' i ops[i] (Array.getElem?_eq_getElem hilt)
   rw[ht] at h1;obtain rfl:=Option.some.inj h1
   have hle:PH T m0 (i+1)<=PH T m0 ops.size:=Kz zaa
   rcases h2.new k hF' with hF|hF
   ·obtain⟨R0,hF⟩:=(Di _ _).1 hF
    have:=h2.pre k R0 hF
    rw[h5] at this
    exact Nat.lt_of_lt_of_le (St.names C.len h0 i zaa k R0 this) (Kz zaa)
   ·have e:PH T m0 (i+1)=stepM t (PH T m0 i):=by grind[PH]
    show k<PH T m0 ops.size
    have e2:stepM t (PH T m0 i)=PH T m0 i+t.nn:=rfl
    omega
 | succ fuel ih =>
  intro listed a w hI hf
  have hunl:∀ i,i<ops.size->(listed.getD i true=false↔¬FN listed i):=by
   intro i hi
   have:=hI.len
   simp_all[FN]
  refine⟨fun hr0=>?_,fun j hj=>?_⟩
  ·exfalso
   have hex:∃ i,i<ops.size/\¬FN listed i:=by
    rcases Classical.em (∃ i,i<ops.size/\¬FN listed i) with h|h
    ·exact h
    ·have:=XT.2 fun i hi=>Classical.byContradiction fun hn=>h ⟨i,hi,hn⟩
     omega
   obtain⟨i,⟨hik,hin⟩,hmin⟩:=exists_least (p:=fun i=>i<ops.size/\¬FN listed i) hex
   have ho:ops[i]?=some ops[i]:=Array.getElem?_eq_getElem hik
   have:i∈Region.ready .any ops listed:=by
    rw[mem_ready]
    refine⟨(hunl i hik).2 hin,_,ho,fun e he hb=>?_⟩
    have hlt:=C.edge i _ ho e he hb
    grind
   simp_all
  ·obtain⟨h0',o,ho,hedge⟩:=mem_ready.1 hj
   have hjlt:=(Array.getElem?_eq_some_iff.1 ho).1
   have hjn:¬FN listed j:=(hunl j hjlt).1 h0'
   have hDj:listed.getD j false=false:=zaU
   have hrd:∀ o',ops[j]?=some o'->∀ e∈o'.after,Region.binds .any e=true->FN listed e.on:=fun o' ho' e he hb=>by
    rw[ho] at ho';obtain rfl:=Option.some.inj ho';exact hedge e he hb
   obtain⟨t,m,L,H,hTj,hst,hm,hL,hH⟩:=St.at' j o ho
   obtain⟨ν,S⟩:=hI.sat
   -- what is forced
   have before:∀ i ti,i<j->T[i]?=some ti->Vz ops i j ti t=true->listed.getD i false=true:=fun i ti hi hti hc=>(C.conf i j ti t hi hjlt hti hTj hc).ready hI.closed hrd
   have after:∀ i ti,j<i->T[i]?=some ti->Vz ops j i t ti=true->listed.getD i false=false:=fun i ti hi hti hc=>by
    cases hb:listed.getD i false with
    | false=>rfl
    | true=>exact absurd ((C.conf j i t ti hi (hTlt i ti hti) hTj hti hc).listed hI.closed hb) hjn
   have slotB:∀ i d,i<j->En ops i=some d->(o.looksAt ops).contains d=true->listed.getD i false=true:=fun i d hi hd hc=>by
    grind[Vz]
   have slotA:∀ i d,j<i->En ops i=some d->(o.looksAt ops).contains d=true->listed.getD i false=false:=fun i d hi hd hc=>by
    grind[En,Vz]
   have keyin:∀(q:Tr) k,touches q k=true->k∈keysOf q.F++keysOf q.F':=fun q k h=>by
    unfold touches at h
    rw[Bool.or_eq_true] at h
    exact List.mem_append.2 (h.imp lI lI)
   have cf:∀(i1 i2:Nat) (t1 t2:Tr) (k:Nat),touches t1 k=true->touches t2 k=true->(t1.rd=false\/t2.rd=false)->Vz ops i1 i2 t1 t2=true:=fun i1 i2 t1 t2 k h1 h2 h3=>by
    unfold Vz
    grind
   have ACG:∀ i ti k x,i<j->T[i]?=some ti->wr ti k=some x->touches t k=true->listed.getD i false=true:=fun i ti k x hi hti hw hk =>
    before i ti hi hti (cf i j ti t k (MO hw).1 hk (.inl (MO hw).2))
   have resA:∀ i ti k x,j<i->T[i]?=some ti->wr ti k=some x->touches t k=true->listed.getD i false=false:=fun i ti k x hi hti hw hk =>
    after i ti hi hti (cf j i t ti k hk (MO hw).1 (.inr (MO hw).2))
   -- what is looked at
   have hlook:∀ x s,OV x (o.looksAt ops)=true->JG x L=some s->Rep ⟨NDr T m0 (listed.getD · false),ν,FC g.Oa (fun k=>hvn (listed.getD · false) T k (hlk k H0) ops.size) ν,w⟩ s (a.tmps.getD x undef):=fun x s hx hs=>by
    have hc:(o.looksAt ops).contains x=true:=by grind[ML]
    refine S.slots x s ?_
    show Uo (listed.getD · false) ops T x (JG x L0) ops.size=some s
    rw[Tz (j:=j) zaa (fun i hi _ hd=>by
     grind),QX (D':=fun _=>true) (fun i hi hd=>slotB i x hi hd hc),<-hL]
    exact hs
   have hval:Uw ⟨NDr T m0 (listed.getD · false),ν,FC g.Oa (fun k=>hvn (listed.getD · false) T k (hlk k H0) ops.size) ν,w⟩ (kS (o.looksAt ops) L) a.eval:=by
    intro x s hx
    cases x with
    | tmp q=>obtain⟨h1,h2⟩:=gV hx;exact hlook q s h1 h2
    | const c=>simp only[FZ,Option.some.injEq] at hx;subst hx;exact AV.of_rep _ c
    | global g=>simp only[FZ,Option.some.injEq] at hx;subst hx;simp only[Rep];rfl
    | func g=>simp only[FZ,Option.some.injEq] at hx;subst hx;simp only[Rep,Af];exact⟨[],[],rfl,rfl,rfl⟩
   have hpre:∀ k R,Ez k t.F=some R->hvn (listed.getD · false) T k (hlk k H0) ops.size=some R:=fun k R hF=>by
    have htk:touches t k=true:=by simp[touches,hF]
    rw[Tv (j:=j) zaa (fun i hi _ ti x hti hw=>by
     grind),QW (D':=fun _=>true) (fun i hi ti x hti hw=>ACG i ti k x hi hti hw htk),<-hH]
    exact hst.pre k R hF
   have hnew:∀ k,has k t.F'->has k t.F\/¬NDr T m0 (listed.getD · false) k:=fun k hF'=>by
    have htk:touches t k=true:=by grind[has,touches]
    rcases hst.new k hF' with h|h
    ·exact .inl h
    ·by_cases hF:has k t.F
     ·exact .inl hF
     ·right
      have hrdj:t.rd=false:=by
       cases hr:t.rd with
       | false=>rfl
       | true=>exact absurd (by rw[<-hst.rd hr];exact hF') hF
      have ej:PH T m0 (j+1)=PH T m0 j+t.nn:=by grind[PH,stepM]
      rintro(hlt|⟨i,ti,hDi,hti,hFi⟩)
      ·have:m0<=PH T m0 j:=Kz (j:=0) (Nat.zero_le _)
       omega
      ·have hDi:listed.getD i false=true:=hDi
       have hij:i≠j:=fun e=>zaU
       have htik:touches ti k=true:=by grind[has,touches]
       have hilt:=hTlt i ti hti
       obtain⟨t',m',L',H',g1,g2,g3,g4,g5⟩:=St.at' i ops[i] (Array.getElem?_eq_getElem hilt)
       rw[hti] at g1;obtain rfl:=Option.some.inj g1
       rcases Nat.lt_or_gt_of_ne hij with hlt|hgt
       ·rcases g2.new k hFi with hFi2|hFi2
        ·obtain⟨R0,hq⟩:=(Di _ _).1 hFi2
         have:=g2.pre k R0 hq
         rw[g5] at this
         have:=St.names C.len h0 i zaa k R0 this
         have hmm:PH T m0 i<=PH T m0 j:=Kz zaa
         omega
        ·have ei:PH T m0 (i+1)=PH T m0 i+ti.nn:=by grind[PH,stepM]
         have hmm:PH T m0 (i+1)<=PH T m0 j:=Kz zaa
         omega
       grind
   -- what follows
   have hls:∀ i,FN (listed.setIfInBounds j true) i↔i=j\/FN listed i:=fun i=>XQ zaU
   have hD':∀ i,i≠j->(listed.setIfInBounds j true).getD i false=listed.getD i false:=fun i hi=>getD_set_ne false (fun e=>hi e.symm)
   have hD'j:(listed.setIfInBounds j true).getD j false=true:=by have:=hI.len;simp[show j<listed.size by omega]
   have hlen':(listed.setIfInBounds j true).size=ops.size:=by simp[hI.len]
   have hcl':∀ i (o:Oper),ops[i]?=some o->FN (listed.setIfInBounds j true) i->∀ e∈o.after,Region.binds .any e=true->FN (listed.setIfInBounds j true) e.on:=fun i o' ho' h e he hb=>(hls _).2 (by
    rcases(hls i).1 h with rfl|h
    ·grind
    ·exact .inr (hI.closed i o' ho' h e he hb))
   have hunl':unl (listed.setIfInBounds j true) ops.size=fuel:=by grind[xE]
   have hN:∀ k,NDr T m0 ((listed.setIfInBounds j true).getD · false) k↔NDr T m0 (listed.getD · false) k\/has k t.F':=fun k=>by
    constructor
    ·rintro(h|⟨i,ti,h1,h2,h3⟩)
     ·exact .inl (.inl h)
     ·by_cases e:i=j
      ·grind
      ·have h1:(listed.setIfInBounds j true).getD i false=true:=h1
       rw[hD' i e] at h1;exact .inl (.inr ⟨i,ti,h1,h2,h3⟩)
    ·rintro((h|⟨i,ti,h1,h2,h3⟩)|h)
     ·exact .inl h
     ·have h1:listed.getD i false=true:=h1
      by_cases e:i=j
      ·grind
      ·exact .inr ⟨i,ti,by grind,h2,h3⟩
     ·exact .inr ⟨j,t,hD'j,hTj,h⟩
   have hkq:∀ k,hvn ((listed.setIfInBounds j true).getD · false) T k (hlk k H0) ops.size=upd t.F t.F' (fun k=>hvn (listed.getD · false) T k (hlk k H0) ops.size) k:=fun k=>by
    have same:wr t k=none->hvn ((listed.setIfInBounds j true).getD · false) T k (hlk k H0) ops.size=hvn (listed.getD · false) T k (hlk k H0) ops.size:=fun hw=>QW fun i _ ti x hti hwi=>by
     grind
    cases hr:t.rd with
    | true =>
     have hw:wr t k=none:=by grind[wr]
     rw[same hw]
     have hFF:=hst.rd hr
     grind[upd]
    | false =>
     rw[A9a t _ k hr]
     cases hw:wr t k with
     | none=>exact same hw
     | some x =>
      have htk:=(MO hw).1
      rw[Tv (j:=j+1) zaa (fun i hi _ ti x hti hwi=>by
       grind)]
      simp only[hvn,hTj,Option.bind_some,hw,hD'j,cond_true]
   have hlq:∀ x,Uo ((listed.setIfInBounds j true).getD · false) ops T x (JG x L0) ops.size=if o.dst=some x then some t.s else Uo (listed.getD · false) ops T x (JG x L0) ops.size:=fun x=>by
    have hdj:En ops j=o.dst:=by simp[En,ho]
    by_cases e:o.dst=some x
    ·rw[if_pos e,Tz (j:=j+1) zaa (fun i hi hi2 hd=>absurd hd (C.uniq j i x zaa hi2 zaU))]
     simp only[Uo,hdj,e,hTj,hD'j,cond_true,if_true]
    ·rw[if_neg e]
     grind[QX]
   have next:∀(v:Value) (w':World) (ν':Nat->Value),Ok ⟨NDr T m0 (listed.getD · false),ν,FC g.Oa (fun k=>hvn (listed.getD · false) T k (hlk k H0) ops.size) ν,w⟩ t.F t.F' t.s v w' ν'->wpAny P .any ops Q fuel (listed.setIfInBounds j true) (a.put o.dst v) w':=by
    intro v w' ν' ok
    obtain⟨S',hr⟩:=S.step (N':=NDr T m0 ((listed.setIfInBounds j true).getD · false)) (hk':=fun k=>hvn ((listed.setIfInBounds j true).getD · false) T k (hlk k H0) ops.size) hpre ok hN hkq
    refine ih _ _ _ ⟨hlen',hcl',ν',?_⟩ hunl'
    cases hd:o.dst with
    | none =>
     have e1:(fun x=>Uo ((listed.setIfInBounds j true).getD · false) ops T x (JG x L0) ops.size)=fun x=>Uo (listed.getD · false) ops T x (JG x L0) ops.size:=funext fun x=>zaU
     rw[e1]
     exact S'
    | some d =>
     exact S'.put (C.dstn j o d ho hd) hr fun x=>by
      grind
   unfold wpOp
   rw[ho]
   show if _ then _ else _
   have hobl:=hst.obl
   unfold Obl at hobl
   cases hg:o.guard with
   | none =>
    rw[hg] at hobl
    rw[if_pos (by simp[Region.wanted,hg])]
    refine .inl (I7 (Gz (hobl _ a.eval (S.good) hval ⟨fun k R hF=>?_,fun k k' R R' b h h'=>S.dist k k' R R' b (hpre k R h) (hpre k' R' h'),hnew⟩) ?_))
    ·obtain⟨r0,r1,r2⟩:=S.res k R (hpre k R hF)
     exact⟨r0,r1,fun b hb=>.inr ⟨k,R,hpre k R hF,hb⟩⟩
    grind
   | some p =>
    obtain⟨gi,want⟩:=p
    rw[hg] at hobl
    obtain⟨d',vd,hd',hb,hcase⟩:=hobl
    have hlkd:OV d' (o.looksAt ops)=true:=by
     refine ML.2 (List.mem_append_right _ ?_)
     have:(ops[gi]?).bind (·.dst)=some d':=hd'
     grind
    have hvb:=hlook d' _ hlkd hb
    have hgl:∃ og,ops[gi]?=some og/\og.dst=some d':=by
     have:(ops[gi]?).bind (·.dst)=some d':=hd'
     cases hog:ops[gi]? with
     | none|some og=>grind
    obtain⟨og,hog,hogd⟩:=hgl
    have hdn':=C.dstn gi og d' hog hogd
    have hyb:∀ b,vd=.b b->yielded ops a.tmps gi=some b:=by
     rintro b rfl
     simp only[Rep] at hvb
     simp only[yielded,hog,Option.bind_some,hogd]
     rw[Array.getD_eq_getD_getElem?] at hvb
     have hlt:d'<a.tmps.size:=by rw[S.size];exact hdn'
     grind
    have hyu:vd=.tup []->yielded ops a.tmps gi=none:=by
     rintro rfl
     simp only[Rep,Af] at hvb
     obtain⟨us,hvb,rfl⟩:=hvb
     simp only[yielded,hog,Option.bind_some,hogd]
     rw[Array.getD_eq_getD_getElem?] at hvb
     grind
    rcases hcase with⟨hv,hy⟩|⟨hv,e1,e2,e3⟩
    ·rw[if_pos (by grind[Region.wanted])]
     refine .inl (I7 (Gz (hy _ a.eval (S.good) hval ⟨fun k R hF=>?_,fun k k' R R' b h h'=>S.dist k k' R R' b (hpre k R h) (hpre k' R' h'),hnew⟩) ?_))
     ·obtain⟨r0,r1,r2⟩:=S.res k R (hpre k R hF)
      exact⟨r0,r1,fun b hb=>.inr ⟨k,R,hpre k R hF,hb⟩⟩
     grind
    ·rw[if_neg (by
      grind[Region.wanted])]
     have:=Ok.pure (c:=⟨NDr T m0 (listed.getD · false),ν,FC g.Oa (fun k=>hvn (listed.getD · false) T k (hlk k H0) ops.size) ν,w⟩) (s:=.tup []) (v:=undef) (w':=w) zby (Stp.refl _ _)
     grind
theorem A6T{Q:PostX}{id:Nat}{l:List Oper}{m:Nat}{L:LX}{H:HX}(hm:P.follows .mixedOrders=true)(h:DRX P I l.toArray (fun tr m' L' H'=>drawChk0 n l.toArray tr=true/\Q .normal m' L' H') l [] m L H):Wc P I n g (.region id l.toArray true) Q m L H:=by
 intro a w ν S
 obtain⟨T,m',L',H',g1,g2,⟨g3,g3'⟩,g4,g5,g6,g7⟩:=h.steps (m0:=m) (L0:=L) (H0:=H) l [] m L H (fun i hi=>by simp) rfl (fun x=>rfl) (fun k=>rfl)
 have C:=gW g3
 have hTl:T.length=l.toArray.size:=zaU
 have St:Steps P I l.toArray T m L H:=⟨fun j o ho=>g7 j o (Nat.zero_le _) zaU ho⟩
 refine wp_region_any hm ?_
 have hno:∀ j,(Array.replicate l.toArray.size false).getD j false=false:=fun j=>by
  simp only[Array.getD_eq_getD_getElem?,Array.getElem?_replicate]
  split<;>rfl
 have hu:unl (Array.replicate l.toArray.size false) l.toArray.size=l.toArray.size:=by
  have:=Ur (listed:=Array.replicate l.toArray.size false) (m:=0) l.toArray.size (fun i hi=>by
   simp_all[FN])
  omega
 have S1:IX I n g m L H a {w with drawn:=w.drawn+1} ν:=by
  have hst:Stp No w {w with drawn:=w.drawn+1}:=⟨rfl,rfl,rfl,Nat.le_refl _,fun _ _ _=>rfl⟩
  have hle:Cx.Le none ⟨(· < m),ν,FC g.Oa (fun k=>hlk k H) ν,w⟩ ⟨(· < m),ν,FC g.Oa (fun k=>hlk k H) ν,{w with drawn:=w.drawn+1}⟩:=⟨fun _ _ h=>⟨h,rfl⟩,fun w'' hs=>hst.then hs (fun i _ h=>h.elim) fun i _ h=>h⟩
  refine⟨S.size,S.defers,S.stp.then hst (fun i _ h=>h) (fun i _ h=>h.elim),S.amb,fun w' hs=>S.inv w' (hle.st w' hs),S.pin,fun t s hs=>Rep.le hle s _ (GU s) (S.slots t s hs),fun k R hR=>?_,S.dist⟩
  obtain⟨r0,r1,r2⟩:=S.res k R hR
  exact⟨r0,Holds.le hle (Dc _) rfl (fun b hb=>⟨(r2 b hb).1,rfl⟩) r1,r2⟩
 refine A0H (g:=g) C St (fun k R hk=>(S.res k R hk).1) (Q:=jv I n g Q) ?_ _ _ a _ ⟨by simp,(fun j o _ h=>by simp_all[FN]),ν,?_⟩ hu
 ·intro a' w' ν' S'
  refine⟨m',L',H',ν',g3',?_⟩
  grind
 ·have e1:(fun t=>Uo ((Array.replicate l.toArray.size false).getD · false) l.toArray T t (JG t L) l.toArray.size)=fun t=>JG t L:=funext fun t=>Tz (j:=0) (Nat.zero_le _) fun i _ _ _=>hno i
  have e2:(fun k=>hvn ((Array.replicate l.toArray.size false).getD · false) T k (hlk k H) l.toArray.size)=fun k=>hlk k H:=funext fun k=>Tv (j:=0) (Nat.zero_le _) fun i _ _ _ _ _ _=>hno i
  rw[e1,e2]
  exact S1.moreN fun k hk=>.inl hk
end
def AQ:Nat->Array Oper->List Tr->Bool:=AC drawChk0
theorem aG:AQ=drawChk0:=BV _
theorem drw{n:Nat}{ops:Array Oper}{tr:List Tr}(h:drawChk0 n ops tr=true):AQ n ops tr=true:=by rw[aG];exact h
def JQ{R:Type}:LX->(LX->R)->R
 | [],K=>K []
 | (t,s)::L,K=>force s fun s=>JQ L fun L=>K ((t,s)::L)
theorem EZ{R:Type}:∀(l:LX) (K:LX->R),JQ l K=K l
 | [],K=>rfl
 | (t,s)::r,K=>by simp only[JQ,force_eq,EZ r]
def IU{R:Type}(T:TT)(G:FT)(Q:Req->Option Rsp)(ops:List Oper):List Oper->List Tr->Nat->LX->HX->(List Tr->Nat->LX->HX->Option R)->Option R
 | [],tr,m,L,H,K=>K tr m L H
 | o::r,tr,m,L,H,K=>match o.guard with
  | none=>Iw (o.looksAt ops.toArray) fun lk=>JQ (kS lk L) fun L'=>IQ T G Q (FZ L') (fun k=>hlk k H) m o.op fun t=>Ig o.dst t m L H fun m L H=>IU T G Q ops r (tr++[t]) m L H K
  | some (j,want)=>(match(ops[j]?).bind (·.dst) with
   | some d'=>(match JG d' L with
    | some (.b c)=>bif c then
      bif want then Iw (o.looksAt ops.toArray) fun lk=>JQ (kS lk L) fun L'=>IQ T G Q (FZ L') (fun k=>hlk k H) m o.op fun t=>Ig o.dst t m L H fun m L H=>IU T G Q ops r (tr++[t]) m L H K
      else IU T G Q ops r (tr++[⟨.tup [],[],[],true,0⟩]) m (Wi o.dst (.tup []) L) H K
     else
      bif want then IU T G Q ops r (tr++[⟨.tup [],[],[],true,0⟩]) m (Wi o.dst (.tup []) L) H K
      else Iw (o.looksAt ops.toArray) fun lk=>JQ (kS lk L) fun L'=>IQ T G Q (FZ L') (fun k=>hlk k H) m o.op fun t=>Ig o.dst t m L H fun m L H=>IU T G Q ops r (tr++[t]) m L H K
    | some (.tup [])=>IU T G Q ops r (tr++[⟨.tup [],[],[],true,0⟩]) m (Wi o.dst (.tup []) L) H K
    | _=>none)
   | none=>none)
theorem A6U{m:Nat}{H:HX}(hm:∀ k R,hlk k H=some R->k<m)(hpre:∀ k R,Ez k t.F=some R->hlk k H=some R)(hnew:∀ k,has k t.F'->has k t.F\/(m<=k/\k<m+t.nn))(hrd:t.rd=true->t.F'=t.F):∀ k R,hlk k (stH t H)=some R->k<m+t.nn:=by
 intro k R h
 rw[xe hpre hrd] at h
 rcases Zn h with h|⟨h,_,_⟩
 ·rcases hnew k ((Di _ _).2 ⟨R,h⟩) with h1|h1
  ·obtain⟨R0,h2⟩:=(Di _ _).1 h1
   have:=hm k R0 (hpre k R0 h2);omega
  ·exact h1.2
 ·have:=hm k R h;omega
section
variable {P:Program}{I:World->Prop}{n:Nat}{g:Gx}{T:TT}{G:FT}{Q:Req->Option Rsp}{α:Type}{r:α}
theorem A2j(hT:TTok P I T)(hG:gK P G)(hQ:QOK P I Q){ops:List Oper}{fin:List Tr->Nat->LX->HX->Prop}{K:List Tr->Nat->LX->HX->Option α}(hK:∀ tr m L H,K tr m L H=some r->fin tr m L H)(l:List Oper):∀(tr:List Tr) (m:Nat) (L:LX) (H:HX),(∀ k R,hlk k H=some R->k<m)->IU T G Q ops l tr m L H K=some r->DRX P I ops.toArray fin l tr m L H:=by
 induction l with
 | nil=>intro tr m L H _ h;exact hK _ _ _ _ h
 | cons o l ih =>
  intro tr m L H hm h
  rw[IU] at h
  have run:∀ lk,lk=o.looksAt ops.toArray->IQ T G Q (FZ (kS lk L)) (fun k=>hlk k H) m o.op (fun t=>Ig o.dst t m L H fun m L H=>IU T G Q ops l (tr++[t]) m L H K)=some r->∃ t,(OPL P I (kS (o.looksAt ops.toArray) L) t.F o.op o.type t.s t.F')/\(∀ k R,Ez k t.F=some R->hlk k H=some R)/\(∀ k,has k t.F'->has k t.F\/(m<=k/\k<m+t.nn))/\(t.rd=true->t.F'=t.F)/\DRX P I ops.toArray fin l (tr++[t]) (stepM t m) (xh o.dst t.s L) (lH t H):=by
   clear h
   rintro lk rfl h9
   obtain⟨t,ht,ok⟩:=Xz hT hG hQ hm h9
   rw[Tu] at ht
   exact⟨t,ok.opl _,ok.pre,ok.new,ok.rd,ih _ _ _ _ (A6U hm ok.pre ok.new ok.rd) ht⟩
  have skip:IU T G Q ops l (tr++[⟨.tup [],[],[],true,0⟩]) m (Wi o.dst (.tup []) L) H K=some r->DRX P I ops.toArray fin l (tr++[⟨.tup [],[],[],true,0⟩]) (stepM ⟨.tup [],[],[],true,0⟩ m) (xh o.dst (.tup []) L) (lH ⟨.tup [],[],[],true,0⟩ H):=fun h=>ih _ _ _ _ hm h
  have hnil:∀ k R,Ez k ([]:Fp)=some R->hlk k H=some R:=fun k R h=>za0
  have hnil2:∀ k,has k ([]:Fp)->has k ([]:Fp)\/(m<=k/\k<m+0):=fun k h=>absurd h (Hf k)
  split at h
  ·rename_i hg
   rw[EW,EZ] at h
   obtain⟨t,h1,h2,h3,h4,h5⟩:=run _ rfl h
   exact⟨t,⟨by simp_all[Obl],h2,h3,h4⟩,h5⟩
  ·rename_i j want hg
   split at h
   ·rename_i d' hd'
    have hj:En ops.toArray j=some d':=by grind[En]
    split at h
    ·rename_i c hc
     have run2:c=want->IQ T G Q (FZ (kS (o.looksAt ops.toArray) L)) (fun k=>hlk k H) m o.op (fun t=>Ig o.dst t m L H fun m L H=>IU T G Q ops l (tr++[t]) m L H K)=some r->DRX P I ops.toArray fin (o::l) tr m L H:=by
      intro e h9
      obtain⟨t,h1,h2,h3,h4,h5⟩:=run _ rfl h9
      exact⟨t,⟨by simp_all[Obl],h2,h3,h4⟩,h5⟩
     have skip2:c = !want->IU T G Q ops l (tr++[⟨.tup [],[],[],true,0⟩]) m (Wi o.dst (.tup []) L) H K=some r->DRX P I ops.toArray fin (o::l) tr m L H:=by
      intro e h9
      exact⟨⟨.tup [],[],[],true,0⟩,⟨by unfold Obl;simp_all,hnil,hnil2,fun _=>rfl⟩,skip h9⟩
     cases c with
     | true =>
      cases want with
      | true=>simp only[cond_true,EW,EZ] at h;simp_all
      | false=>simp_all
     | false =>
      cases want with
      | true=>simp_all
      | false=>simp only[cond_false,EW,EZ] at h;simp_all
    ·rename_i hc
     exact⟨⟨.tup [],[],[],true,0⟩,⟨by unfold Obl;simp_all,hnil,hnil2,fun _=>rfl⟩,skip h⟩
    ·cases h
   ·cases h
end
end
end Go.Ax
namespace Go.Ax
noncomputable section
open Go Go.RowKit Go.Eng
def Y0(keep:List Nat)(L:LX):LX:=match keep with
 | []=>[]
 | t::r=>(match JG t L with|some s=>(t,s)::Y0 r L|none=>Y0 r L)
def SN:LX->List Nat
 | []=>[]
 | (_,s)::L=>names s++SN L
def A6V(ρ:Nat->Nat):LX->LX
 | []=>[]
 | (t,s)::L=>(t,ren ρ s)::A6V ρ L
def upto(n:Nat):List Nat:=List.range n
def hIn(ρ:Nat->Nat)(hk:Nat->Option Rs):Nat->List Nat->HX
 | _,[]=>[]
 | i,k::r=>match hk k with
  | some R=>(i,some (IG ρ R))::hIn ρ hk (i+1) r
  | none=>hIn ρ hk (i+1) r
variable {R:Type}
def NR:HX->(HX->R)->R
 | [],K=>K []
 | (k,some r)::H,K=>Uy r fun r=>NR H fun H=>K ((k,some r)::H)
 | (k,none)::H,K=>NR H fun H=>K ((k,none)::H)
theorem I8:∀(l:HX) (K:HX->R),NR l K=K l
 | [],K=>rfl
 | (k,some r)::H,K=>by simp only[NR,QK,I8 H]
 | (k,none)::H,K=>by simp only[NR,I8 H]
def preB:Nat->Nat->List Nat->Bool
 | 0,_,_=>true
 | n+1,i,k::r=>Nat.beq k i&&preB n (i+1) r
 | _+1,_,[]=>false
def SQ(hk:Nat->Option Rs)(ks:List Nat):List Nat->Bool
 | []=>true
 | k::r=>(match hk k with|some R=>allIn ks (NQ R)|none=>true)&&SQ hk ks r
def canon(keep:List Nat)(n0:Nat)(L:LX)(H:HX)(K:Nat->LX->HX->Option R):Option R :=
 JQ (Y0 keep L) fun L1=>Iw (close (fun k=>hlk k H) 60 [] (upto n0++SN L1)) fun ks =>
  bif nodupB ks&&preB n0 0 ks&&allIn ks (SN L1)&&SQ (fun k=>hlk k H) ks ks then
   JQ (A6V (fun k=>idx k ks) L1) fun L=>NR (hIn (fun k=>idx k ks) (fun k=>hlk k H) 0 ks) fun H=>addN 0 ks.length fun m=>K m L H
  else none
theorem A2k{keep:List Nat}{L:LX}{t:Nat}{s:AV}(h:JG t (Y0 keep L)=some s):JG t L=some s:=by
 induction keep with
 | nil=>cases h
 | cons d r ih =>
  grind[Y0,Fq]
theorem lJ{ρ:Nat->Nat}{t:Nat}{s:AV}:∀ {L:LX},JG t (A6V ρ L)=some s->∃ s1,JG t L=some s1/\s=ren ρ s1
 | [],h=>za0
 | (d,v)::L,h=>by
  simp only[A6V] at h
  rw[Fq] at h ⊢
  split at h
  ·simp_all
  ·rename_i e;rw[if_neg e];exact lJ h
theorem YA{t:Nat}{s:AV}{k:Nat}(hk:k∈names s):∀ {L:LX},JG t L=some s->k∈SN L
 | [],h=>za0
 | (d,v)::L,h=>by
  rw[Fq] at h
  simp only[SN]
  split at h
  ·simp_all
  ·exact List.mem_append.2 (.inr (YA hk h))
theorem PV{ρ:Nat->Nat}{hk:Nat->Option Rs}{R:Rs}{j:Nat}:∀ {ks:List Nat} {i:Nat},hlk j (hIn ρ hk i ks)=some R->∃ q k R1,ks[q]?=some k/\j=i+q/\hk k=some R1/\R=IG ρ R1
 | [],i,h=>za0
 | k::ks,i,h=>by
  simp only[hIn] at h
  split at h
  ·rename_i R1 h1
   rw[FO] at h
   split at h
   ·rename_i e;exact⟨0,k,R1,rfl,by simpa using e,h1,(Option.some.inj h).symm⟩
   ·obtain⟨q,k',R',g1,g2,g3,g4⟩:=PV h
    exact⟨q+1,k',R',by grind,by omega,g3,g4⟩
  ·obtain⟨q,k',R',g1,g2,g3,g4⟩:=PV h
   exact⟨q+1,k',R',by grind,by omega,g3,g4⟩
theorem YB:∀ {n i:Nat} {ks:List Nat} {j:Nat},preB n i ks=true->j<n->ks[j]?=some (i+j)
 | 0,i,ks,j,_,hj=>zaa
 | n+1,i,[],j,h,_=>za0
 | n+1,i,k::r,0,h,_=>by simp_all[preB]
 | n+1,i,k::r,j+1,h,hj=>by
  simp only[preB,Bool.and_eq_true] at h
  have:=YB (j:=j) h.2 zaa
  grind
theorem SS{hk:Nat->Option Rs}{ks:List Nat}:∀ {l:List Nat} {k:Nat} {R:Rs},SQ hk ks l=true->k∈l->hk k=some R->∀ q∈NQ R,q∈ks
 | a::l,k,R,h,hm,hR=>by
  simp only[SQ,Bool.and_eq_true] at h
  rcases List.mem_cons.1 hm with rfl|hm
  ·simp_all[Lu]
  ·exact SS h.2 hm hR
theorem A2l{keep:List Nat}{n0:Nat}{L:LX}{H:HX}{K:Nat->LX->HX->Option R}{r:R}(h:canon keep n0 L H K=some r):∃(m':Nat) (L':LX) (H':HX) (ρ:Nat->Nat),K m' L' H'=some r /\
  ∀ {I:World->Prop} {n:Nat} {g:Gx} {m:Nat} {a:Act} {w:World} {ν:Nat->Value},g.n0=n0->IX I n g m L H a w ν->IX I n g m' L' H' a w (fun k=>ν (ρ k)):=by
 unfold canon at h
 rw[EZ,EW] at h
 generalize hks:close (fun k=>hlk k H) 60 [] (upto n0++SN (Y0 keep L))=ks at h
 cases hc:(nodupB ks&&preB n0 0 ks&&allIn ks (SN (Y0 keep L))&&SQ (fun k=>hlk k H) ks ks) with
 | false=>simp_all
 | true =>
  rw[hc] at h
  simp only[cond_true,EZ,I8,Dp,Nat.zero_add] at h
  simp only[Bool.and_eq_true,Ob,Lu] at hc
  obtain⟨⟨⟨hnd,hpre⟩,hin⟩,hinH⟩:=hc
  refine⟨_,_,_,nth ks,h,fun {I n g m a w ν} hg S=>?_⟩
  refine S.cut (nth ks) (fun k hk=>?_) (fun t s hs=>?_) (fun k R hR=>?_) (fun k k' R R' h1 h2 e=>?_)
  ·rw[hg] at hk
   have:=YB hpre hk
   rw[Nat.zero_add] at this
   grind[JK]
  ·obtain⟨s1,h1,rfl⟩:=lJ hs
   grind[lG,YA,A2k]
  ·obtain⟨q,k',R1,h1,h2,h3,rfl⟩:=PV hR
   rw[Nat.zero_add] at h2
   subst h2
   obtain⟨h4,h5⟩:=VL (R:=R1) (SS hinH (List.mem_of_getElem? h1) h3)
   grind[JK]
  ·obtain⟨q,k1,R1,g1,g2,_,_⟩:=PV h1
   obtain⟨q',k2,R2,f1,f2,_,_⟩:=PV h2
   rw[Nat.zero_add] at g2 f2
   grind[JK,List.getElem?_inj]
def one1(k e:Nat)(t:Ty)(l:List (El t)):Nat->Option Rs:=fun j=>bif Nat.beq j k then some (.row e t l) else none
def vwX(hk:Nat->Option Rs):LX->LX
 | []=>[]
 | (t,s)::L=>(t,vw hk s)::vwX hk L
def A9b(hk:Nat->Option Rs):Rs->Rs
 | .var l=>.var (kQ hk l)
 | .rowA e s n l=>.rowA e s n (kQ hk l)
 | R=>R
def vwH(hk:Nat->Option Rs):HX->HX
 | []=>[]
 | (k,some R)::H=>(k,some (A9b hk R))::vwH hk H
 | (k,none)::H=>(k,none)::vwH hk H
theorem xk(hk:Nat->Option Rs)(t:Nat):∀(L:LX),JG t (vwX hk L)=(JG t L).map (vw hk)
 | []=>rfl
 | (d,s)::L=>by rw[vwX,Fq,Fq,xk hk t L];split<;>rfl
theorem xm(hk:Nat->Option Rs)(k:Nat):∀(H:HX),hlk k (vwH hk H)=(hlk k H).map (A9b hk)
 | []=>rfl
 | (d,some R)::H|(d,none)::H=>by rw[vwH,FO,FO,xm hk k H];split<;>rfl
theorem Sat.giveUp{I:World->Prop}{n:Nat}{g:Gx}{m:Nat}{L:LX}{H:HX}{a:Act}{w:World}{ν:Nat->Value}(S:IX I n g m L H a w ν){k e:Nat}{t:Ty}{l:List (El t)}(hkk:hlk k H=some (.row e t l)):
  IX I n g m (vwX (one1 k e t l) L) ((k,none)::vwH (one1 k e t l) H) a w ν:=by
 have hG:∀ q R,Ez q [(k,Rs.row e t l)]=some R->q=k/\R=.row e t l:=fun q R h=>by
  rw[DF] at h
  simp_all
 have hres:∀ q R,Ez q [(k,Rs.row e t l)]=some R->q<m/\Holds ⟨(· < m),ν,FC g.Oa (fun k=>hlk k H) ν,w⟩ q R/\∀ b,blk (ν q)=some b->FC g.Oa (fun k=>hlk k H) ν b:=fun q R h=>by
  obtain⟨rfl,rfl⟩:=hG q R h
  obtain⟨r0,r1,r2⟩:=S.res _ _ hkk
  exact⟨r0,r1,fun b hb=>.inr ⟨_,_,hkk,hb⟩⟩
 have hin:∀ q,∀ e' t' l',one1 k e t l q=some (.row e' t' l')->Ez q [(k,Rs.row e t l)]=some (.row e' t' l'):=fun q e' t' l' h=>by
  unfold one1 at h
  cases hb:Nat.beq q k with
  | false=>simp_all
  | true =>
   simp_all[DF]
 have hk':∀ q R,hlk q ((k,none)::vwH (one1 k e t l) H)=some R->q≠k/\∃ R0,hlk q H=some R0/\R=A9b (one1 k e t l) R0:=fun q R h=>by
  grind[FO,xm,Option.map_eq_some_iff]
 have hfb:∀ b,ER ν [(k,Rs.row e t l)] b↔blk (ν k)=some b:=fun b=>by
  constructor
  ·rintro⟨q,R,h,hb⟩;grind
  ·intro hb;exact⟨k,_,by rw[DF,if_pos rfl],hb⟩
 have hown:∀ b,FC g.Oa (fun q=>hlk q ((k,none)::vwH (one1 k e t l) H)) ν b->FC g.Oa (fun k=>hlk k H) ν b/\¬ER ν [(k,Rs.row e t l)] b:=by
  rintro b (hb|⟨q,R,hq,hb⟩)
  ·refine⟨.inl hb,fun hf=>?_⟩
   have h1:=S.amb b hb
   have h2:=((S.res _ _ hkk).2.2 b ((hfb b).1 hf)).2
   grind
  ·obtain⟨hne,R0,h1,_⟩:=hk' q R hq
   refine⟨.inr ⟨q,R0,h1,hb⟩,fun hf=>?_⟩
   exact S.dist q k R0 _ b h1 hkk hne hb ((hfb b).1 hf)
 have hle:Cx.Le none (Cx.less ⟨(· < m),ν,FC g.Oa (fun k=>hlk k H) ν,w⟩ [(k,Rs.row e t l)]) ⟨(· < m),ν,FC g.Oa (fun q=>hlk q ((k,none)::vwH (one1 k e t l) H)) ν,w⟩ :=
  ⟨fun k _ h=>⟨h,rfl⟩,fun w'' hs=>hs.mono fun i _ h=>hown i h⟩
 refine⟨S.size,S.defers,S.stp,S.amb,fun w'' hs=>S.inv w'' (hs.mono fun i _ h=>(hown i h).1),S.pin,fun d s hs=>?_,fun q R hR=>?_,fun q q' R R' b h h' hne=>?_⟩
 ·rw[xk] at hs
  obtain⟨s0,h1,rfl⟩:=Option.map_eq_some_iff.1 hs
  exact Rep.le hle _ _ (GU _) (A8a hres s0 _ (fun q _ e' t' l' h=>hin q e' t' l' h) (S.slots d s0 h1))
 ·obtain⟨hne,R0,h1,rfl⟩:=hk' q R hR
  obtain⟨r0,r1,r2⟩:=S.res q R0 h1
  refine⟨r0,Holds.le hle (Dc _) rfl (fun b hb=>⟨(r2 b hb).1,rfl⟩) ?_,r2⟩
  cases R0 with
  | var l0 =>
   obtain⟨b,us,g1,g2,g3,g4⟩:=r1
   exact⟨b,us,g1,g2,MN hres l0 us (fun q _ e' t' l' h=>hin q e' t' l' h) g3,g4⟩
  | row e0 t0 l0=>exact Holds.le (Cx.less_le _ _) (Dc _) rfl (fun b hb=>⟨(r2 b hb).1,rfl⟩) r1
  | rowA e0 s0 n0 l0 =>
   obtain⟨us,g1,g2,g3⟩:=r1
   exact⟨us,g1,MN hres l0 us (fun q _ e' t' l' h=>hin q e' t' l' h) g2,g3⟩
 ·obtain⟨_,R0,h1,_⟩:=hk' q R h
  obtain⟨_,R1,h2,_⟩:=hk' q' R' h'
  exact S.dist q q' R0 R1 b h1 h2 hne
def VM(L0:LX):LX->List Nat
 | []=>[]
 | (t,.nm k)::L=>(match JG t L0 with|some (.nm j)=>bif Nat.beq j k then k::VM L0 L else VM L0 L|_=>VM L0 L)
 | _::L=>VM L0 L
def heldBy(L:LX):List Nat->List Nat
 | []=>[]
 | t::r=>(match JG t L with|some s=>names s++heldBy L r|none=>heldBy L r)
def X6:HX->List Nat
 | []=>[]
 | (_,some R)::H=>NQ R++X6 H
 | (_,none)::H=>X6 H
def YC(ks:List Nat):List Nat->List Nat
 | []=>[]
 | k::r=>bif OV k ks then YC ks r else k::YC ks r
def L6:List Nat->LX->HX->(LX->HX->R)->R
 | [],L,H,K=>K L H
 | k::r,L,H,K=>(match hlk k H with
  | some (.row e t l)=>JQ (vwX (one1 k e t l) L) fun L=>NR ((k,none)::vwH (one1 k e t l) H) fun H=>L6 r L H K
  | _=>L6 r L H K)
def xn(sz n:Nat)(cells:List AV):Option (List (El (.sl (.sl .u8)))):=bif Nat.beq sz 1 then sW (.sl (.sl .u8)) n cells else none
def Gs:List Nat->LX->HX->(LX->HX->R)->R
 | [],L,H,K=>K L H
 | k::r,L,H,K=>(match hlk k H with
  | some (.row e t l)=>JQ (vwX (one1 k e t l) L) fun L=>NR ((k,none)::vwH (one1 k e t l) H) fun H=>Gs r L H K
  | some (.rowA _ _ _ cells)=>L6 (G7 cells) L H fun L H=>(match hlk k H with
   | some (.rowA e sz n cells)=>(match xn sz n cells with
    | some l=>JQ (vwX (one1 k e (.sl (.sl .u8)) l) L) fun L=>NR ((k,none)::vwH (one1 k e (.sl (.sl .u8)) l) ((k,some (.row e (.sl (.sl .u8)) l))::H)) fun H=>Gs r L H K
    | none=>Gs r L H K)
   | _=>Gs r L H K)
  | _=>Gs r L H K)
def YD(need:Option (List Nat))(n0:Nat)(L:LX)(H:HX)(K:LX->HX->R):R:=match need with
 | none=>K L H
 | some need=>Iw (bif OV 999999 need then YC (upto n0++heldBy L need) (nub [] (VM L L++X6 H)) else YC (upto n0++heldBy L need++X6 H) (nub [] (VM L L))) fun ks=>Gs ks L H K
theorem Sat.conv{I:World->Prop}{n:Nat}{g:Gx}{m:Nat}{L:LX}{H:HX}{a:Act}{w:World}{ν:Nat->Value}(S:IX I n g m L H a w ν){k:Nat}{R R':Rs}(hkk:hlk k H=some R)(hR:∀ c,Holds c k R->Holds c k R'):
  IX I n g m L ((k,some R')::H) a w ν:=by
 have hk':∀ q Q,hlk q ((k,some R')::H)=some Q->∃ Q0,hlk q H=some Q0/\∀ c,Holds c q Q0->Holds c q Q:=fun q Q h=>by
  rw[FO] at h
  grind
 have hown:FC g.Oa (fun q=>hlk q ((k,some R')::H)) ν=FC g.Oa (fun q=>hlk q H) ν:=by
  funext b
  refine propext (or_congr Iff.rfl ⟨fun⟨q,Q,h1,h2⟩=>?_,fun⟨q,Q,h1,h2⟩=>?_⟩)
  ·grind
  ·by_cases e:q=k
   ·subst e;exact⟨q,R',(FO q q (some R') H).trans (if_pos rfl),h2⟩
   ·exact⟨q,Q,((FO q k (some R') H).trans (if_neg e)).trans h1,h2⟩
 refine⟨S.size,S.defers,S.stp,S.amb,?_,S.pin,?_,fun q Q h=>?_,fun q q' Q Q' b h h' hne=>?_⟩
 ·rw[hown];exact S.inv
 ·rw[hown];exact S.slots
 ·obtain⟨Q0,h1,h2⟩:=hk' q Q h
  obtain⟨r0,r1,r2⟩:=S.res q Q0 h1
  simp_all
 ·obtain⟨Q0,h1,_⟩:=hk' q Q h
  obtain⟨Q1,h2,_⟩:=hk' q' Q' h'
  exact S.dist q q' Q0 Q1 b h1 h2 hne
theorem A2m{e sz n k:Nat}{cells:List AV}{l:List (El (.sl (.sl .u8)))}(h:xn sz n cells=some l)(c:Cx)(hh:Holds c k (.rowA e sz n cells)):Holds c k (.row e (.sl (.sl .u8)) l):=by
 unfold xn at h
 cases hb:Nat.beq sz 1 with
 | false=>simp_all
 | true =>
  rw[hb,cond_true] at h
  obtain rfl:sz=1:=by simpa using hb
  obtain⟨vs,h1,h2,h3⟩:=hh
  obtain⟨h4,h5⟩:=fQ h h2
  exact⟨vs,by rw[h5];exact h1,h4,h3⟩
theorem PW{I:World->Prop}{n:Nat}{g:Gx}{m:Nat}{a:Act}{w:World}{ν:Nat->Value}:∀(ks:List Nat) {L:LX} {H:HX} {K:LX->HX->R},IX I n g m L H a w ν->∃ L' H',L6 ks L H K=K L' H'/\IX I n g m L' H' a w ν
 | [],L,H,K,S=>⟨L,H,rfl,S⟩
 | k::r,L,H,K,S=>by
  unfold L6
  split
  ·rename_i e t l hkk
   simp only[EZ,I8]
   exact PW r (Sat.giveUp S hkk)
  ·exact PW r S
theorem Jc{I:World->Prop}{n:Nat}{g:Gx}{m:Nat}{a:Act}{w:World}{ν:Nat->Value}:∀(ks:List Nat) {L:LX} {H:HX} {K:LX->HX->R},IX I n g m L H a w ν->∃ L' H',Gs ks L H K=K L' H'/\IX I n g m L' H' a w ν
 | [],L,H,K,S=>⟨L,H,rfl,S⟩
 | k::r,L,H,K,S=>by
  unfold Gs
  split
  ·rename_i e t l hkk
   simp only[EZ,I8]
   exact Jc r (Sat.giveUp S hkk)
  ·rename_i cells hkk
   obtain⟨L',H',h1,S'⟩:=PW (K:=fun L H=>(match hlk k H with
    | some (.rowA e sz n cells)=>(match xn sz n cells with
     | some l=>JQ (vwX (one1 k e (.sl (.sl .u8)) l) L) fun L=>NR ((k,none)::vwH (one1 k e (.sl (.sl .u8)) l) ((k,some (.row e (.sl (.sl .u8)) l))::H)) fun H=>Gs r L H K
     | none=>Gs r L H K)
    | _=>Gs r L H K)) (G7 cells) S
   rw[h1]
   split
   ·rename_i e sz n' cells' hkk'
    split
    ·rename_i l hl
     simp only[EZ,I8]
     exact Jc r (Sat.giveUp (Sat.conv S' hkk' (R':=.row e (.sl (.sl .u8)) l) (A2m hl)) (by rw[FO,if_pos rfl]))
    ·exact Jc r S'
   ·exact Jc r S'
  ·exact Jc r S
theorem A2n{I:World->Prop}{n:Nat}{g:Gx}{m:Nat}{a:Act}{w:World}{ν:Nat->Value}{need:Option (List Nat)}{n0:Nat}{L:LX}{H:HX}{K:LX->HX->R}(S:IX I n g m L H a w ν):∃ L' H',YD need n0 L H K=K L' H'/\IX I n g m L' H' a w ν:=by
 unfold YD
 split
 ·grind
 ·rw[EW];exact Jc _ S
theorem SX:∀(ks:List Nat) {L:LX} {H:HX} {R':Type} {K:LX->HX->R} {K':LX->HX->R'} {Z:R->R'->Prop},(∀ L H,Z (K L H) (K' L H))->Z (L6 ks L H K) (L6 ks L H K')
 | [],L,H,R',K,K',Z,h=>h L H
 | k::r,L,H,R',K,K',Z,h=>by
  unfold L6
  split
  ·simp only[EZ,I8];exact SX r h
  ·exact SX r h
theorem KG:∀(ks:List Nat) {L:LX} {H:HX} {R':Type} {K:LX->HX->R} {K':LX->HX->R'} {Z:R->R'->Prop},(∀ L H,Z (K L H) (K' L H))->Z (Gs ks L H K) (Gs ks L H K')
 | [],L,H,R',K,K',Z,h=>h L H
 | k::r,L,H,R',K,K',Z,h=>by
  unfold Gs
  split
  ·simp only[EZ,I8];exact KG r h
  ·refine SX _ fun L H=>?_
   split
   ·split
    ·simp only[EZ,I8];exact KG r h
    ·exact KG r h
   ·exact KG r h
  ·exact KG r h
theorem A6W{need:Option (List Nat)}{n0:Nat}{L:LX}{H:HX}{R':Type}{K:LX->HX->R}{K':LX->HX->R'}{Z:R->R'->Prop}(h:∀ L H,Z (K L H) (K' L H)):Z (YD need n0 L H K) (YD need n0 L H K'):=by
 unfold YD
 split
 ·exact h L H
 ·simp only[EW];exact KG _ h
def Wj:List (Nat×Nat×Ty)->Nat->LX->HX->(Nat->LX->HX->R)->R
 | [],m,L,H,K=>K m L H
 | (t,e,τ)::r,m,L,H,K=>bif Nat.ble 1000000 t then(match JG ((t-1000000)/1000) L with
   | some (.pa k o)=>(match hlk k H with
    | some (.var cells)=>(match cells[o+(t-1000000)%1000]? with
     | some .nil=>addN 1 m fun m'=>Wj r m' L ((k,some (.var (cells.set (o+(t-1000000)%1000) (.nm m))))::(m,some (.row e τ []))::H) K
     | _=>Wj r m L H K)
    | _=>Wj r m L H K)
   | _=>Wj r m L H K)
  else(match JG t L with
  | some .nil=>addN 1 m fun m'=>Wj r m' ((t,.nm m)::L) ((m,some (.row e τ []))::H) K
  | _=>Wj r m L H K)
theorem Sat.nilName{I:World->Prop}{n:Nat}{g:Gx}{m:Nat}{L:LX}{H:HX}{a:Act}{w:World}{ν:Nat->Value}(S:IX I n g m L H a w ν)(e:Nat)(τ:Ty):
  IX I n g (m+1) L ((m,some (.row e τ []))::H) a w (fun q=>if q=m then .slice none 0 0 else ν q)/\Rep ⟨(· < m+1),(fun q=>if q=m then Value.slice none 0 0 else ν q),FC g.Oa (fun k=>hlk k ((m,some (.row e τ []))::H)) (fun q=>if q=m then .slice none 0 0 else ν q),w⟩ (.nm m) (.slice none 0 0):=by
 have hO:∀ b,FC g.Oa (fun k=>hlk k H) ν b->b<w.heap.size:=by
  rintro b (h|⟨k,R,h1,h2⟩)
  ·exact Nat.lt_of_lt_of_le (S.amb b h).1 S.stp.size
  ·exact((S.res k R h1).2.2 b h2).1
 have ok:Ok ⟨(· < m),ν,FC g.Oa (fun k=>hlk k H) ν,w⟩ [] [(m,.row e τ [])] (.nm m) (.slice none 0 0) w (fun q=>if q=m then .slice none 0 0 else ν q) :=
  Ok.newM (sz:=τ.n) (n:=0) (e:=e) (cells:=[]) (vs:=[]) (Nat.lt_irrefl m) hO (Stp.refl _ _) (World.ownsG_nil w 0 e τ.n) (fun b h=>by cases h) (by simp only[Af]) (fun u hu=>by cases hu) (fun c' hh=>hh)
 have hh:∀ k,has k [(m,Rs.row e τ [])]↔k=m:=fun k=>by
  unfold has
  rw[DF]
  by_cases h:k=m
  ·simp[h]
  ·simp[h]
 exact Sat.step S (N':=(· < m+1)) (hk':=fun k=>hlk k ((m,some (.row e τ []))::H)) (fun k R h=>by cases h) ok (fun k=>by rw[hh];omega) (fun k=>by
  unfold upd
  rw[FO,DF]
  by_cases h:k=m
  ·simp[h]
  ·simp[h])
theorem Sat.nilRow{I:World->Prop}{n:Nat}{g:Gx}{m:Nat}{L:LX}{H:HX}{a:Act}{w:World}{ν:Nat->Value}(S:IX I n g m L H a w ν){t e:Nat}{τ:Ty}(ht:JG t L=some .nil):
  IX I n g (m+1) ((t,.nm m)::L) ((m,some (.row e τ []))::H) a w (fun q=>if q=m then .slice none 0 0 else ν q):=by
 have hv:=S.slots t _ ht
 simp only[Rep] at hv
 obtain⟨S1,hr⟩:=Sat.nilName S e τ
 refine⟨S1.size,S1.defers,S1.stp,S1.amb,S1.inv,S1.pin,fun d s hs=>?_,S1.res,S1.dist⟩
 rw[Fq] at hs
 split at hs
 ·rename_i he
  obtain rfl:=Option.some.inj hs
  subst he
  rw[hv];exact hr
 ·exact S1.slots d s hs
theorem Af.setv{c:Cx}:∀ {l:List AV} {us:List Value} {i:Nat} {s:AV},Af c l us->(∀ u,us[i]?=some u->Rep c s u)->Af c (l.set i s) us
 | [],us,i,s,h,hs=>za8
 | a::r,us,i,s,h,hs=>by
  simp only[Af] at h
  obtain⟨u,t,rfl,h1,h2⟩:=h
  cases i with
  | zero=>simp only[List.set_cons_zero,Af];exact⟨u,t,rfl,hs u rfl,h2⟩
  | succ i=>simp only[List.set_cons_succ,Af];exact⟨u,t,rfl,h1,Af.setv h2 fun v hv=>hs v (by simpa using hv)⟩
theorem Sat.vcell{I:World->Prop}{n:Nat}{g:Gx}{m:Nat}{L:LX}{H:HX}{a:Act}{w:World}{ν:Nat->Value}(S:IX I n g m L H a w ν){k i p:Nat}{cells:List AV}(hk:hlk k H=some (.var cells))(hi:cells[i]?=some .nil)(hp:Rep ⟨(· < m),ν,FC g.Oa (fun k=>hlk k H) ν,w⟩ (.nm p) (.slice none 0 0)):
  IX I n g m L ((k,some (.var (cells.set i (.nm p))))::H) a w ν:=by
 have hown:FC g.Oa (fun q=>hlk q ((k,some (.var (cells.set i (.nm p))))::H)) ν=FC g.Oa (fun q=>hlk q H) ν:=by
  funext b
  refine propext ⟨?_,?_⟩
  ·rintro(h|⟨q,R,h1,h2⟩)
   ·exact .inl h
   ·simp only[FO] at h1
    by_cases e:q=k
    ·subst e;exact .inr ⟨q,_,hk,h2⟩
    ·rw[if_neg e] at h1;exact .inr ⟨q,R,h1,h2⟩
  ·rintro(h|⟨q,R,h1,h2⟩)
   ·exact .inl h
   ·by_cases e:q=k
    ·subst e;exact .inr ⟨q,.var (cells.set i (.nm p)),by simp only[FO,if_pos],h2⟩
    ·exact .inr ⟨q,R,by simp only[FO,if_neg e];exact h1,h2⟩
 refine⟨S.size,S.defers,S.stp,S.amb,?_,S.pin,?_,?_,?_⟩
 ·rw[hown];exact S.inv
 ·rw[hown];exact S.slots
 ·rw[hown]
  intro q R hq
  simp only[FO] at hq
  by_cases e:q=k
  ·subst e
   rw[if_pos rfl] at hq
   obtain rfl:=Option.some.inj hq
   obtain⟨h1,⟨b,us,h2,h3,h4,h5⟩,h6⟩:=S.res q _ hk
   refine⟨h1,⟨b,us,h2,h3,Af.setv h4 fun u hu=>?_,h5⟩,h6⟩
   obtain⟨u',hu',hr⟩:=h4.get hi
   simp only[Rep] at hr
   rw[hu'] at hu
   obtain rfl:=Option.some.inj hu
   rw[hr];exact hp
  ·rw[if_neg e] at hq;exact S.res q R hq
 ·intro q q' R R' b h1 h2
  have get:∀ {q R},hlk q ((k,some (.var (cells.set i (.nm p))))::H)=some R->∃ R0,hlk q H=some R0:=by
   intro q R h
   simp only[FO] at h
   by_cases e:q=k
   ·subst e;exact⟨_,hk⟩
   ·rw[if_neg e] at h;exact⟨R,h⟩
  obtain⟨R0,g0⟩:=get h1
  obtain⟨R1,g1⟩:=get h2
  exact S.dist q q' R0 R1 b g0 g1
theorem Oc{I:World->Prop}{n:Nat}{g:Gx}{a:Act}{w:World}:∀(l:List (Nat×Nat×Ty)) {m:Nat} {ν:Nat->Value} {L:LX} {H:HX} {K:Nat->LX->HX->R},IX I n g m L H a w ν->∃ m' L' H' ν',Wj l m L H K=K m' L' H'/\IX I n g m' L' H' a w ν'
 | [],m,ν,L,H,K,S=>⟨m,L,H,ν,rfl,S⟩
 | (t,e,τ)::r,m,ν,L,H,K,S=>by
  unfold Wj
  cases Nat.ble 1000000 t with
  | true =>
   rw[cond_true]
   split
   ·rename_i k o hl
    split
    ·rename_i cells hk
     split
     ·rename_i hi
      rw[Dp,Nat.add_comm 1 m]
      obtain⟨S1,hr⟩:=Sat.nilName S e τ
      have hkm:k<m:=(S.res k _ hk).1
      have hk':hlk k ((m,some (.row e τ []))::H)=some (.var cells):=by rw[FO,if_neg zaa];exact hk
      exact Oc r (Sat.vcell S1 hk' hi hr)
     ·exact Oc r S
    ·exact Oc r S
   ·exact Oc r S
  | false =>
   rw[cond_false]
   split
   ·rename_i h
    rw[Dp,Nat.add_comm 1 m]
    exact Oc r (Sat.nilRow S h)
   ·exact Oc r S
theorem SY:∀(l:List (Nat×Nat×Ty)) {m:Nat} {L:LX} {H:HX} {R':Type} {K:Nat->LX->HX->R} {K':Nat->LX->HX->R'} {Z:R->R'->Prop},(∀ m L H,Z (K m L H) (K' m L H))->Z (Wj l m L H K) (Wj l m L H K')
 | [],m,L,H,R',K,K',Z,h=>h m L H
 | (t,e,τ)::r,m,L,H,R',K,K',Z,h=>by
  unfold Wj
  cases Nat.ble 1000000 t with
  | true =>
   rw[cond_true,cond_true]
   split
   ·split
    ·split
     ·simp only[Dp];exact SY r h
     ·exact SY r h
    ·exact SY r h
   ·exact SY r h
  | false =>
   rw[cond_false,cond_false]
   split
   ·simp only[Dp];exact SY r h
   ·exact SY r h
def NS(E:Plc)(n0 m:Nat)(L:LX)(H:HX)(K:Nat->LX->HX->Option R):Option R:=Wj E.nils m L H fun m L H=>YD E.need n0 L H fun L H=>match E.keep with
 | some keep=>canon keep n0 L H K
 | none=>K m L H
theorem QY{E:Plc}{n0 m:Nat}{L:LX}{H:HX}{K:Nat->LX->HX->Option R}{r:R}{I:World->Prop}{n:Nat}{g:Gx}{a:Act}{w:World}{ν:Nat->Value}(hg:g.n0=n0)(S:IX I n g m L H a w ν)(h:NS E n0 m L H K=some r):
  ∃ m' L' H' ν',K m' L' H'=some r/\IX I n g m' L' H' a w ν':=by
 unfold NS at h
 obtain⟨m1,L1,H1,ν1,h1,S1⟩:=Oc E.nils (K:=fun m L H=>YD E.need n0 L H fun L H=>match E.keep with|some keep=>canon keep n0 L H K|none=>K m L H) S
 rw[h1] at h
 obtain⟨L2,H2,h2,S2⟩:=A2n (need:=E.need) (n0:=n0) (K:=fun L H=>match E.keep with|some keep=>canon keep n0 L H K|none=>K m1 L H) S1
 rw[h2] at h
 revert h
 cases E.keep with
 | none=>grind
 | some keep =>
  intro h
  obtain⟨m',L',H',ρ,h3,h4⟩:=A2l h
  exact⟨_,_,_,_,h3,h4 hg S2⟩
def W9(G:FT)(f id:Nat):Plc:=match Wh f G with
 | some fi=>(match fi.give with
  | []=>{}
  | l=>(match l.find? fun p=>Nat.beq p.1 id with|some p=>p.2|none=>{}))
 | none=>{}
theorem gq(a j:Nat):Nat.blt (a+j) a=false:=by
 simp_all[Bool.eq_false_iff]
def Df:Code->Nat
 | .seq a b|.cond _ a b=>Df a+Df b
 | .block _ c=>Df c
 | .loop c=>Df c+1
 | _=>0
def FM:Code->Nat->Option Code
 | .seq a b,k|.cond _ a b,k=>bif Nat.blt k (Df a) then FM a k else FM b (k-Df a)
 | .block _ c,k=>FM c k
 | .loop c,k=>bif Nat.beq k 0 then some c else FM c (k-1)
 | _,_=>none
def Ot(T:TT)(G:FT)(Q:Req->Option Rsp)(n f n0:Nat)(keep:List (Plc×Plc)):Code->Nat->Nat->LX->HX->(Exit->Nat->LX->HX->Option Rsp)->Option Rsp
 | .skip,k,m,L,H,K|.label _,k,m,L,H,K=>K .normal m L H
 | .seq a b,k,m,L,H,K=>Ot T G Q n f n0 keep a k m L H fun e m L H=>match e with
  | .normal=>Ot T G Q n f n0 keep b (k+Df a) m L H K
  | e=>K e m L H
 | .cond c a b,k,m,L,H,K=>(match FZ L c with
  | some (.b t)=>bif t then Ot T G Q n f n0 keep a k m L H K else Ot T G Q n f n0 keep b (k+Df a) m L H K
  | _=>none)
 | .block id c,k,m,L,H,K=>Ot T G Q n f n0 keep c k m L H fun e m L H=>match e with
  | .exit id'=>bif Nat.beq id' id then K .normal m L H else K (.exit id') m L H
  | e=>K e m L H
 | .exit id,k,m,L,H,K=>K (.exit id) m L H
 | .ret,k,m,L,H,K=>K .ret m L H
 | .region id ops false,k,m,L,H,K=>NS (W9 G f id) n0 m L H fun m L H=>J9 T G Q n ops.toList ops.toList m L H fun m L H=>K .normal m L H
 | .region id ops true,k,m,L,H,K=>NS (W9 G f id) n0 m L H fun m L H=>IU T G Q ops.toList ops.toList [] m L H fun tr m L H=>bif AQ n ops.toList.toArray tr then K .normal m L H else none
 | .loop c,k,m,L,H,K=>addN 0 k fun k=>(match keep[k]? with
  | some kp=>NS kp.1 n0 m L H fun m L H=>(Q (.loop f k n0 m L H)).bind fun r=>match r with
   | .fin e m L H=>K e m L H
   | _=>none
  | none=>none)
 | _,_,_,_,_,_=>none
def RH(P:Program)(c:Code)(Q:Exit->Act->World->Prop)(a:Act)(w:World):Prop:=∀ b k cs,∃ e a' w',Q e a' w'/\Arrives P (lone (b.at a (.code c::.inLoop c::k)) cs w) b k cs e a' w'
theorem RH.wp{P:Program}{c:Code}{Q:Exit->Act->World->Prop}{a:Act}{w:World}(h:RH P c Q a w):(Code.loop c).wp P Q a w:=by
 intro b k cs
 obtain⟨e,a',w',hq,harr⟩:=h b k cs
 exact⟨e,a',w',hq,.of_steps (.one step_loop) harr⟩
theorem RH.mono{P:Program}{c:Code}{Q Q':Exit->Act->World->Prop}{a:Act}{w:World}(h:RH P c Q a w)(hq:∀ e a w,Q e a w->Q' e a w):RH P c Q' a w:=by
 intro b k cs
 obtain⟨e,a',w',h1,harr⟩:=h b k cs
 grind
theorem RH.unroll{P:Program}{c:Code}{Q:Exit->Act->World->Prop}{a:Act}{w:World}(h:c.wp P (Exit.then (fun a w=>RH P c Q a w) Q) a w):RH P c Q a w:=by
 intro b k cs
 obtain⟨e,a₁,w₁,hq,harr⟩:=h b (.inLoop c::k) cs
 cases e with
 | normal =>
  obtain⟨e₂,a₂,w₂,hq₂,harr₂⟩:=hq b k cs
  exact⟨e₂,a₂,w₂,hq₂,.of_steps (Steps.trans harr (.one step_inLoop)) harr₂⟩
 | exit id|goto l|ret|panic ch|outgrown=>exact⟨_,a₁,w₁,hq,.pass (x:=.inLoop c) rfl (fun _ _=>.inl zat) harr⟩
def ABO(P:Program)(I:World->Prop)(n:Nat)(c:Code)(n0 m:Nat)(L:LX)(H:HX)(e:Exit)(m':Nat)(L':LX)(H':HX):Prop :=
 ∀ g:Gx,g.n0=n0->∀ a w ν,IX I n g m L H a w ν->RH P c (jv I n g fun e1 m1 L1 H1=>e1=e/\m1=m'/\L1=L'/\H1=H') a w
section
variable {P:Program}{I:World->Prop}{n f n0:Nat}{g:Gx}{T:TT}{G:FT}{Q:Req->Option Rsp}{r:Rsp}{keep:List (Plc×Plc)}{tab:Nat->Option Code}
theorem A2o(hT:TTok P I T)(hG:gK P G)(hQ:QOK P I Q)(hx:P.follows .mixedOrders=true)(hg:g.n0=n0)(hL:∀ k c m L H e m' L' H',tab k=some c->Q (.loop f k n0 m L H)=some (.fin e m' L' H')->ABO P I n c n0 m L H e m' L' H'):
  ∀(c:Code) (k m:Nat) (L:LX) (H:HX) (K:Exit->Nat->LX->HX->Option Rsp) (Φ:PostX),(∀ j c',FM c j=some c'->j<Df c->tab (k+j)=some c')->Ot T G Q n f n0 keep c k m L H K=some r->(∀ e m L H,K e m L H=some r->Φ e m L H)->Wc P I n g c Φ m L H:=by
 intro c
 induction c with
 | skip=>intro k m L H K Φ hk h hK;exact A6C (hK _ _ _ _ h)
 | label l=>intro k m L H K Φ hk h hK;exact A1u (hK _ _ _ _ h)
 | exit id=>intro k m L H K Φ hk h hK;exact A6D (hK _ _ _ _ h)
 | ret=>intro k m L H K Φ hk h hK;exact A9S (hK _ _ _ _ h)
 | seq a b iha ihb =>
  intro k m L H K Φ hk h hK
  rw[Ot] at h
  refine A9R (fun e m L H=>(match e with|.normal=>Ot T G Q n f n0 keep b (k+Df a) m L H K|e=>K e m L H)=some r) (iha k m L H _ _ (fun j c' hj hlt=>hk j c' ?_ ?_) h fun e m L H h=>h) (fun m L H h=>ihb _ _ _ _ _ _ (fun j c' hj hlt=>?_) h hK) (fun e m L H he h=>hK e m L H ?_)
  ·simp only[FM];rw[show Nat.blt j (Df a)=true from by simpa using hlt];exact hj
  ·grind[Df]
  ·simp_all[Nat.add_assoc,Df,FM,gq]
  simp_all
 | cond x a b iha ihb =>
  intro k m L H K Φ hk h hK
  rw[Ot] at h
  split at h
  ·rename_i t ht
   refine A6E ht ?_
   cases t with
   | true =>
    refine iha k m L H _ _ (fun j c' hj hlt=>hk j c' ?_ ?_) h hK
    ·simp only[FM];rw[show Nat.blt j (Df a)=true from by simpa using hlt];exact hj
    grind[Df]
   | false =>
    refine ihb _ m L H _ _ (fun j c' hj hlt=>?_) h hK
    simp_all[Nat.add_assoc,Df,FM,gq]
  ·cases h
 | block id c ih =>
  intro k m L H K Φ hk h hK
  rw[Ot] at h
  refine A1w (fun e m L H=>(match e with|.exit id'=>bif Nat.beq id' id then K .normal m L H else K (.exit id') m L H|e=>K e m L H)=some r) (ih k m L H _ _ (fun j c' hj hlt=>hk j c' hj hlt) h fun e m L H h=>h) (fun m L H h=>hK _ _ _ _ ?_) (fun e m L H he h=>hK e m L H ?_)
  ·simp_all
  ·cases e with
   | exit id' =>
    have:Nat.beq id' id=false:=by simp_all[Bool.eq_false_iff]
    simp_all
   | _=>exact h
 | region id ops b =>
  intro k m L H K Φ hk h hK
  obtain⟨l⟩:=ops
  cases b with
  | false =>
   rw[Ot] at h
   intro a w ν S
   obtain⟨m',L',H',ν',h2,S'⟩:=QY hg S h
   exact zk (A2g hT hG hQ (fun m L H h=>hK _ _ _ _ h) l m' L' H' h2) a w ν' S'
  | true =>
   rw[Ot] at h
   intro a w ν S
   obtain⟨m',L',H',ν',h,S'⟩:=QY hg S h
   refine A6T (n:=n) hx (A2j (fin:=fun tr m L H=>drawChk0 n l.toArray tr=true/\Φ .normal m L H) hT hG hQ (fun tr m L H h=>?_) l [] m' L' H' (fun k R hk=>(S'.res k R hk).1) h) a w ν' S'
   grind[aG]
 | loop c ih =>
  intro k m L H K Φ hk h hK
  rw[Ot,Dp,Nat.zero_add] at h
  split at h
  ·rename_i kp hkp
   intro a w ν S
   obtain⟨m',L',H',ν',h1,S'⟩:=QY hg S h
   obtain⟨rr,h3,h4⟩:=Option.bind_eq_some_iff.1 h1
   split at h4
   ·rename_i e m2 L2 H2
    have hs:=hL k c m' L' H' e m2 L2 H2 (by have:=hk 0 c (by simp[FM]) (by simp[Df]);omega) h3 g hg
    exact wp_mono (hs a w _ S').wp fun e' a' w' ⟨m3,L3,H3,ν3,q,S3⟩=>by
     obtain⟨rfl,rfl,rfl,rfl⟩:=q
     exact⟨_,_,_,ν3,hK _ _ _ _ h4,S3⟩
   ·cases h4
  ·cases h
 | _=>simp_all[Ot]
end
end
end Go.Ax
namespace Go.Ax
variable {fn:Func}
noncomputable section
open Go Go.RowKit Go.Eng
def argX(k:Nat):List AV->LX
 | []=>[]
 | v::r=>(k,v)::argX (k+1) r
theorem A6X(vs:List AV):∀(k t:Nat) (s:AV),JG t (argX k vs)=some s->k<=t/\vs[t-k]?=some s:=by
 induction vs with
 | nil=>intro k t s h;cases h
 | cons v r ih =>
  intro k t s h
  rw[argX,Fq] at h
  by_cases e:t=k
  ·simp_all
  grind
def hOf(k:Nat):List Rs->HX
 | []=>[]
 | r::l=>(k,some r)::hOf (k+1) l
theorem X7:∀(l:List Rs) (i k:Nat),hlk k (hOf i l)=Ez k (Lj i l)
 | [],i,k=>rfl
 | R::l,i,k=>by rw[hOf,Lj,FO,DF,X7 l]
def rv(tmps:Array Value)(r:ResultVar):Sem Value:=match r with|.tmp t=>pure (tmps.getD t undef)|.cell x t=>do loadVar t (<-asAddr (tmps.getD x undef))
theorem tX(fn:Func)(tmps:Array Value):results fn tmps=(do let vs<-fn.results.mapM (rv tmps);pure (if h:vs.size=1 then vs[0] else .tuple vs)):=rfl
def lK(T:TT)(L:LX)(H:HX):List ResultVar->Option (List AV)
 | []=>some []
 | .tmp t::r=>(match JG t L,lK T L H r with|some s,some l=>some (s::l)|_,_=>none)
 | .cell t ty::r=>(match JG t L,Me ty T,lK T L H r with
  | some (.pa k o),some i,some l=>(match hlk k H with
   | some (.var cells)=>(match IP (scalar i.u) i.size (cells.drop o) with|some s=>some (s::l)|none=>none)
   | _=>none)
  | _,_,_=>none)
def A6Y(l:List AV):AV:=match l with|[s]=>s|l=>.tup l
def A6Z(us:List Value):Value:=match us with|[u]=>u|us=>.tuple us.toArray
variable {R:Type}
def QZ:List (Option Rs)->(List (Option Rs)->R)->R
 | [],K=>K []
 | some s::r,K=>Uy s fun s=>QZ r fun r=>K (some s::r)
 | none::r,K=>QZ r fun r=>K (none::r)
theorem Si:∀(l:List (Option Rs)) (K:List (Option Rs)->R),QZ l K=K l
 | [],K=>rfl
 | some s::r,K=>by simp only[QZ,QK,Si]
 | none::r,K=>by simp only[QZ,Si]
def hrw(n0:Nat)(hk:Nat->Option Rs)(k:Nat):Option Rs:=bif Nat.blt k n0 then none else hk k
def hvw(n0:Nat)(hk:Nat->Option Rs)(k:Nat):Option Rs:=match hk k with
 | some (.var l)=>some (.var (kQ (hrw n0 hk) l))
 | some (.rowA e s n l)=>some (.rowA e s n (kQ (hrw n0 hk) l))
 | R=>R
def YE(hk:Nat->Option Rs):List Nat->List Nat
 | []=>[]
 | k::r=>(match hk k with|some R=>NQ R|none=>[])++YE hk r
def A2p(T:TT)(fi:FI)(n0:Nat)(rs:List ResultVar)(L:LX)(H:HX):Option Rsp:=match lK T L H rs with
 | some l=>Ie (Vs fi.rs (bif fi.own then l else kQ (hrw n0 fun k=>hlk k H) l)) fun l'=>Iw (close (bif fi.own then(fun k=>hlk k H) else hvw n0 fun k=>hlk k H) 60 [] (upto n0++G7 l')) fun ks =>
   QZ (ks.map fun k=>((bif fi.own then(fun k=>hlk k H) else hvw n0 fun k=>hlk k H) k).map (IG fun k=>idx k ks)) fun Hout =>
    bif nodupB ks&&preB n0 0 ks&&allIn ks (G7 l')&&SQ (bif fi.own then(fun k=>hlk k H) else hvw n0 fun k=>hlk k H) ks ks&&PP n0 Hout&&djB ks (bif fi.own then [] else rowsOf (hrw n0 fun k=>hlk k H) (nub [] (G7 l++YE (fun k=>hlk k H) ks)))&&Nat.ble n0 ks.length then
     Ie (IE (fun k=>idx k ks) l') fun l=>force (A6Y l) fun s=>some (.ret s Hout)
    else none
 | none=>none
def A9d(T:TT)(fi:FI)(n0:Nat)(rs:List ResultVar)(m:Nat)(L:LX)(H:HX):Option Rsp:=NS fi.fin n0 m L H fun _ L H=>A2p T fi n0 rs L H
section
variable {P:Program}{I:World->Prop}{n:Nat}{g:Gx}{m:Nat}{L:LX}{H:HX}{a:Act}{w:World}{ν:Nat->Value}{T:TT}
theorem A2q(hT:TTok P I T)(S:IX I n g m L H a w ν):∀ {rs:List ResultVar} {l:List AV},lK T L H rs=some l->∃ us,(rs.mapM (rv a.tmps)).run P w=.ok us w/\Af ⟨(· < m),ν,FC g.Oa (fun k=>hlk k H) ν,w⟩ l us
 | [],l,h=>by simp_all[lK,Af]
 | .tmp t::rs,l,h=>by
  simp only[lK] at h
  split at h
  ·rename_i s l' h1 h2
   obtain rfl:=Option.some.inj h
   obtain⟨us,h3,h4⟩:=A2q hT S h2
   refine⟨a.tmps.getD t undef::us,?_,by simp only[Af];exact⟨_,us,rfl,S.slots _ _ h1,h4⟩⟩
   simp_all[rv]
  ·cases h
 | .cell t ty::rs,l,h=>by
  simp only[lK] at h
  split at h
  ·rename_i k o i l' h1 hi h2
   split at h
   ·rename_i cells hk
    split at h
    ·rename_i s hs
     obtain rfl:=Option.some.inj h
     obtain⟨us,h3,h4⟩:=A2q hT S h2
     obtain⟨_,⟨b,vs,e1,e2,e3,e4⟩,_⟩:=S.res k _ hk
     have hp:=A2P (S.slots _ _ h1) e1
     obtain⟨v,hv,hr⟩:=VH (w:=w) (hT _ _ hi) hs (e3.drop o) (fun u hu=>e4 u (List.mem_of_mem_drop hu)) (e2.cs o)
     refine⟨v::us,?_,by simp only[Af];grind⟩
     simp_all[rv,asAddr]
    ·cases h
   ·cases h
  ·cases h
theorem tY(hT:TTok P I T)(S:IX I n g m L H a w ν){rs:List ResultVar}(hrs:fn.results.toList=rs){l:List AV}(h:lK T L H rs=some l):
  ∃ us,(results fn a.tmps).run P w=.ok (A6Z us) w/\Af ⟨(· < m),ν,FC g.Oa (fun k=>hlk k H) ν,w⟩ l us:=by
 obtain⟨us,h1,h2⟩:=A2q hT S h
 refine⟨us,?_,h2⟩
 rw[tX]
 have h3:(fn.results.mapM (rv a.tmps)).run P w=.ok us.toArray w:=by
  rw[show fn.results=rs.toArray from by rw[<-hrs]]
  simp_all
 simp only[Sem.run_bind,h3,Result.andThen_ok,Sem.run_pure]
 match us with
 | []|[u]=>rfl
 | u::v::r=>simp;rfl
theorem A2r{c:Cx}:∀ {l:List AV} {us:List Value},Af c l us->Rep c (A6Y l) (A6Z us)
 | [s],us,h=>by obtain⟨u,rfl,hr⟩:=Af.un1 h;exact hr
 | [],us,h=>by
  have h':=h
  simp only[Af] at h
  subst h
  simp only[A6Y,A6Z,Rep];simp_all
 | s::s'::l,us,h=>by
  have h':=h
  simp only[Af] at h
  obtain⟨u,t,rfl,h1,u',t',rfl,h2,h3⟩:=h
  simp only[A6Y,A6Z,Rep];simp_all
theorem A2s{hk:Nat->Option Rs}{ks:List Nat}{k:Nat}{R:Rs}(h:Ez k (Gu id 0 (ks.map fun k=>(hk k).map (IG fun k=>idx k ks)))=some R):∃ q R1,ks[k]?=some q/\hk q=some R1/\R=IG (fun k=>idx k ks) R1:=by
 have:=Xw h
 grind[Option.map_eq_some_iff]
theorem YF{hk:Nat->Option Rs}{k:Nat}{R:Rs}{q:Nat}(hR:hk k=some R)(hq:q∈NQ R):∀ {ks:List Nat},k∈ks->q∈YE hk ks
 | a::ks,h=>by
  simp only[YE]
  rcases List.mem_cons.1 h with rfl|h
  ·simp_all
  ·exact List.mem_append.2 (.inr (YF hR hq h))
theorem A2t{n0:Nat}{hk:Nat->Option Rs}{k:Nat}{R:Rs}(h:hrw n0 hk k=some R):hk k=some R:=by
 grind[hrw]
theorem A2u{n0:Nat}{hk:Nat->Option Rs}{k:Nat}{R:Rs}(h:hvw n0 hk k=some R):∃ R0,hk k=some R0/\(R=R0\/(∃ l,R0=.var l/\R=.var (kQ (hrw n0 hk) l))\/∃ e s n l,R0=.rowA e s n l/\R=.rowA e s n (kQ (hrw n0 hk) l)):=by
 unfold hvw at h
 grind
theorem A2v(hT:TTok P I T){fi:FI}{n0:Nat}{rs:List ResultVar}{r:Rsp}{w0:World}{O:Nat->Prop}{F:Fp}{ν0:Nat->Value}(hrs:fn.results.toList=rs)(hO:∀ b,ER ν0 F b->O b)(S:IX I n ⟨w0,ER ν0 F,fun b=>O b/\¬ER ν0 F b,n0,ν0⟩ m L H a w ν)(h:A2p T fi n0 rs L H=some r):
  ∃ s Hout v ν',r=.ret s Hout/\(results fn a.tmps).run P w=.ok v w/\Ok ⟨(· < n0),ν0,O,w0⟩ F (Gu id 0 Hout) s v w ν':=by
 unfold A2p at h
 split at h
 ·rename_i l hl
  obtain⟨us,hrun,hreps⟩:=tY hT S hrs hl
  rw[H5,EW,Si] at h
  generalize hl':Vs fi.rs (bif fi.own then l else kQ (hrw n0 fun k=>hlk k H) l)=l' at h
  generalize hhv:(bif fi.own then(fun k=>hlk k H) else hvw n0 fun k=>hlk k H)=hv at h
  generalize hks:close hv 60 [] (upto n0++G7 l')=ks at h
  generalize hvs:(bif fi.own then [] else rowsOf (hrw n0 fun k=>hlk k H) (nub [] (G7 l++YE (fun k=>hlk k H) ks)))=vs at h
  cases hc:(nodupB ks&&preB n0 0 ks&&allIn ks (G7 l')&&SQ hv ks ks&&PP n0 (ks.map fun k=>(hv k).map (IG fun k=>idx k ks))&&djB ks vs&&Nat.ble n0 ks.length) with
  | false=>simp_all
  | true =>
   rw[hc] at h
   simp only[cond_true,H5,force_eq,Option.some.injEq] at h
   simp only[Bool.and_eq_true,Ob,Lu] at hc
   obtain⟨⟨⟨⟨⟨⟨hnd,hpre⟩,hin⟩,hinH⟩,hnew⟩,hdj⟩,hn0⟩:=hc
   have hn0:n0<=ks.length:=by simpa using hn0
   have hdj:=fZ hdj
   have hvH:∀ k R,Ez k vs=some R->hlk k H=some R:=by
    intro k R hk
    rw[<-hvs] at hk
    cases ho:fi.own with
    | true=>simp_all
    | false=>rw[ho] at hk;exact A2t (NG hk).1
   have hresG:∀ k R,Ez k vs=some R->k<m/\Holds ⟨(· < m),ν,FC (fun b=>O b/\¬ER ν0 F b) (fun k=>hlk k H) ν,w⟩ k R/\∀ b,blk (ν k)=some b->FC (fun b=>O b/\¬ER ν0 F b) (fun k=>hlk k H) ν b:=fun k R hk=>by
    obtain⟨r0,r1,r2⟩:=S.res k R (hvH k R hk)
    exact⟨r0,r1,fun b hb=>.inr ⟨k,R,hvH k R hk,hb⟩⟩
   -- the values, without the rows that are read from now on
   have hr1:Af (Cx.less ⟨(· < m),ν,FC (fun b=>O b/\¬ER ν0 F b) (fun k=>hlk k H) ν,w⟩ vs) l' us:=by
    grind[Tt,Af.le,Cx.less_le,Dc,MN,MM,Tq]
   -- the things
   have hthing:∀ k R,k∈ks->hv k=some R->∃ R0,hlk k H=some R0/\Holds (Cx.less ⟨(· < m),ν,FC (fun b=>O b/\¬ER ν0 F b) (fun k=>hlk k H) ν,w⟩ vs) k R:=by
    intro k R hkk hR
    rw[<-hhv] at hR
    have same:∀ R,hlk k H=some R->Holds (Cx.less ⟨(· < m),ν,FC (fun b=>O b/\¬ER ν0 F b) (fun k=>hlk k H) ν,w⟩ vs) k R:=fun R hR=>by
     obtain⟨r0,r1,r2⟩:=S.res k R hR
     exact Holds.le (Cx.less_le _ _) (Dc _) rfl (fun b hb=>⟨(r2 b hb).1,rfl⟩) r1
    cases ho:fi.own with
    | true=>grind
    | false =>
     rw[ho] at hR
     have hvw:∀ R0,hlk k H=some R0->∀ q∈NQ R0,∀ e t l,hrw n0 (fun k=>hlk k H) q=some (.row e t l)->Ez q vs=some (.row e t l):=fun R0 h0 q hq e t l0 hh=>by
      grind[MM,Tq,YF]
     obtain⟨R0,h0,h1⟩:=A2u (n0:=n0) (hk:=fun k=>hlk k H) hR
     refine⟨R0,h0,?_⟩
     rcases h1 with rfl|⟨l0,rfl,rfl⟩|⟨e,sz,n1,l0,rfl,rfl⟩
     ·grind
     ·obtain⟨_,⟨b,vs1,g1,g2,g3,g4⟩,_⟩:=S.res k _ h0
      exact⟨b,vs1,g1,g2,MN hresG l0 vs1 (hvw _ h0) g3,g4⟩
     ·obtain⟨_,⟨vs1,g1,g2,g3⟩,_⟩:=S.res k _ h0
      exact⟨vs1,g1,MN hresG l0 vs1 (hvw _ h0) g2,g3⟩
   obtain⟨hback,hlt⟩:=Jb l' hin
   have hHout:=fun {k R} h=>A2s (hk:=hv) (ks:=ks) (k:=k) (R:=R) h
   have hOb:∀ b,((O b/\¬ER ν0 F b)\/ER (fun k=>ν (nth ks k)) (Gu id 0 (ks.map fun k=>(hv k).map (IG fun k=>idx k ks))) b)->FC (fun b=>O b/\¬ER ν0 F b) (fun k=>hlk k H) ν b/\¬ER ν vs b:=by
    rintro b (hb|⟨k,R,hk,hb⟩)
    ·refine⟨.inl hb,?_⟩
     rintro⟨q,R1,hq,hqb⟩
     obtain⟨_,_,r2⟩:=S.res q R1 (hvH q R1 hq)
     have:=S.amb b hb
     grind
    ·obtain⟨q,R1,h1,h2,rfl⟩:=hHout hk
     have hb:blk (ν (nth ks k))=some b:=hb
     rw[JK h1] at hb
     obtain⟨R0,h0,_⟩:=hthing q R1 (List.mem_of_getElem? h1) h2
     refine⟨.inr ⟨q,R0,h0,hb⟩,?_⟩
     rintro⟨q',R2,hq',hqb⟩
     refine S.dist q q' R0 R2 b h0 (hvH q' R2 hq') ?_ hb hqb
     rintro rfl
     grind[Di]
   have hN:∀ k,k<ks.length->nth ks k<m->(k<n0\/has k (Gu id 0 (ks.map fun k=>(hv k).map (IG fun k=>idx k ks))))/\(fun k=>ν (nth ks k)) k=ν (nth ks k):=by
    intro k hk _
    refine⟨?_,rfl⟩
    grind[Nw,lF]
   have hpin:∀ k,k<n0->nth ks k=k:=fun k hk=>by
    have:=YB hpre hk
    simp_all[JK]
   refine⟨_,_,_,fun k=>ν (nth ks k),h.symm,hrun,fun k hk=>?_,?_,fun k R hk=>?_,fun k k' R R' b hk hk' hne hb=>?_,S.stp⟩
   ·show ν (nth ks k)=ν0 k
    rw[hpin k hk];exact(S.pin k hk).2
   ·refine A2r ?_
    exact Af.ren (ρ:=nth ks) (N:=(· < m)) (ν:=ν) (m:=ks.length) hN (fun w'' hs=>hs.mono fun i _ hi=>hOb i hi) _ us hlt (by rw[hback];exact hr1)
   ·obtain⟨q,R1,h1,h2,rfl⟩:=hHout hk
    have hkl:k<ks.length:=(List.getElem?_eq_some_iff.1 h1).1
    obtain⟨R0,h0,hold⟩:=hthing q R1 (List.mem_of_getElem? h1) h2
    obtain⟨r0,r1,r2⟩:=S.res q R0 h0
    obtain⟨b1,b2⟩:=VL (R:=R1) (SS hinH (List.mem_of_getElem? h1) h2)
    refine⟨?_,fun b hb=>?_⟩
    ·refine Holds.ren (ρ:=nth ks) (N:=(· < m)) (ν:=ν) (O:=fun b=>FC (fun b=>O b/\¬ER ν0 F b) (fun k=>hlk k H) ν b/\¬ER ν vs b) (m:=ks.length) hN (fun w'' hs=>hs.mono fun i _ hi=>hOb i hi) rfl b2 ?_
     rw[b1,JK h1];exact hold
    simp_all[JK]
   ·obtain⟨q,R1,h1,h2,rfl⟩:=hHout hk
    obtain⟨q',R2,h3,h4,rfl⟩:=hHout hk'
    have hb:blk (ν (nth ks k))=some b:=hb
    show blk (ν (nth ks k'))≠some b
    rw[JK h1] at hb
    rw[JK h3]
    obtain⟨R0,h0,_⟩:=hthing q R1 (List.mem_of_getElem? h1) h2
    obtain⟨R0',h0',_⟩:=hthing q' R2 (List.mem_of_getElem? h3) h4
    refine S.dist q q' R0 R0' b h0 h0' ?_ hb
    rintro rfl
    grind[List.getElem?_inj]
 ·cases h
theorem A6a{f:FuncId}{c:Code}{fi:FI}{ins:List AV}{Hin:List Rs}{s:AV}{Hout:List (Option Rs)}(hT:TTok P I T)(hf:P.funcs[f]?=some fn)(hb:fn.body=some c)(hlen:Nat.ble ins.length fn.ntmps=true)(h:∀ g:Gx,g.n0=Hin.length->Wc P I fn.ntmps g c (fun e m L H=>(e=.normal\/e=.ret)/\A9d T fi Hin.length fn.results.toList m L H=some (.ret s Hout)) Hin.length (argX 0 ins) (hOf 0 Hin)):ZY P I f ins Hin s Hout:=by
 intro ν O w args hG hin hP
 have hlen:ins.length<=fn.ntmps:=zaL
 have hl:=hin.len
 refine calls_of_wp hf hb ?_
 have hsz:(args.toArray++Array.replicate (fn.ntmps-args.toArray.size) undef).size=fn.ntmps:=zaD
 have hF:(fun k=>hlk k (hOf 0 Hin))=fun k=>Ez k (Lj 0 Hin):=funext fun k=>X7 Hin 0 k
 have hO:∀ b,ER ν (Lj 0 Hin) b->O b:=by rintro b ⟨k,R,hk,hb⟩;exact(hP.res k R hk).2.2 b hb
 have hown:FC (fun b=>O b/\¬ER ν (Lj 0 Hin) b) (fun k=>Ez k (Lj 0 Hin)) ν=O:=by
  funext b
  refine propext ⟨fun hb=>hb.elim (·.1) fun⟨k,R,hk,h⟩=>hO b ⟨k,R,hk,h⟩,fun hb=>?_⟩
  rcases Classical.em (ER ν (Lj 0 Hin) b) with h|h
  ·exact .inr h
  ·exact .inl ⟨hb,h⟩
 refine wp_mono (h ⟨w,ER ν (Lj 0 Hin),fun b=>O b/\¬ER ν (Lj 0 Hin) b,Hin.length,ν⟩ rfl _ w ν ⟨hsz,rfl,Stp.refl _ _,fun b hb=>⟨hG.lt b hb.1,hb.2⟩,fun w' hs=>hG.inv w' zaL,fun k hk=>⟨hk,rfl⟩,?_,?_,?_⟩) ?_
 ·intro t s hs
  rw[hF,hown]
  obtain⟨_,hv⟩:=A6X _ _ _ _ hs
  simp only[Nat.sub_zero] at hv
  obtain⟨u,hu,hr⟩:=hin.get hv
  have hlt:t<args.length:=(List.getElem?_eq_some_iff.1 hu).1
  simp_all[Array.getElem?_append_left]
 ·intro k R hk
  rw[hF,hown]
  rw[X7] at hk
  obtain⟨h1,h2,h3⟩:=hP.res k R hk
  exact⟨h1,h2,fun b hb=>⟨hG.lt b (h3 b hb),.inr ⟨k,R,hk,hb⟩⟩⟩
 ·intro k k' R R' b h1 h2
  rw[X7] at h1 h2
  exact hP.dist k k' R R' b h1 h2
 ·rintro e a w' ⟨m',L',H',ν',⟨he,q⟩,S'⟩
  obtain⟨m',L',H',ν',q,S'⟩:=QY rfl S' q
  obtain⟨s1,H1,v,ν2,e1,hrun,ok⟩:=A2v hT rfl hO S' q
  simp only[Rsp.ret.injEq] at e1
  obtain⟨rfl,rfl⟩:=e1
  rcases he with rfl|rfl
  ·exact⟨S'.defers,v,hrun,ν2,ok⟩
  ·exact⟨S'.defers,v,hrun,ν2,ok⟩
end
end
end Go.Ax
namespace Go.Ax
open Go Go.RowKit Go.Eng
variable {t:TypeId}{a x:Option AV}{lo:Int}{b:Option (AV×Fp)}
section
variable {R:Type}{r:R}{T:TT}{hk:Nat->Option Rs}{m:Nat}
def Le{α:Type}(K K':α->Option R)(r:R):Prop:=∀ x,K x=some r->K' x=some r
theorem Hw{K K':AV->Option R}(hK:Le K K' r):zl a K=some r->zl a K'=some r:=by
 unfold zl;intro h;split at h
 ·exact hK _ h
 ·cases h
theorem bind_mono{α:Type}{a:Option α}{K K':α->Option R}(hK:Le K K' r):a.bind K=some r->a.bind K'=some r:=by
 intro h
 obtain⟨x,h1,h2⟩:=Option.bind_eq_some_iff.1 h
 rw[h1];exact hK _ h2
theorem BD{c:Bool}{a a' b b':Option R}(h1:a=some r->a'=some r)(h2:b=some r->b'=some r):(bif c then a else b)=some r->(bif c then a' else b')=some r:=by
 grind
theorem U0{y:AV}{K K':Nat->Option R}(hK:Le K K' r):OU y K=some r->OU y K'=some r:=by
 unfold OU
 split
 ·exact BD id (hK _)
 all_goals first|exact hK _|exact id
theorem lL{op:BinOp}{a b:UInt8}{K K':AV->Option R}(hK:Le K K' r):Uz op a b K=some r->Uz op a b K'=some r:=by
 unfold Uz;split
 ·exact BD id (hK _)
 ·exact id
theorem tZ{bt e2:Bool}{en:Nat}{bs:Bool}{op:BinOp}{x y:AV}{K K':AV->Option R}(hK:Le K K' r):Zp bt e2 en bs op x y K=some r->Zp bt e2 en bs op x y K'=some r:=by
 unfold Zp
 split
 ·refine U0 fun c=>?_
  split<;>first|exact hK _|exact id
 ·refine U0 fun c=>?_
  split<;>first|exact hK _|exact id
 ·repeat' split
  all_goals first|exact hK _|exact id|exact BD id (hK _)|exact BD (hK _) id|exact BD (hK _) (BD (hK _) id)|exact BD (hK _) (BD (hK _) (lL hK))|exact BD (BD id (hK _)) id|skip
  all_goals refine BD ?_ id;split<;>first|exact hK _|exact id
theorem lM{d:Und}{x:AV}{K K':AV->Option R}(hK:Le K K' r):PO d x K=some r->PO d x K'=some r:=by
 unfold PO;split<;>first|exact hK _|exact id
theorem lN{K K':Tr->Option R}(hK:Le K K' r):V3 T hk t x K=some r->V3 T hk t x K'=some r:=by
 unfold V3
 repeat' split
 all_goals first|exact hK _|exact id|skip
 all_goals refine BD (bind_mono fun x=>?_) id
 all_goals split<;>first|exact hK _|exact id
theorem gy{y:Option (List AV)}{K K':Tr->Option R}(hK:Le K K' r):QL T hk t x y K=some r->QL T hk t x y K'=some r:=by
 unfold QL
 repeat' split
 all_goals first|exact hK _|exact id|skip
 all_goals repeat'(first|exact hK _|exact id|exact Hw (fun x=>hK _)|exact bind_mono (fun x=>hK _)|refine BD ?_ ?_|refine bind_mono fun x=>?_|split)
theorem lQ{f:Nat}{K K':Tr->Option R}(hK:Le K K' r):V4 T t x f K=some r->V4 T t x f K'=some r:=by
 unfold V4
 repeat' split
 all_goals first|exact hK _|exact id|skip
 all_goals repeat'(first|exact hK _|exact id|exact Hw (fun x=>hK _)|exact bind_mono (fun x=>hK _)|refine BD ?_ ?_|refine bind_mono fun x=>?_|split)
theorem lS{ev:Operand->Option AV}{n:Nat}{ps:List (Nat×Operand)}{K K':Tr->Option R}(hK:Le K K' r):V5 T ev hk m t n ps K=some r->V5 T ev hk m t n ps K'=some r:=by
 unfold V5
 repeat' split
 all_goals first|exact hK _|exact id|skip
 all_goals repeat'(first|exact hK _|exact id|exact Hw (fun x=>hK _)|exact bind_mono (fun x=>hK _)|refine BD ?_ ?_|refine bind_mono fun x=>?_|split)
theorem A0I{l c:Option AV}{K K':Tr->Option R}(hK:Le K K' r):zn T m t l c K=some r->zn T m t l c K'=some r:=by
 unfold zn
 simp only[TZ]
 repeat' split
 all_goals first|exact hK _|exact id|skip
 all_goals repeat'(first|exact hK _|exact id|exact Hw (fun x=>hK _)|exact bind_mono (fun x=>hK _)|refine BD ?_ ?_|refine bind_mono fun x=>?_|split)
theorem tu{j:Option Int}{K K':Tr->Option R}(hK:Le K K' r):Zq T hk t x j K=some r->Zq T hk t x j K'=some r:=by
 unfold Zq A9V A9W
 repeat' split
 all_goals first|exact hK _|exact id|skip
 all_goals repeat'(first|exact hK _|exact id|exact Hw (fun x=>hK _)|exact bind_mono (fun x=>hK _)|refine BD ?_ ?_|refine bind_mono fun x=>?_|split)
theorem A0J{j:Option Int}{K K':Tr->Option R}(hK:Le K K' r):zo T t x j K=some r->zo T t x j K'=some r:=by
 unfold zo
 repeat' split
 all_goals first|exact hK _|exact id|skip
 all_goals repeat'(first|exact hK _|exact id|exact Hw (fun x=>hK _)|exact bind_mono (fun x=>hK _)|refine BD ?_ ?_|refine bind_mono fun x=>?_|split)
theorem uA{x:AV}{F:Fp}{hi mx:Option (Option Int)}{K K':Tr->Option R}(hK:Le K K' r):Zr T t x F lo hi mx K=some r->Zr T t x F lo hi mx K'=some r:=by
 unfold Zr
 repeat' split
 all_goals first|exact hK _|exact id|skip
 all_goals repeat'(first|exact hK _|exact id|exact Hw (fun x=>hK _)|exact bind_mono (fun x=>hK _)|refine BD ?_ ?_|refine bind_mono fun x=>?_|split)
theorem uB{K K':Tr->Option R}(hK:Le K K' r):Zt T t hk x K=some r->Zt T t hk x K'=some r:=by
 unfold Zt
 repeat' split
 all_goals first|exact hK _|exact id|skip
 all_goals repeat'(first|exact hK _|exact id|exact Hw (fun x=>hK _)|exact bind_mono (fun x=>hK _)|refine BD ?_ ?_|refine bind_mono fun x=>?_|split)
theorem uC{K K':Tr->Option R}(hK:Le K K' r):Zu T hk m t a b K=some r->Zu T hk m t a b K'=some r:=by
 unfold Zu
 simp only[TZ]
 repeat' split
 all_goals first|exact hK _|exact id|skip
 all_goals repeat'(first|exact hK _|exact id|exact Hw (fun x=>hK _)|exact bind_mono (fun x=>hK _)|refine BD ?_ ?_|refine bind_mono fun x=>?_|split)
theorem lT{b:Option AV}{K K':Tr->Option R}(hK:Le K K' r):V9 T hk m t a b K=some r->V9 T hk m t a b K'=some r:=by
 unfold V9
 simp only[Dp]
 repeat' split
 all_goals first|exact hK _|exact id|skip
 all_goals repeat'(first|exact hK _|exact id|refine BD ?_ ?_|split)
theorem lU{K K':Tr->Option R}(hK:Le K K' r):V6 T t x K=some r->V6 T t x K'=some r:=by
 unfold V6
 repeat' split
 all_goals first|exact hK _|exact id|skip
 all_goals repeat'(first|exact hK _|exact id|refine BD ?_ ?_|split)
theorem lV{K K':Tr->Option R}(hK:Le K K' r):V7 T hk t x K=some r->V7 T hk t x K'=some r:=by
 unfold V7
 repeat' split
 all_goals first|exact hK _|exact id|skip
 all_goals repeat'(first|exact hK _|exact id|refine BD ?_ ?_|split)
theorem lW{hi:Option (Option Int)}{K K':Tr->Option R}(hK:Le K K' r):V8 T hk t x lo hi K=some r->V8 T hk t x lo hi K'=some r:=by
 unfold V8
 repeat' split
 all_goals first|exact hK _|exact id|skip
 all_goals repeat'(first|exact hK _|exact id|refine BD ?_ ?_|split)
theorem lX{t':TypeId}{b:Option AV}{K K':Tr->Option R}(hK:Le K K' r):VA T hk m t t' a b K=some r->VA T hk m t t' a b K'=some r:=by
 unfold VA
 repeat' split
 all_goals first|exact hK _|exact id|skip
 all_goals repeat'(first|exact hK _|exact id|refine BD ?_ ?_|split)
theorem lY{t':TypeId}{b:Option AV}{K K':Tr->Option R}(hK:Le K K' r):VB T hk m t t' a b K=some r->VB T hk m t t' a b K'=some r:=by
 unfold VB
 repeat' split
 all_goals first|exact hK _|exact id|skip
 all_goals repeat'(first|exact hK _|exact id|refine BD ?_ ?_|split)
theorem uD{K K':Tr->Option R}(hK:Le K K' r):Zv T hk t a b K=some r->Zv T hk t a b K'=some r:=by
 unfold Zv
 repeat' split
 all_goals first|exact hK _|exact id|skip
 all_goals repeat'(first|exact hK _|exact id|exact Hw (fun x=>hK _)|exact bind_mono (fun x=>hK _)|refine BD ?_ ?_|refine bind_mono fun x=>?_|split)
theorem lZ{K K':Tr->Option R}(hK:Le K K' r):VC T hk t a b K=some r->VC T hk t a b K'=some r:=by
 unfold VC
 repeat' split
 all_goals first|exact hK _|exact id|skip
 all_goals repeat'(first|exact hK _|exact id|refine BD ?_ ?_|split)
theorem uF{K K':Tr->Option R}(hK:Le K K' r):Zw T hk t a K=some r->Zw T hk t a K'=some r:=by
 unfold Zw
 repeat' split
 all_goals first|exact hK _|exact id|skip
 all_goals repeat'(first|exact hK _|exact id|refine BD ?_ ?_|split)
theorem uG{K K':Tr->Option R}(hK:Le K K' r):Zx T hk t a lo K=some r->Zx T hk t a lo K'=some r:=by
 unfold Zx
 repeat' split
 all_goals first|exact hK _|exact id|skip
 all_goals repeat'(first|exact hK _|exact id|refine BD ?_ ?_|split)
theorem A0K{ev:Operand->Option AV}{op:Op}{K K':Tr->Option R}(hK:Le K K' r):zq T ev hk m op K=some r->zq T ev hk m op K'=some r:=by
 unfold zq
 split
 all_goals first|exact lN hK|exact gy hK|exact lQ hK|exact lS hK|exact A0I hK|exact tu hK|exact A0J hK|exact Hw (fun x=>hK _)|skip
 all_goals repeat'(first|exact hK _|exact id|exact Hw (fun x=>hK _)|exact uB hK|exact lU hK|exact lV hK|exact uC hK|exact lT hK|exact lX hK|exact lY hK|exact lW hK|exact uG hK|exact uF hK|exact lZ hK|exact uD hK|exact uA hK|exact tZ (fun x=>hK _)|exact lM (fun x=>hK _)|refine BD ?_ ?_|split)
end
end Go.Ax
namespace Go.Ax
noncomputable section
open Go Go.RowKit Go.Eng
abbrev Orc:=Req->Option Rsp
def aH(Q Q':Orc):Prop:=∀ q r,Q q=some r->Q' q=some r
section
variable {R:Type}{r:R}{T:TT}{G:FT}{hk:Nat->Option Rs}{m:Nat}{Q Q':Orc}
theorem U1(hQ:aH Q Q'){ro:Bool}{f:Nat}{vs:Fp}{al:List AV}{ks:List Nat}{K K':Tr->Option R}(hK:Le K K' r):Tc ro Q hk m f vs al ks K=some r->Tc ro Q' hk m f vs al ks K'=some r:=by
 unfold Tc
 split
 ·refine BD ?_ id
  simp only[H5,SL]
  intro h
  obtain⟨x,h1,h2⟩:=Option.bind_eq_some_iff.1 h
  rw[hQ _ _ h1]
  simp only[Option.bind_some]
  revert h2
  split
  ·exact BD (BD (BD (hK _) id) (BD (hK _) (hK _))) id
  ·exact id
 ·exact id
theorem lg(hQ:aH Q Q'){fx:Option AV}{args:Option (List AV)}{K K':Tr->Option R}(hK:Le K K' r):VE G Q hk m fx args K=some r->VE G Q' hk m fx args K'=some r:=by
 unfold VE
 split
 ·split
  ·simp only[H5,Td,EW]
   exact BD (U1 hQ hK) (U1 hQ hK)
  ·exact id
 ·exact id
theorem EP(hQ:aH Q Q'){ev:Operand->Option AV}{op:Op}{K K':Tr->Option R}(hK:Le K K' r):IQ T G Q ev hk m op K=some r->IQ T G Q' ev hk m op K'=some r:=by
 unfold IQ
 grind[lg,A0K]
theorem EQ{d:Option Nat}{t:Tr}{L:LX}{H:HX}{K K':Nat->LX->HX->Option R}(hK:∀ m L H,K m L H=some r->K' m L H=some r):Ig d t m L H K=some r->Ig d t m L H K'=some r:=by
 simp_all[Tu]
theorem uH(hQ:aH Q Q'){n:Nat}{ops:List Oper}{r:Rsp}:∀(l:List Oper) {m:Nat} {L:LX} {H:HX} {K K':Nat->LX->HX->Option Rsp},(∀ m L H,K m L H=some r->K' m L H=some r)->J9 T G Q n ops l m L H K=some r->J9 T G Q' n ops l m L H K'=some r:=by
 intro l
 induction l with
 | nil=>intro m L H K K' hK;exact hK _ _ _
 | cons o l ih =>
  intro m L H K K' hK
  rw[J9,J9]
  split
  ·exact BD (EP hQ fun t=>EQ fun m L H=>ih hK) id
  ·split
   ·split
    ·refine BD (BD (BD (EP hQ fun t=>EQ fun m L H=>ih hK) (ih hK)) (BD (ih hK) (EP hQ fun t=>EQ fun m L H=>ih hK))) id
    ·exact BD (ih hK) id
    ·exact id
   ·exact id
theorem uI(hQ:aH Q Q'){ops:List Oper}:∀(l:List Oper) {tr:List Tr} {m:Nat} {L:LX} {H:HX} {K K':List Tr->Nat->LX->HX->Option R},(∀ tr m L H,K tr m L H=some r->K' tr m L H=some r)->IU T G Q ops l tr m L H K=some r->IU T G Q' ops l tr m L H K'=some r:=by
 intro l
 induction l with
 | nil=>intro tr m L H K K' hK;exact hK _ _ _ _
 | cons o l ih =>
  intro tr m L H K K' hK
  rw[IU,IU]
  simp only[EW,EZ]
  split
  ·exact EP hQ fun t=>EQ fun m L H=>ih hK
  ·split
   ·split
    ·refine BD (BD (EP hQ fun t=>EQ fun m L H=>ih hK) (ih hK)) (BD (ih hK) (EP hQ fun t=>EQ fun m L H=>ih hK))
    ·exact ih hK
    ·exact id
   ·exact id
theorem uJ{keep:List Nat}{n0:Nat}{L:LX}{H:HX}{K K':Nat->LX->HX->Option R}(hK:∀ m L H,K m L H=some r->K' m L H=some r):canon keep n0 L H K=some r->canon keep n0 L H K'=some r:=by
 unfold canon
 simp only[EZ,EW,I8,Dp]
 grind
theorem Gf{E:Plc}{n0 m:Nat}{L:LX}{H:HX}{K K':Nat->LX->HX->Option R}(hK:∀ m L H,K m L H=some r->K' m L H=some r):NS E n0 m L H K=some r->NS E n0 m L H K'=some r:=by
 unfold NS
 refine SY (Z:=fun a b=>a=some r->b=some r) E.nils fun m L H=>A6W (Z:=fun a b=>a=some r->b=some r) fun L H=>?_
 grind[uJ]
theorem Ny(hQ:aH Q Q'){n f n0:Nat}{keep:List (Plc×Plc)}{r:Rsp}:∀(c:Code) {k m:Nat} {L:LX} {H:HX} {K K':Exit->Nat->LX->HX->Option Rsp},(∀ e m L H,K e m L H=some r->K' e m L H=some r)->Ot T G Q n f n0 keep c k m L H K=some r->Ot T G Q' n f n0 keep c k m L H K'=some r:=by
 intro c
 induction c with
 | skip|label l|exit id|ret=>intro k m L H K K' hK;exact hK _ _ _ _
 | seq a b iha ihb =>
  grind[Ot]
 | cond x a b iha ihb =>
  intro k m L H K K' hK
  rw[Ot,Ot]
  grind
 | block id c ih =>
  intro k m L H K K' hK
  rw[Ot,Ot]
  grind
 | region id ops b =>
  intro k m L H K K' hK
  cases b with
  | false=>grind[Ot,Gf,uH]
  | true=>rw[Ot,Ot];exact Gf fun m L H=>uI hQ _ fun tr m L H=>BD (hK _ _ _ _) _root_.id
 | loop c ih =>
  intro k m L H K K' hK
  rw[Ot,Ot,Dp,Dp,Nat.zero_add]
  split
  ·refine Gf fun m L H h=>?_
   obtain⟨x,h1,h2⟩:=Option.bind_eq_some_iff.1 h
   rw[hQ _ _ h1]
   grind
  ·exact id
 | _=>simp_all[Ot]
end
abbrev CT:=List (Nat×Func)
def cfk(k:Nat):CT->Option Func
 | []=>none
 | (d,v)::H=>bif Nat.beq k d then some v else cfk k H
structure Env where
 T:TT
 G:FT
 C:CT
 ov:Orc
 vw:List Nat:=[]   -- functions in which a part of a row stays a row
def Env.tt(E:Env)(f:Nat):TT:=bif OV f E.vw then E.T++E.T.take 1 else E.T
theorem xq:∀(A B:TT) (t:Nat) (i:TI),Me t (A++B)=some i->Me t A=some i\/Me t B=some i
 | [],B,t,i,h=>.inr h
 | (d,v)::A,B,t,i,h=>by
  simp only[List.cons_append,Me] at h ⊢
  cases hb:Nat.beq t d with
  | true=>rw[hb] at h;exact .inl h
  | false=>rw[hb] at h;exact xq A B t i h
theorem A6b:∀(A:TT) (t:Nat) (i:TI),Me t (A.take 1)=some i->Me t A=some i
 | [],t,i,h=>za0
 | (d,v)::A,t,i,h=>by
  simp only[List.take_succ_cons,List.take_zero,Me] at h ⊢
  cases hb:Nat.beq t d with
  | true=>rw[hb] at h;exact h
  | false=>rw[hb] at h;cases h
theorem TTok.tt{P:Program}{I:World->Prop}{E:Env}(h:TTok P I E.T)(f:Nat):TTok P I (E.tt f):=by
 unfold Env.tt
 cases OV f E.vw with
 | false=>exact h
 | true =>
  have hl:∀ t i,Me t (E.T++E.T.take 1)=some i->Me t E.T=some i:=fun t i hi=>(xq _ _ t i hi).elim id (A6b _ t i)
  exact⟨fun t i hi=>h.tok t i (hl t i hi),fun t i g l hi=>h.gl t i g l (hl t i hi),fun t i g us hi=>h.ga t i g us (hl t i hi)⟩
def PX(E:Env)(Q:Orc)(q:Req):Option Rsp:=match E.ov q with
 | some r=>some r
 | none=>match q with
  | .call f args H=>(match cfk f E.C,Wh f E.G with
   | some fn,some fi=>(match fn.body with
    | some c=>bif Nat.ble args.length fn.ntmps then addN 0 H.length fun n0=>Ot (E.tt f) E.G Q fn.ntmps f n0 fi.keep c 0 n0 (argX 0 args) (hOf 0 H) fun e m L H'=>(match e with
      | .normal|.ret=>A9d E.T fi n0 fn.results.toList m L H'
      | _=>none)
     else none
    | none=>none)
   | _,_=>none)
  | .loop f k n0 m L H=>(match cfk f E.C,Wh f E.G with
   | some fn,some fi=>(match fn.body,fi.keep[k]? with
    | some c,some kp=>(match FM c k with
     | some b=>Ot (E.tt f) E.G Q fn.ntmps f n0 fi.keep b (k+1) m L H fun e m L H=>(match e with
      | .normal=>NS kp.1 n0 m L H fun m L H=>Q (.loop f k n0 m L H)
      | e=>NS kp.2 n0 m L H fun m L H=>some (.fin e m L H))
     | none=>none)
    | _,_=>none)
   | _,_=>none)
theorem uK(E:Env){Q Q':Orc}(hQ:aH Q Q'):aH (PX E Q) (PX E Q'):=by
 intro q r
 unfold PX
 split
 ·exact id
 ·split
  ·split
   ·split
    ·simp only[Dp]
     refine BD (Ny hQ _ fun e m L H=>?_) id
     exact id
    ·exact id
   ·exact id
  ·split
   ·split
    ·split
     ·refine Ny hQ _ fun e m L H=>?_
      cases e<;>first|exact Gf fun m L H=>hQ _ _|exact id
     ·exact id
    ·exact id
   ·exact id
def F(E:Env)(q:Req):Option Rsp:=PX E (F E) q
partial_fixpoint monotonicity by
 intro F1 F2 h q
 have hQ:aH F1 F2:=fun q r hq=>by
  have hr:=h q
  generalize F2 q=z at hr ⊢
  generalize F1 q=y at hr hq
  subst hq
  cases hr
  rfl
 have hm:=uK E hQ q
 dsimp only
 generalize PX E F2 q=z at hm ⊢
 generalize PX E F1 q=y at hm ⊢
 cases y with
 | none=>exact .bot
 | some r=>grind
def A6c(P:Program)(I:World->Prop)(E:Env)(q:Req)(r:Rsp):Prop:=match q,r with
 | .call f args Hin,.ret s H=>ZY P I f args Hin s H
 | .loop f k n0 m L H,.fin e m' L' H'=>∀ fn c b,cfk f E.C=some fn->fn.body=some c->FM c k=some b->ABO P I fn.ntmps b n0 m L H e m' L' H'
 | _,_=>True
structure EnvOK (P:Program) (I:World->Prop) (E:Env):Prop where
 hT:TTok P I E.T
 hG:gK P E.G
 hC:∀ f fn,cfk f E.C=some fn->P.funcs[f]?=some fn
 hx:P.follows .mixedOrders=true
 ov:∀ q r,E.ov q=some r->A6c P I E q r
theorem aI:∀(c:Code) {k:Nat} {b:Code},FM c k=some b->k<Df c:=by
 intro c
 induction c with
 | seq x y ihx ihy =>
  grind[FM,Df]
 | cond t x y ihx ihy =>
  grind[FM,Df]
 | block id x ih=>intro k b h;exact ih h
 | loop x ih =>
  grind[FM,Df,FX]
 | _=>intro k b h;cases h
theorem A0L:∀(c:Code) {k:Nat} {b:Code},FM c k=some b->∀ j c',FM b j=some c'->FM c (k+1+j)=some c':=by
 intro c
 induction c with
 | seq x y ihx ihy =>
  intro k b h j c' hj
  simp only[FM] at h ⊢
  cases hb:Nat.blt k (Df x) with
  | true =>
   rw[hb] at h
   have h1:=ihx h j c' hj
   have:Nat.blt (k+1+j) (Df x)=true:=by simpa using aI x h1
   grind
  | false =>
   rw[hb] at h
   have hk:Df x<=k:=by
    rcases Nat.lt_or_ge k (Df x) with h1|h1
    ·have:Nat.blt k (Df x)=true:=by simpa using h1
     simp_all
    ·exact h1
   have:Nat.blt (k+1+j) (Df x)=false:=zbr
   rw[this]
   have h1:=ihy h j c' hj
   rw[show k+1+j-Df x=k-Df x+1+j from by omega];exact h1
 | cond t x y ihx ihy =>
  intro k b h j c' hj
  simp only[FM] at h ⊢
  cases hb:Nat.blt k (Df x) with
  | true =>
   rw[hb] at h
   have h1:=ihx h j c' hj
   have:Nat.blt (k+1+j) (Df x)=true:=by simpa using aI x h1
   grind
  | false =>
   rw[hb] at h
   have hk:Df x<=k:=by
    rcases Nat.lt_or_ge k (Df x) with h1|h1
    ·have:Nat.blt k (Df x)=true:=by simpa using h1
     simp_all
    ·exact h1
   have:Nat.blt (k+1+j) (Df x)=false:=zbr
   rw[this]
   have h1:=ihy h j c' hj
   rw[show k+1+j-Df x=k-Df x+1+j from by omega];exact h1
 | block id x ih=>intro k b h j c' hj;exact ih h j c' hj
 | loop x ih =>
  intro k b h j c' hj
  simp only[FM] at h ⊢
  have h0:Nat.beq (k+1+j) 0=false:=by simp_all[Bool.eq_false_iff]
  rw[h0]
  cases hb:Nat.beq k 0 with
  | true =>
   simp_all
  | false =>
   rw[hb] at h
   have hk:k≠0:=fun e=>zaL
   have:=ih h j c' hj
   rw[show k+1+j-1=k-1+1+j from by omega];exact this
 | _=>intro k b h;cases h
section
variable {P:Program}{I:World->Prop}{E:Env}
theorem ADQ(h:EnvOK P I E):∀ q r,F E q=some r->A6c P I E q r:=by
 refine F.partial_correctness E _ fun Q hQ q r hr=>?_
 have hq:QOK P I Q:=fun f args Hin s H h=>hQ _ _ h
 cases ho:E.ov q with
 | some r' =>
  simp only[PX,ho] at hr
  obtain rfl:=Option.some.inj hr
  exact h.ov _ _ ho
 | none =>
  cases q with
  | call f args H =>
   simp only[PX,ho] at hr
   split at hr
   ·rename_i fn fi hc hfi
    split at hr
    ·rename_i c hb
     cases hlen:Nat.ble args.length fn.ntmps with
     | false=>simp_all
     | true =>
      rw[hlen] at hr
      simp only[cond_true,Dp,Nat.zero_add] at hr
      have hS:∀ s Hout,r=.ret s Hout->ZY P I f args H s Hout:=by
       rintro s Hout rfl
       refine A6a (fi:=fi) h.hT (h.hC _ _ hc) hb hlen fun g hg=>?_
       refine A2o (tab:=fun j=>FM c j) (h.hT.tt _) h.hG hq h.hx hg (fun k b m L H' e m' L' H'' hk hl=>?_) c 0 _ _ _ _ _ (fun j c' hj _=>by simp_all) hr (fun e m L H' hK=>?_)
       ·exact hQ _ _ hl fn c b hc hb hk
       grind
      cases r with
      | ret s Hout=>exact hS s Hout rfl
      | fin e m L H=>trivial
    ·cases hr
   ·cases hr
  | loop f k n0 m L H =>
   simp only[PX,ho] at hr
   split at hr
   ·rename_i fn fi hc hfi
    split at hr
    ·rename_i c kp hb hkp
     split at hr
     ·rename_i b hk
      cases r with
      | ret s Hout=>trivial
      | fin e m' L' H' =>
       intro fn' c' b' hc' hb' hk'
       rw[hc] at hc';obtain rfl:=Option.some.inj hc'
       rw[hb] at hb';obtain rfl:=Option.some.inj hb'
       rw[hk] at hk';obtain rfl:=Option.some.inj hk'
       intro g hg a w ν S
       refine RH.unroll ?_
       have hfs:=A2o (n:=fn.ntmps) (f:=f) (keep:=fi.keep) (tab:=fun j=>FM c j) (Φ:=fun e1 m1 L1 H1=>(match e1 with
        | .normal=>NS kp.1 n0 m1 L1 H1 fun m L H=>Q (.loop f k n0 m L H)
        | e=>NS kp.2 n0 m1 L1 H1 fun m L H=>some (Rsp.fin e m L H))=some (Rsp.fin e m' L' H')) (h.hT.tt _) h.hG hq h.hx hg (fun k b m L H' e m' L' H'' hk hl=>hQ _ _ hl fn c b hc hb hk) b (k+1) m L H _ (fun j c' hj _=>A0L c hk j c' hj) hr (fun e m L H' hK=>hK) a w ν S
       have out:∀(e1:Exit) m1 L1 H1 a1 w1 ν1,(NS kp.2 n0 m1 L1 H1 fun m L H=>some (Rsp.fin e1 m L H))=some (Rsp.fin e m' L' H')->IX I fn.ntmps g m1 L1 H1 a1 w1 ν1->jv I fn.ntmps g (fun e1 m1 L1 H1=>e1=e/\m1=m'/\L1=L'/\H1=H') e1 a1 w1:=by
        intro e1 m1 L1 H1 a1 w1 ν1 hc1 S1
        obtain⟨m2,L2,H2,ν2,g1,g2⟩:=QY hg S1 hc1
        simp only[Option.some.injEq,Rsp.fin.injEq] at g1
        obtain⟨rfl,rfl,rfl,rfl⟩:=g1
        exact⟨_,_,_,_,⟨rfl,rfl,rfl,rfl⟩,g2⟩
       refine wp_mono hfs ?_
       rintro e1 a1 w1 ⟨m1,L1,H1,ν1,q,S1⟩
       cases e1 with
       | normal =>
        obtain⟨m2,L2,H2,ν2,g1,g2⟩:=QY hg S1 q
        exact hQ _ _ g1 fn c b hc hb hk g hg a1 w1 _ g2
       | _=>exact out _ _ _ _ _ _ _ q S1
     ·cases hr
    ·cases hr
   ·cases hr
theorem A9e(h:EnvOK P I E){f:FuncId}{args:List AV}{Hin:List Rs}{s:AV}{Hout:List (Option Rs)}(hF:F E (.call f args Hin)=some (.ret s Hout)):ZY P I f args Hin s Hout:=ADQ h _ _ hF
end
end
end Go.Ax
namespace Go.Ax
open Go Go.RowKit Go.Eng
variable {P:Program}
def A9f:AV->AV->Bool
 | .un,.un=>true
 | .b x,.b y=>x==y
 | .i x,.i y|.u8 x,.u8 y|.u32 x,.u32 y|.u64 x,.u64 y|.str x,.str y=>decide (x=y)
 | .nil,.nil=>true
 | _,_=>false
theorem A6d{a b:AV}(h:A9f a b=true):a=b:=by
 unfold A9f at h
 grind
def xu:List AV->List AV->Bool
 | [],[]=>true
 | a::l,b::m=>A9f a b&&xu l m
 | _,_=>false
theorem lh:∀ {a b:List AV},xu a b=true->a=b
 | [],[],_=>rfl
 | a::l,b::m,h=>by simp only[xu,Bool.and_eq_true] at h;rw[A6d h.1,lh h.2]
 | [],_::_,h|_::_,[],h=>za0
def ABP(P:Program)(t:TypeId)(i:TI):Bool:=match i.u,P.underlying t with
 | .bool,some .bool|.i64,some (.int .i64)|.u8,some (.int .u8)|.u32,some (.int .u32)|.u64,some (.int .u64)|.str,some .string=>true
 | .sl e,some (.slice e')=>Nat.beq e e'
 | .fld pl sc,some (.struct _)=>(match Xi P t,zu P t with|some pl',some sc'=>decide (pl'=pl)&&decide (sc'=sc)|_,_=>false)
 | .arr n e,some (.array n' e')=>Nat.beq n n'&&Nat.beq e e'
 | .ptr e,some (.pointer e')=>Nat.beq e e'
 | .oth,some d=>OL d
 | _,_=>false
def ABQ(P:Program)(t:TypeId)(i:TI):Bool:=match P.info? t with
 | some ti=>(match ti.zero with
  | some z=>xu (z.cells.toList.map AV.of) i.zero&&Nat.beq z.cells.size i.size&&z.cells.toList.all (·.oneCell')
  | none=>false)&&Nat.beq ti.size i.size&&Nat.beq ti.bytes i.bytes&&Nat.blt 0 i.bytes
 | none=>false
def ABR(P:Program)(t:TypeId):Bool:=match P.underlying t with
 | some (.array n e)=>Nat.beq n 2&&(match P.underlying e with|some (.int .i64)=>true|_=>false)&&(match P.info? e with|some i=>Nat.beq i.size 1|none=>false) && !P.eqGuardType P.depth t
 | _=>false
def A9g(P:Program)(t:TypeId)(n:Nat):Bool:=match P.underlying t with
 | some (.struct fs) => !P.stoodInHeld t&&fs.toList.all (fun f=>(match decEq f.name "_" with|isTrue _=>false|isFalse _=>true)&&(match P.underlying f.type with|some (.int .i64)=>true|_=>false))&&decide (fs.toList.map (·.offset)=List.range' 0 n) && !P.eqGuardType P.depth t
 | _=>false
theorem A6e{t:TypeId}{n:Nat}(h:A9g P t n=true):E6 P t n:=by
 unfold A9g at h
 split at h
 ·rename_i fs hu
  simp only[Bool.and_eq_true,Bool.not_eq_true',decide_eq_true_eq,List.all_eq_true] at h
  obtain⟨⟨⟨h1,h2⟩,h3⟩,h4⟩:=h
  have hfs:P.fieldsOf t=fs:=by unfold Program.fieldsOf;rw[hu]
  refine⟨by rw[hfs];exact hu,h1,fun f hf=>?_,by rw[hfs];exact h3,h4⟩
  rw[hfs] at hf
  obtain⟨h5,h6⟩:=h2 f hf
  refine⟨?_,?_⟩
  ·split at h5
   ·cases h5
   ·assumption
  ·split at h6
   ·assumption
   ·cases h6
 ·cases h
def A9h(P:Program)(t:TypeId)(i:TI):Bool:=ABP P t i&&ABQ P t i&&(match i.ty with|some τ=>Nat.beq τ.n i.size|none=>true)&&(!i.eq2||ABR P t)&&(!Nat.blt 0 i.eqn||A9g P t i.eqn)
theorem A6f{t:TypeId}{i:TI}(h:A9h P t i=true):TOK P t i:=by
 simp only[A9h,Bool.and_eq_true] at h
 obtain⟨⟨⟨⟨h1,h2⟩,h3⟩,h4⟩,hq⟩:=h
 have hq:0<i.eqn->E6 P t i.eqn:=fun h0=>by
  have h0:Nat.blt 0 i.eqn=true:=by simpa using h0
  rw[h0] at hq
  exact A6e (by simpa using hq)
 have hu:(match i.u with
  | .bool=>P.underlying t=some .bool
  | .i64=>P.underlying t=some (.int .i64)
  | .u8=>P.underlying t=some (.int .u8)
  | .u32=>P.underlying t=some (.int .u32)
  | .u64=>P.underlying t=some (.int .u64)
  | .str=>P.underlying t=some .string
  | .sl el=>P.underlying t=some (.slice el)
  | .fld pl sc=>Xi P t=some pl/\zu P t=some sc
  | .arr n el=>P.underlying t=some (.array n el)
  | .ptr el=>P.underlying t=some (.pointer el)
  | .oth=>∃ d,P.underlying t=some d/\OL d=true):=by
  unfold ABP at h1
  split at h1
  case _ hu hp=>rw[hu];exact hp
  case _ hu hp=>rw[hu];exact hp
  case _ hu hp=>rw[hu];exact hp
  case _ hu hp=>rw[hu];exact hp
  case _ hu hp=>rw[hu];exact hp
  case _ hu hp=>rw[hu];exact hp
  case _ hu hp=>rw[hu];simp only;rw[FX h1];exact hp
  case _ hu hp =>
   rw[hu]
   simp only
   split at h1
   ·rename_i pl' sc' e1 e2
    simp only[Bool.and_eq_true,decide_eq_true_eq] at h1
    exact⟨e1.trans (by rw[h1.1]),e2.trans (by rw[h1.2])⟩
   ·cases h1
  case _ hu hp =>
   rw[hu]
   simp only
   simp only[Bool.and_eq_true] at h1
   rw[FX h1.1,FX h1.2];exact hp
  case _ hu hp=>rw[hu];simp only;rw[FX h1];exact hp
  case _ hu hp=>rw[hu];exact⟨_,hp,h1⟩
  case _=>cases h1
 unfold ABQ at h2
 split at h2
 ·rename_i ti hi
  simp only[Bool.and_eq_true] at h2
  obtain⟨⟨⟨h5,h6⟩,h7⟩,h8⟩:=h2
  split at h5
  ·rename_i z hz
   simp only[Bool.and_eq_true] at h5
   obtain⟨⟨h9,h10⟩,h11⟩:=h5
   refine⟨hu,by rw[hi];simp only[Option.map_some,FX h6],⟨z,?_,lh h9,FX h10,h11,by simpa using h8⟩,fun τ hτ=>?_,fun he=>?_,hq⟩
   ·rw[hi];simp only[Option.map_some,hz,FX h6,FX h7]
   ·rw[hτ] at h3;exact FX h3
   ·rw[he] at h4
    simp only[Bool.not_true,Bool.false_or] at h4
    unfold ABR at h4
    split at h4
    ·rename_i n e hp
     simp only[Bool.and_eq_true,Bool.not_eq_true'] at h4
     obtain⟨⟨⟨g1,g2⟩,g3⟩,g4⟩:=h4
     split at g2
     ·rename_i g2'
      split at g3
      ·rename_i ie g3'
       have hs:=FX g3
       refine⟨e,by rw[hp,FX g1],g2',by rw[g3'];simp only[Option.map_some,hs],by simp[Program.cellsOf,g3',hs],g4⟩
      ·cases g3
     ·cases g2
    ·cases h4
  ·cases h5
 ·cases h2
def ttB(P:Program):TT->Bool
 | []=>true
 | (t,i)::r=>A9h P t i&&ttB P r
theorem A2w{P:Program}:∀ {T:TT},ttB P T=true->∀ t i,Me t T=some i->TOK P t i
 | [],_,t,i,h=>za0
 | (d,v)::r,h,t,i,ht=>by
  simp only[ttB,Bool.and_eq_true] at h
  simp only[Me] at ht
  cases hb:Nat.beq t d with
  | true=>grind[FX,A6f]
  | false=>rw[hb] at ht;exact A2w h.2 t i ht
inductive CTok (P:Program):CT->Prop
 | nil:CTok P []
 | cons {d:Nat} {v:Func} {C:CT}:P.funcs[d]?=some v->CTok P C->CTok P ((d,v)::C)
theorem CTok.get{C:CT}(h:CTok P C):∀ f fn,cfk f C=some fn->P.funcs[f]?=some fn:=by
 induction h with
 | nil=>intro f fn h;cases h
 | @cons d v C h1 _ ih =>
  grind[cfk,FX]
inductive EntL (P:Program):FT->Prop
 | nil:EntL P []
 | cons {d:Nat} {v:FI} {C:FT}:Ent P d->EntL P C->EntL P ((d,v)::C)
theorem A6g{G:FT}(h:EntL P G):gK P G:=by
 induction h with
 | nil=>intro f fn h;cases h
 | @cons d v C h1 _ ih =>
  intro f fn h
  simp only[Wh] at h
  cases hb:Nat.beq f d with
  | true=>simp_all
  | false=>rw[hb] at h;exact ih f fn h
end Go.Ax
namespace Go.Ax
open Go Go.RowKit Go.Eng
variable {a:Int}{α:Type}{b i:Int}(l:List α)
theorem wrap64{n:Int}(h : -9223372036854775808<=n/\n<=9223372036854775807):IntKind.i64.wrap n=n:=by
 have e1:(2:Int)^IntKind.i64.bits=18446744073709551616:=rfl
 have e2:(2:Int)^(IntKind.i64.bits-1)=9223372036854775808:=rfl
 have e3:IntKind.i64.signed=true:=rfl
 unfold IntKind.wrap
 grind
theorem Bj(h : -9223372036854775808<=a+b/\a+b<=9223372036854775807):CS a b=a+b:=by rw[A1x];exact wrap64 h
theorem DV(h : -9223372036854775808<=a-b/\a-b<=9223372036854775807):Cj a b=a-b:=by rw[A1y];exact wrap64 h
theorem JL(h : -9223372036854775808<=a*b/\a*b<=9223372036854775807):CP a b=a*b:=by rw[A1z];exact wrap64 h
theorem F6(h:0<=a/\a<=9223372036854775807/\1<=b):CW a b=a/b:=by
 have h1:a.tdiv b=a/b:=Int.tdiv_eq_ediv_of_nonneg h.1
 rw[A20];unfold iquo0;rw[h1]
 have h2:0<=a/b:=Int.ediv_nonneg h.1 zaa
 have h3:a/b<=a:=Int.ediv_le_self _ h.1
 grind[wrap64]
theorem Ew(h:0<=a):CQ a b=a%b:=by rw[eX];exact Int.tmod_eq_emod_of_nonneg h
theorem U2(h : -9223372036854775807<=a/\a<=9223372036854775807):Cm a = -a:=by rw[A21];exact wrap64 zaa
theorem U3(h : -9223372036854775808<=a/\a<=9223372036854775807):D5 a=a:=by rw[A25];exact wrap64 h
theorem Dz(h:a=b):ED a b=true:=by simp[TW,ieq0,h]
theorem Aa(h:a≠b):ED a b=false:=by simp[TW,ieq0,h]
theorem Ih(h:a≠b):ES a b=true:=by simp[Vr,ine0,h]
theorem FH(h:a=b):ES a b=false:=by simp[Vr,ine0,h]
theorem Dl(h:a<b):Dx a b=true:=by simp[Nk,ilt0,h]
theorem Fv(h:b<=a):Dx a b=false:=by simp[Nk,ilt0];omega
theorem Fb(h:a<=b):EG a b=true:=by simp[NE,ile0,h]
theorem RI(h:b<a):EG a b=false:=by simp[NE,ile0];omega
theorem PY(h:ED a b=true):a=b:=by simpa [TW,ieq0] using h
theorem YG(h:ED a b=false):a≠b:=by simpa [TW,ieq0] using h
theorem YH(h:ES a b=true):a≠b:=by simpa [Vr,ine0] using h
theorem YI(h:ES a b=false):a=b:=by simpa [Vr,ine0] using h
theorem Ii(h:Dx a b=true):a<b:=by simpa [Nk,ilt0] using h
theorem Ij(h:Dx a b=false):b<=a:=by simpa [Nk,ilt0] using h
theorem A2x(h:EG a b=true):a<=b:=by simpa [NE,ile0] using h
theorem A2y(h:EG a b=false):b<a:=by simpa [NE,ile0] using h
theorem AP:Ak l=(l.length:Int):=by rw[fA];rfl
theorem Ac(m:List α):BF l m=l++m:=by rw[fD];rfl
theorem X8(m:List α):CO l m=m.take l.length++l.drop m.length:=by rw[A2B];rfl
theorem Ea(n:Int)(a:α):BU n a=List.replicate n.toNat a:=by rw[fC];rfl
theorem EL(i:Int)(a:α):BB l i a=l.set i.toNat a:=by rw[A2A];rfl
theorem NT{l:List α}{a:α}(h:0<=i)(h2:l[i.toNat]?=some a):Ap l i=some a:=by simp_all[LJ,lget0]
theorem A0M{l:List α}(h:i<0\/(l.length:Int)<=i):Ap l i=none:=by
 rw[LJ];grind[lget0]
theorem DU(i:Nat):Ap l (i:Int)=l[i]?:=by simp_all[LJ,lget0]
theorem H6{l:List α}(h:0<=i/\i<l.length):D7 l i=true:=by simp_all[A29,linb0]
theorem MP:CV l 0 (Ak l)=some l:=by
 simp_all[fB,lcut0,AP]
theorem LK{l:List α}{lo hi:Int}(h:0<=lo/\lo<=hi/\hi<=l.length):CV l lo hi=some ((l.drop lo.toNat).take (hi-lo).toNat):=by rw[fB,lcut0,if_pos h]
theorem Dk{l:List α}{b:Nat}(h:l.length*b<=140737488355328):fits l b=true:=by simp_all[Xe,fits0]
theorem LM{n:Int}{b:Nat}(h:0<=n/\b*n.toNat<=281474976710656):D9 n b=true:=by simp_all[A2D,fitn0]
theorem Sj{a b:List Int}(h:a=b):Ci a b=true:=by simp[fE,ieqs0,h]
theorem WA{a b:List UInt8}(h:a=b):Cf a b=true:=by simp[A24,seq0,h]
theorem YJ{a b:List UInt8}(h:a≠b):Cf a b=false:=by simp[A24,seq0,h]
theorem DW(a:Bool):CX a = !a:=by rw[A23];rfl
theorem H7(a b:Bool):and' a b=(a&&b):=by rw[A8V];rfl
theorem LP(a:UInt8):EJ a=(a.toNat:Int):=by rw[kN];rfl
theorem Dq(a:Int):DX a=UInt8.ofInt a:=by rw[A8W];rfl
theorem JM(a:Int):BZ a=UInt64.ofInt a:=by rw[FP];rfl
theorem U4(a:UInt64):BO a=a.toUInt8:=by rw[xK];rfl
theorem lm(a:UInt8):BQ a=a.toUInt64:=by rw[xI];rfl
theorem Qa{a:UInt64}(h:a.toNat<=9223372036854775807):D6 a=(a.toNat:Int):=by rw[A26];exact wrap64 zaa
theorem MB{c:Int}(h:0<=c/\c<18446744073709551616):(UInt64.ofInt c).toNat=c.toNat:=by
 grind[UInt64.ofInt,UInt64.toNat_ofNat']
theorem lq{c:Int}(h:0<=c/\c<256):(UInt8.ofInt c).toNat=c.toNat:=by
 grind[UInt8.ofInt,UInt8.toNat_ofNat']
theorem Qb{a:UInt64}{c:Nat}(h:c<64):Ag a c=a>>>UInt64.ofNat c:=by
 apply UInt64.toNat_inj.1
 rw[Xd];unfold u64shr0
 rw[UInt64.toNat_shiftRight,Nat.shiftRight_eq_div_pow,UInt64.toNat_ofNat',UInt64.toNat_ofNat',Nat.min_eq_left zaa]
 have h2:c%2^64%64=c:=zaa
 rw[h2]
 have:=a.toNat_lt
 exact Nat.mod_eq_of_lt (Nat.lt_of_le_of_lt (Nat.div_le_self _ _) this)
theorem aJ{a:UInt64}{c:Nat}(h:c<64):Ai a c=a<<<UInt64.ofNat c:=by
 rw[jy];unfold u64shl0
 apply UInt64.toNat_inj.1
 rw[Nat.min_eq_left zaa,UInt64.toNat_shiftLeft,Nat.shiftLeft_eq,UInt64.toNat_ofNat']
 have h2:c%2^64%64=c:=zaa
 grind[UInt64.ofInt,UInt64.toNat_ofNat']
theorem lu(a b:UInt64):BI .or a b=a|||b:=by rw[EU];rfl
theorem A6h{a b:UInt64}(h:b.toNat<a.toNat):AZ .gtr a b=true:=by simp_all[Jm,u64cmp0,WW]
theorem A6i{a b:UInt64}(h:a.toNat<=b.toNat):AZ .gtr a b=false:=by simp_all[Jm,u64cmp0,WW]
theorem xw(a:UInt8):CJ (a.toNat:Int) 8=(a.toNat:Int)*2^(8:Int).toNat:=by
 have:=a.toNat_lt
 rw[Xc];unfold ishl0
 rw[show min 8 64=8 from rfl,show(2:Int)^(8:Int).toNat=256 from rfl,show(2:Int)^8=256 from rfl]
 grind[wrap64]
theorem iC(a b:Int):BC .or a b=bits .or .i64 a b:=by rw[NP];rfl
end Go.Ax
namespace Go.Ax
open Go Go.Eng Go.RowKit
def Sm:Nat->UInt64->List UInt8
 | 0,_=>[]
 | k+1,x=>(x>>>UInt64.ofNat (8*k)).toUInt8::Sm k x
theorem J4(k:Nat)(x:UInt64):(Sm k x).length=k:=by induction k with|zero=>rfl|succ k ih=>simp[Sm,ih]
def Bg(b:List UInt8)(size n:Int):List UInt8:=if size<1\/8<size then b else b++Sm size.toNat (UInt64.ofInt n)
theorem aK(b:List UInt8)(size n:Int):(Bg b size n).length<=b.length+8:=by
 grind[Bg,J4]
def Hy(b x:List UInt8):List UInt8:=Bg b 2 ((x.take 65535).length:Int)++x.take 65535
theorem U5(x y:UInt8):bits .or .i64 ((x.toNat:Int)*2^(8:Int).toNat) (y.toNat:Int)=((x.toNat*256+y.toNat:Nat):Int):=by
 have hx:=x.toNat_lt
 have hy:=y.toNat_lt
 have h:=jd (x.toNat*256) y.toNat zaa zaa
 rw[show((x.toNat:Int)*2^(8:Int).toNat)=((x.toNat*256:Nat):Int) from by simp,h]
 have:=Nat.shiftLeft_add_eq_or_of_lt (i:=8) (show y.toNat<2^8 by omega) x.toNat
 simp_all[Nat.shiftLeft_eq]
def beN(l:List UInt8):UInt64:=l.foldl (fun n x=>n<<<8|||x.toUInt64) 0
def Dt(b:List UInt8)(at':Nat)(e size:Int):Int×Nat×Int :=
 if e≠0 then(0,at',e) else if size<1\/8<size then(0,at',1) else if b.length<at'+size.toNat then(0,at',2)
 else if 9223372036854775807<(beN ((b.drop at').take size.toNat)).toNat then(0,at',4) else((beN ((b.drop at').take size.toNat)).toNat,at'+size.toNat,0)
def lw(b:List UInt8)(at':Nat)(e n:Int):List UInt8×Nat×Int :=
 if e≠0 then([],at',e) else if n<0 then([],at',1) else if b.length<at'+n.toNat then([],at',2) else((b.drop at').take n.toNat,at'+n.toNat,0)
def EH(b:List UInt8)(at':Nat):Nat:=(b.getD at' 0).toNat*256+(b.getD (at'+1) 0).toNat
def Fg(b:List UInt8)(at':Nat)(e most:Int):List UInt8×Nat×Int :=
 if e≠0 then([],at',e) else if b.length<at'+2 then([],at',2) else if most<EH b at' then([],at',4)
 else if b.length<at'+2+EH b at' then([],at',2) else((b.drop (at'+2)).take (EH b at'),at'+2+EH b at',0)
def PI(b:List UInt8)(at':Nat)(e:Int):Int:=if e=0/\at'<b.length then 3 else e
theorem FQ{b:List UInt8}{at':Nat}{e size:Int}(h:at'<=b.length):(Dt b at' e size).2.1<=b.length:=by
 grind[Dt]
theorem JB{b:List UInt8}{at':Nat}{e most:Int}(h:at'<=b.length):(Fg b at' e most).2.1<=b.length:=by
 grind[Fg]
end Go.Ax
namespace Go.Ax
open Go Go.RowKit Go.Eng
variable (a b:UInt8)
theorem JC{α:Type}{l:List α}{n:Nat}(h:n<l.length):Ap l (n:Int)=some (l[n]'h):=by simp_all[DU]
theorem Bv{α:Type}{l:List α}{i:Int}(h:0<=i/\i<l.length):Ap l i=some (l[i.toNat]'zaa):=by simp_all[LJ,lget0]
theorem GY(a b:Int):ED a b=decide (a=b):=by simp only[TW,ieq0];rfl
theorem JR(a b:Int):ES a b = !decide (a=b):=by simp only[Vr,ine0];rfl
theorem II(a b:Int):Dx a b=decide (a<b):=by rw[Nk];rfl
theorem Hl(a b:Int):EG a b=decide (a<=b):=by rw[NE];rfl
theorem J5:BK .eql a b=ED (a.toNat:Int) b.toNat:=by rw[OT,TW];rfl
theorem KH:BK .neq a b=ES (a.toNat:Int) b.toNat:=by rw[OT,Vr];rfl
theorem KI:BK .lss a b=Dx (a.toNat:Int) b.toNat:=by rw[OT,Nk];rfl
theorem KJ:BK .leq a b=EG (a.toNat:Int) b.toNat:=by rw[OT,NE];rfl
theorem KL:BK .gtr a b=Dx (b.toNat:Int) a.toNat:=by rw[OT,Nk];rfl
theorem KN:BK .geq a b=EG (b.toNat:Int) a.toNat:=by rw[OT,NE];rfl
theorem JS(a b:UInt64):AZ .eql a b=ED (a.toNat:Int) b.toNat:=by rw[Jm,TW];rfl
theorem JU(a b:UInt64):AZ .neq a b=ES (a.toNat:Int) b.toNat:=by rw[Jm,Vr];rfl
theorem JV(a b:UInt64):AZ .lss a b=Dx (a.toNat:Int) b.toNat:=by rw[Jm,Nk];rfl
theorem JW(a b:UInt64):AZ .leq a b=EG (a.toNat:Int) b.toNat:=by rw[Jm,NE];rfl
theorem JX(a b:UInt64):AZ .gtr a b=Dx (b.toNat:Int) a.toNat:=by rw[Jm,Nk];rfl
theorem Hm(a b:UInt64):AZ .geq a b=EG (b.toNat:Int) a.toNat:=by rw[Jm,NE];rfl
theorem MQ:CU .xor a b=a^^^b:=by rw[eY];rfl
theorem A2z:CU .and a b=a&&&b:=by rw[eY];rfl
theorem A6j:CU .or a b=a|||b:=by rw[eY];rfl
theorem A6k{c:Int}(h:0<=c/\c<=8):(BI .mul (UInt64.ofNat 8) (BZ c)).toNat=(8*c).toNat:=by
 rw[EU,JM]
 show((UInt64.ofNat 8)*(UInt64.ofInt c)).toNat=_
 grind[UInt64.toNat_mul,MB]
theorem A30(k:Nat)(hk:k<=62)(n:Int):bits .and .i64 n ((2^k-1:Nat):Int)=n%((2^k:Nat):Int):=by
 have hp:0<2^k:=Nat.pow_pos zaa
 have hlt:2^k<=2^62:=Nat.pow_le_pow_right zaa hk
 have h1:(BitVec.ofInt 64 ((2^k-1:Nat):Int)).toNat=2^k-1:=by
  grind
 have key:(BitVec.ofInt 64 n&&&BitVec.ofInt 64 ((2^k-1:Nat):Int)).toNat=(n%((2^64:Nat):Int)).toNat%2^k:=by
  grind[BitVec.toNat_ofInt,Nat.and_two_pow_sub_one_eq_mod]
 show IntKind.i64.wrap ((BitVec.ofInt 64 n&&&BitVec.ofInt 64 ((2^k-1:Nat):Int)).toNat:Nat)=n%_
 rw[key,IntKind.wrap_i64]
 have hd:((2^k:Nat):Int)∣((2^64:Nat):Int):=by
  refine⟨((2^(64-k):Nat):Int),?_⟩
  rw[<-Int.natCast_mul,<-Nat.pow_add];grind
 have h2:((((n%((2^64:Nat):Int)).toNat%2^k:Nat)):Int)=n%((2^k:Nat):Int):=by
  grind[Int.emod_emod_of_dvd]
 omega
theorem KO(k:Nat)(hk:k<=62)(n:Int):BC .and n ((2^k-1:Nat):Int)=n%((2^k:Nat):Int):=by rw[NP];exact A30 k hk n
end Go.Ax
namespace Go.Ax
open Go Go.Eng Go.RowKit
variable {b x r:List UInt8}{n p:Nat}(l:List UInt8)
def L8(l:List UInt8):Nat:=l.foldl (fun n x=>n*256+x.toNat) 0
theorem A6l:∀ a:Nat,l.foldl (fun n x=>n*256+x.toNat) a=a*256^l.length+L8 l:=by
 induction l with
 | nil=>grind[L8]
 | cons x l ih =>
  intro a
  rw[List.foldl_cons,ih]
  have e:L8 (x::l)=x.toNat*256^l.length+L8 l:=by
   rw[show L8 (x::l)=l.foldl (fun n x=>n*256+x.toNat) (0*256+x.toNat) from rfl,ih];simp
  grind
theorem Nz(x:UInt8)(l:List UInt8):L8 (x::l)=x.toNat*256^l.length+L8 l:=by
 grind[L8,A6l]
theorem X9:L8 l<256^l.length:=by
 induction l with
 | nil=>simp[L8]
 | cons x l ih =>
  rw[Nz,List.length_cons,Nat.pow_succ]
  have:=x.toNat_lt
  have h2:x.toNat*256^l.length<=255*256^l.length:=Nat.mul_le_mul_right _ zaa
  omega
theorem A6m(n:UInt64)(x:UInt8)(h:n.toNat<2^56):(n<<<8|||x.toUInt64).toNat=n.toNat*256+x.toNat:=by
 have hx:=x.toNat_lt
 rw[UInt64.toNat_or,UInt64.toNat_shiftLeft]
 have e1:(8:UInt64).toNat%64=8:=zaj
 rw[e1,Nat.shiftLeft_eq,Nat.mod_eq_of_lt zaa]
 have e2:x.toUInt64.toNat=x.toNat:=zat
 rw[e2]
 have:=Nat.shiftLeft_add_eq_or_of_lt (i:=8) (show x.toNat<2^8 by omega) n.toNat
 simp_all[Nat.shiftLeft_eq]
theorem XA(h:l.length<=8):(beN l).toNat=L8 l:=by
 have key:∀(l:List UInt8) (a:UInt64) (m:Nat),a.toNat<256^m->m+l.length<=8->(l.foldl (fun(n:UInt64) (x:UInt8)=>n<<<8|||x.toUInt64) a).toNat=a.toNat*256^l.length+L8 l:=by
  intro l
  induction l with
  | nil=>simp_all[L8]
  | cons x l ih =>
   intro a m ha hm
   rw[List.length_cons] at hm
   have hx:=x.toNat_lt
   have h56:a.toNat<2^56:=by
    have:256^m<=256^7:=Nat.pow_le_pow_right zaa zaa
    omega
   have hs:=A6m a x h56
   rw[List.foldl_cons,ih _ (m+1) zaa zaa,hs,Nz,List.length_cons,Nat.pow_succ,Nat.add_mul,Nat.mul_assoc,Nat.mul_comm 256]
   omega
 have:=key l 0 0 zaj zaa
 simp_all[beN]
theorem xy(k:Nat)(x:UInt64)(hk:k<=8):L8 (Sm k x)=x.toNat%256^k:=by
 induction k with
 | zero=>simp[Sm,L8,Nat.mod_one]
 | succ k ih =>
  rw[Sm,Nz,J4,ih zaa]
  have h1:((x>>>UInt64.ofNat (8*k)).toUInt8).toNat=x.toNat/256^k%256:=by
   rw[UInt64.toNat_toUInt8,UInt64.toNat_shiftRight,UInt64.toNat_ofNat',Nat.shiftRight_eq_div_pow]
   have e:8*k%2^64%64=8*k:=zaa
   rw[e,Nat.pow_mul]
  rw[h1,Nat.pow_succ,Nat.mod_mul]
  grind
theorem mD:∀ {l m:List UInt8},l.length=m.length->L8 l=L8 m->l=m
 | [],[],_,_=>rfl
 | x::l,y::m,hl,hv=>by
  rw[Nz,Nz] at hv
  have hl':l.length=m.length:=zaU
  have h1:=X9 l
  have h2:=X9 m
  rw[hl'] at hv h1
  have hp:0<256^m.length:=Nat.pow_pos zaa
  have hxy:x.toNat=y.toNat:=by
   have a1:(x.toNat*256^m.length+L8 l)/256^m.length=x.toNat:=by
    rw[Nat.mul_comm,Nat.mul_add_div hp,Nat.div_eq_of_lt h1,Nat.add_zero]
   simp_all[Nat.mul_comm,Nat.mul_add_div,Nat.div_eq_of_lt]
  have hlm:L8 l=L8 m:=zaL
  rw[UInt8.toNat_inj.1 hxy,mD hl' hlm]
 | [],_::_,h,_|_::_,[],h,_=>zbq
theorem A6n(h:l.length<=8)(hb:L8 l<9223372036854775808):Sm l.length (UInt64.ofInt (L8 l:Int))=l:=by
 grind[mD,J4,xy,MB,Nat.mod_eq_of_lt,X9]
theorem YK(k:Nat)(x:Int)(hk:k<=8)(h0:0<=x)(h1:x<9223372036854775808)(h:x.toNat<256^k):L8 (Sm k (UInt64.ofInt x))=x.toNat:=by
 grind[xy,MB,Nat.mod_eq_of_lt]
theorem PZ(h:b.drop p=r)(hp:p<=b.length):b.length=p+r.length:=zaU
theorem U6(h:b.drop p=x++r):b.drop (p+x.length)=r:=by
 rw[<-List.drop_drop,h,List.drop_left]
theorem Oe{x:Int}(hp:p<=b.length)(hn:1<=n/\n<=8)(h:b.drop p=Sm n (UInt64.ofInt x)++r)(h0:0<=x)(h1:x<9223372036854775808)(h2:x.toNat<256^n):
  Dt b p 0 n=(x,p+n,0)/\p+n<=b.length/\b.drop (p+n)=r:=by
 have hl:=PZ h hp
 rw[List.length_append,J4] at hl
 have ht:(b.drop p).take n=Sm n (UInt64.ofInt x):=by simp_all[J4]
 have hv:(beN (Sm n (UInt64.ofInt x))).toNat=x.toNat:=by simp_all[XA,J4,YK]
 refine⟨?_,by omega,by have:=U6 h;rwa [J4] at this⟩
 unfold Dt
 grind
theorem y9(hp:p<=b.length)(h:b.drop p=x++r)(hx:x.length=n):lw b p 0 n=(x,p+n,0)/\p+n<=b.length/\b.drop (p+n)=r:=by
 have hl:=PZ h hp
 rw[List.length_append] at hl
 subst hx
 simp_all[U6,lw,if_neg]
theorem A31{x:UInt8}{y:UInt8}(h:b.drop p=x::y::r):EH b p=x.toNat*256+y.toNat:=by
 have e0:b.getD p 0=x:=by
  have:=congrArg (fun l=>l.getD 0 0) h
  grind
 have e1:b.getD (p+1) 0=y:=by
  have:=congrArg (fun l=>l.getD 1 0) h
  grind
 rw[EH,e0,e1]
def Wl(n:Nat):List UInt8:=Sm 2 (UInt64.ofInt (n:Int))
theorem YL(n:Nat):∃ x y,Wl n=[x,y]:=⟨_,_,rfl⟩
theorem Pe(n:Nat):(Wl n).length=2:=J4 _ _
theorem YM(h:n<=65535){x y:UInt8}(hxy:Wl n=[x,y]):x.toNat*256+y.toNat=n:=by
 have:=YK 2 (n:Int) zaa zaa zaa zaD
 rw[show Sm 2 (UInt64.ofInt (n:Int))=[x,y] from hxy] at this
 simp_all[L8]
theorem yA{most:Int}(hp:p<=b.length)(h:b.drop p=Wl x.length++x++r)(hx:x.length<=65535)(hm:(x.length:Int)<=most):
  Fg b p 0 most=(x,p+2+x.length,0)/\p+2+x.length<=b.length/\b.drop (p+2+x.length)=r:=by
 have hl:=PZ h hp
 rw[List.length_append,List.length_append,Pe] at hl
 obtain⟨u,v,huv⟩:=YL x.length
 have hv:=YM hx huv
 have hL:EH b p=x.length:=by
  grind[A31]
 have h2:b.drop (p+2)=x++r:=by
  grind[U6,Pe]
 refine⟨?_,by omega,U6 h2⟩
 unfold Fg
 grind
theorem YN(hp:p<=b.length)(h:b.drop p=[]):PI b p 0=0:=by
 simp_all[PI]
theorem A6o{q:Nat}{e x:Int}(hp:p<=b.length)(hn:1<=n/\n<=8)(h:Dt b p e n=(x,q,0)):e=0/\q=p+n/\q<=b.length/\b.drop p=Sm n (UInt64.ofInt x)++b.drop q/\0<=x/\x<9223372036854775808/\x.toNat<256^n:=by
 unfold Dt at h
 split at h
 ·simp_all
 rename_i he
 split at h
 ·simp at h
 split at h
 ·simp at h
 rename_i hl
 split at h
 ·simp at h
 rename_i hb
 simp only[Int.toNat_natCast,Prod.mk.injEq] at h hb hl
 obtain⟨h1,h2,_⟩:=h
 have hlen:((b.drop p).take n).length=n:=zaD
 rw[XA _ zaa] at h1 hb
 have hlt:=X9 ((b.drop p).take n)
 rw[hlen] at hlt
 subst h1 h2
 refine⟨by omega,rfl,by omega,?_,by omega,by omega,by omega⟩
 grind[A6n,List.drop_drop,List.take_append_drop]
theorem Pg{x:Int}(hn:1<=n/\n<=8):Bg b n x=b++Sm n (UInt64.ofInt x):=by
 unfold Bg;grind
theorem Ph(h:x.length<=65535):Hy b x=b++Wl x.length++x:=by
 unfold Hy
 rw[List.take_of_length_le h,show(2:Int)=((2:Nat):Int) from rfl,Pg zaa];rfl
theorem yB{at':Nat}{e most:Int}:(Fg b at' e most).1.length<=b.length:=by
 grind[Fg]
theorem U7{x:Int}(hn:1<=n/\n<=8):(Bg b n x).length=b.length+n:=by simp_all[Pg,J4]
theorem Am(b:List UInt8)(x:Int):(Bg b 1 x).length=b.length+1:=U7 (n:=1) zaa
theorem A8(b:List UInt8)(x:Int):(Bg b 2 x).length=b.length+2:=U7 (n:=2) zaa
theorem YO(b:List UInt8)(x:Int):(Bg b 3 x).length=b.length+3:=U7 (n:=3) zaa
theorem EK(b:List UInt8)(x:Int):(Bg b 4 x).length=b.length+4:=U7 (n:=4) zaa
theorem AU(b:List UInt8)(x:Int):(Bg b 8 x).length=b.length+8:=U7 (n:=8) zaa
theorem AO(b x:List UInt8):(Hy b x).length=b.length+2+min 65535 x.length:=by simp_all[Hy,A8]
end Go.Ax
namespace Go.Ax
open Go Go.Eng Go.RowKit
structure Att where
 key:List UInt8
 nonce:List UInt8
 resets:Int
 restarts:Int
 clock:Int
 safe:Bool
 updates:Int
 s0:Int
 s1:Int
 digest:List UInt8
def A9i:List UInt8:=[83,87,81,49]
def Jk(a:Att):List UInt8 :=
 Bg (Bg (Bg (Bg (Bg (Bg (Bg (Hy (Hy A9i a.key) a.nonce) 8 a.resets) 8 a.restarts) 8 a.clock) 1 (bif a.safe then 1 else 0)) 8 a.updates) 2 a.s0) 2 a.s1++a.digest
structure OkA (a:Att):Prop where
 key:a.key.length=32
 nonce:a.nonce.length<=128
 resets:0<=a.resets/\a.resets<9223372036854775808
 restarts:0<=a.restarts/\a.restarts<9223372036854775808
 clock:0<=a.clock/\a.clock<9223372036854775808
 updates:0<=a.updates/\a.updates<9223372036854775808
 s0:0<=a.s0/\a.s0<65536
 s1:0<=a.s1/\a.s1<65536
 digest:a.digest.length=32
end Go.Ax
namespace Go.Ax
open Go Go.RowKit Go.Eng
variable (l:List UInt8)
theorem Ho{a:Int}{c:Nat}(h:c<=64):Bi a c=a/2^c:=by simp_all[Ux,ishr0]
theorem mF{c:Int}(h:0<=c/\c<=62):CJ 1 (BZ c).toNat=2^c.toNat:=by
 rw[Xc,JM,MB zaa];unfold ishl0
 rw[Nat.min_eq_left zaa,Int.one_mul]
 apply wrap64
 have h1:(2:Int)^c.toNat<=2^62:=by
  have:=Nat.pow_le_pow_right (n:=2) zaa (show c.toNat<=62 by omega)
  grind
 grind
theorem iD{n:Nat}(h:n<=62):CJ 1 (BZ (n:Int)).toNat=(2:Int)^n:=by
 grind[mF]
theorem NU{α:Type}{l:List α}{n:Int}(h:0<=n/\n<=l.length):CV l 0 n=some (l.take n.toNat):=by
 simp_all[fB,lcut0]
theorem LL:(∀ {α:Type} (l:List α),Ak l=(l.length:Int))/\(∀ {α:Type} (l m:List α),BF l m=l++m)/\(∀ {α:Type} (n:Int) (a:α),BU n a=List.replicate n.toNat a)/\(∀ {α:Type} (l m:List α),CO l m=m.take l.length++l.drop m.length)/\(∀ {α:Type} (l:List α) (i:Int) (a:α),BB l i a=l.set i.toNat a) /\
  (∀ {α:Type} (l m:List α),(l++m).length=l.length+m.length)/\(∀ {α:Type} (i:Nat) (l:List α),(l.take i).length=min i l.length)/\(∀ {α:Type} (i:Nat) (l:List α),(l.drop i).length=l.length-i)/\(∀ {α:Type} (a:α) (l:List α),(a::l).length=l.length+1)/\(∀ {α:Type},([]:List α).length=0)/\(∀ {α:Type} (n:Nat) (a:α),(List.replicate n a).length=n)/\(∀ {α:Type} (l:List α) (i:Nat) (a:α),(l.set i a).length=l.length)/\(∀ n:Nat,((n:Int)).toNat=n) :=
 ⟨AP,Ac,Ea,X8,EL,fun _ _=>List.length_append,fun _ _=>List.length_take,fun _ _=>List.length_drop,fun _ _=>List.length_cons,List.length_nil,fun _ _=>List.length_replicate,fun _ _ _=>List.length_set,Int.toNat_natCast⟩
theorem NO:(∀ {α:Type} (l:List α),Ak l=(l.length:Int))/\(∀ {α:Type} (l m:List α),BF l m=l++m)/\(∀ {α:Type} (n:Int) (a:α),BU n a=List.replicate n.toNat a)/\(∀ {α:Type} (l m:List α),CO l m=m.take l.length++l.drop m.length)/\(∀ {α:Type} (l:List α) (i:Int) (a:α),BB l i a=l.set i.toNat a) /\
  (∀ {α:Type} (l:List α),[]++l=l)/\(∀ {α:Type} (l:List α),l++[]=l)/\(∀ {α:Type} (a b c:List α),a++b++c=a++(b++c))/\(∀ {α:Type} (a:α) (b c:List α),a::b++c=a::(b++c)) :=
 ⟨AP,Ac,Ea,X8,EL,List.nil_append,List.append_nil,List.append_assoc,fun _ _ _=>List.cons_append⟩
theorem I9{a:UInt32}{c:Nat}(h:c<32):AY a c=a>>>UInt32.ofNat c:=by
 rw[kK];unfold u32shr0;rw[Nat.min_eq_left zaa]
 apply UInt32.toNat_inj.1
 rw[UInt32.toNat_shiftRight,UInt32.toNat_ofNat',UInt32.toNat_ofNat',Nat.shiftRight_eq_div_pow]
 have h1:c%2^32%32=c:=zaa
 rw[h1]
 have h2:a.toNat/2^c<=a.toNat:=Nat.div_le_self _ _
 have h3:=a.toNat_lt
 grind
theorem ADS:[BJ (AY (Cb (Ak l)) (UInt64.ofNat 24).toNat),BJ (AY (Cb (Ak l)) (UInt64.ofNat 16).toNat),BJ (AY (Cb (Ak l)) (UInt64.ofNat 8).toNat),BJ (Cb (Ak l))]=sS l:=by
 rw[I9 zaj,I9 zaj,I9 zaj,AP,A27,eu];rfl
theorem rf4(h:l.length<4294967296):[DX (Bi (l.length:Int) (UInt64.ofNat 24).toNat),DX (Bi (l.length:Int) (UInt64.ofNat 16).toNat),DX (Bi (l.length:Int) (UInt64.ofNat 8).toNat),DX (l.length:Int)]=sS l:=by
 rw[Ho zaj,Ho zaj,Ho zaj]
 simp only[Dq]
 exact ADJ _ h
theorem Pi(tag:Int)(ls:List (List UInt8))(i:Nat)(l:List UInt8)(h:ls[i]?=some l):Az tag (ls.take (i+1))=Az tag (ls.take i)++sS l++l:=by
 simp_all[Az,eQ]
theorem aN(tag:Int)(ls:List (List UInt8))(i:Nat):(Az tag (ls.take i)).length<=(Az tag ls).length:=by
 grind[Az,fieldsB,List.take_append_drop]
abbrev ADT:Ty:=.pair .i64 (.pair .i64 (.pair .i64 (.pair (.sl .u8) (.sl .u8))))
abbrev ADU:Ty:=.pair (.sl .u8) (.pair (.sl .u8) (.sl .u8))
abbrev objT:Ty:=.pair ADT (.pair ADU .i64)
abbrev Bf:Ty:=.pair .i64 (.pair .i64 (.pair .i64 (.pair .i64 (.pair (.sl .u8) (.pair (.sl .u8) (.pair .bool (.sl .u8)))))))
abbrev E8:Ty:=.pair (.sl .u8) .i64
abbrev sesT:Ty:=.pair .i64 (.pair (.sl .u8) (.pair (.sl .u8) (.pair .i64 (.pair .i64 (.pair .i64 (.pair .i64 .bool))))))
abbrev AB:Ty:=.pair .i64 (.pair (.sl .u8) (.sl .u8))
end Go.Ax
