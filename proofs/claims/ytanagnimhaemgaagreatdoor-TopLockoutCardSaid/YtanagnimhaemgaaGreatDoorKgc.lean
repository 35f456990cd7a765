/-
  Own texts, laid together for this claim: the rules that every walk uses, which claim nothing of any program.
-/
import Derived.Laws.BitsLemmas
import Derived.Test.YtanagnimhaemgaaGreatDoorKgb
set_option linter.all false
namespace Go.Ax
open Go Go.RowKit Go.Eng
set_option linter.unusedVariables false
set_option linter.unusedSimpArgs false
section
variable {P:Program}{I:World->Prop}{L:LX}{T:TT}{G:FT}{Q:Req->Option Rsp}{R:Type}{K:Tr->Option R}{r:R}{hk:Nat->Option Rs}{m:Nat}
theorem Vt(hT:TTok P I T)(hG:ZP P G)(hQ:QOK P I Q)(hm:∀ k R,hk k=some R->k<m){op:Op}(h:Hy T G Q (F8 L) hk m op K=some r):∃ tr,K tr=some r/\TrOK P I L hk m op tr:=by
 unfold Hy at h
 split at h
 ·exact tJ hG hQ hm h
 grind[A1x]
end
def tK:Fp->HX->HX
 | [],H=>H
 | (k,r)::F,H=>(k,some r)::tK F H
def tN:Fp->HX->HX
 | [],H=>H
 | (k,r)::F,H=>(k,none)::tN F H
def stH(t:Tr)(H:HX):HX:=bif t.rd then H else tK t.F' (tN t.F H)
theorem o5{R:Type}:∀(F:Fp) (H:HX) (K:HX->R),xe F H K=K (tK F H)
 | [],H,K=>rfl
 | (k,r)::F,H,K=>by simp only[xe,PH,o5 F,tK]
theorem o6{R:Type}:∀(F:Fp) (H:HX) (K:HX->R),xg F H K=K (tN F H)
 | [],H,K=>rfl
 | (k,r)::F,H,K=>by simp only[xg,o6 F,tN]
theorem RN{R:Type}(d:Option Nat)(t:Tr)(m:Nat)(L:LX)(H:HX)(K:Nat->LX->HX->R):IW d t m L H K=K (m+t.nn) (Ut d t.s L) (stH t H):=by
 obtain⟨s,F,F',rd,nn⟩:=t
 grind[IW,force_eq,DI,o6,o5,Ut,stH]
theorem ZQ(k:Nat):∀(F:Fp) (H:HX),hlk k (tK F H)=match EY k F with|some R=>some R|none=>hlk k H
 | [],H=>rfl
 | (d,r)::F,H=>by rw[tK,Em,Bj,ZQ k F];grind
theorem ZR(k:Nat):∀(F:Fp) (H:HX),hlk k (tN F H)=match EY k F with|some R=>none|none=>hlk k H
 | [],H=>rfl
 | (d,r)::F,H=>by rw[tN,Em,Bj,ZR k F];grind
theorem o7{t:Tr}{H:HX}(hpre:∀ k R,EY k t.F=some R->hlk k H=some R)(hrd:t.rd=true->t.F'=t.F)(k:Nat):hlk k (stH t H)=upd t.F t.F' (fun k=>hlk k H) k:=by
 unfold stH upd
 cases h:t.rd with
 | false=>simp only[cond_false,ZQ,ZR];grind
 | true =>
  grind
section
variable {P:Program}{I:World->Prop}{n:Nat}{g:Gx}{Q:PostX}{m:Nat}{L:LX}{H:HX}{ops:Array Oper}{rest:List Oper}
theorem A5m(h:(∀ k R,hlk k H=some R->k<m)->RS P I n g ops Q rest m L H):RS P I n g ops Q rest m L H:=fun a w ν S=>h (fun k R hk=>(S.res k R hk).1) a w ν S
theorem A1z{L':LX}(hL:∀ t,Iq t L'=Iq t L)(h:RS P I n g ops Q rest m L' H):RS P I n g ops Q rest m L H:=fun a w ν S=>h a w ν (S.fewer fun t s hs=>by simp_all)
theorem o8{op:Op}{ty:TypeId}{t:Tr}{K:AV->Nat->HX->Prop}(h:TrOK P I L (fun k=>hlk k H) m op t)(hm:∀ k R,hlk k H=some R->k<m)(hK:K t.s (m+t.nn) (stH t H)):OS P I n g op ty m L H K:=by
 refine A5f (h.opl ty) h.pre (fun k hk=>(h.new k hk).imp id fun e=>by omega) (fun k hk=>?_) (Nat.le_add_right _ _) (o7 h.pre h.rd) hK
 rcases h.new k hk with h1|h1
 ·obtain⟨R,h2⟩:=(DD _ _).1 h1
  have:=hm k R (h.pre k R h2);omega
 ·exact h1.2
theorem tV{d:Nat}{s:AV}(h:Iq d L=some s)(t:Nat):Iq t ((d,s)::L)=Iq t L:=by
 simp_all[FH]
end
section
variable {P:Program}{I:World->Prop}{n:Nat}{g:Gx}{T:TT}{G:FT}{Q:Req->Option Rsp}{r:Rsp}
theorem PT{n d:Nat}(h:VY n (some d)=true):d<n:=by simpa [VY] using h
theorem yM(hT:TTok P I T)(hG:ZP P G)(hQ:QOK P I Q){ops:List Oper}{Φ:PostX}{K:Nat->LX->HX->Option Rsp}(hK:∀ m L H,K m L H=some r->Φ .normal m L H)(l:List Oper):∀(m:Nat) (L:LX) (H:HX),Il T G Q n ops l m L H K=some r->RS P I n g ops.toArray Φ l m L H:=by
 induction l with
 | nil=>intro m L H h;exact A4K (hK _ _ _ h)
 | cons o l ih =>
  intro m L H h
  refine A5m fun hm=>?_
  obtain⟨dst,op,ty,pos,af,gd⟩:=o
  rw[Il] at h
  cases gd with
  | none =>
   simp only at h
   cases hd:VY n dst with
   | false=>simp_all
   | true =>
    rw[hd,cond_true] at h
    obtain⟨t,ht,ok⟩:=Vt hT hG hQ hm h
    rw[RN] at ht
    have hn:=ih _ _ _ ht
    cases dst with
    | none=>exact sx0 (o8 ok hm hn)
    | some d=>exact sx (o8 ok hm hn) (PT hd)
  | some p =>
   obtain⟨j,want⟩:=p
   simp only at h
   split at h
   ·rename_i d' hd'
    have hj:(ops.toArray[j]?).bind (·.dst)=some d':=zaB
    split at h
    ·rename_i c hc
     cases hd:(VY n dst&&Nat.blt d' n) with
     | false=>simp_all
     | true =>
      rw[hd,cond_true] at h
      rw[Bool.and_eq_true] at hd
      have hdn:d'<n:=zau
      refine A1z (L':=(d',.b c)::L) (tV hc) ?_
      have hb:Iq d' ((d',.b c)::L)=some (.b c):=by rw[FH,if_pos rfl]
      have run:c=want->Hy T G Q (F8 ((d',.b c)::L)) (fun k=>hlk k H) m op (fun t=>IW dst t m ((d',.b c)::L) H fun m L H=>Il T G Q n ops l m L H K)=some r->RS P I n g ops.toArray Φ (⟨dst,op,ty,pos,af,some (j,want)⟩::l) m ((d',.b c)::L) H:=by
       clear h
       intro e1 h9
       subst e1
       obtain⟨t,ht,ok⟩:=Vt hT hG hQ hm h9
       rw[RN] at ht
       have hn:=ih _ _ _ ht
       cases dst with
       | none=>exact A6t hj hb hdn (o8 ok hm hn)
       | some d=>exact sxY hj hb hdn (o8 ok hm hn) (PT hd.1)
      have skip:c = !want->Il T G Q n ops l m (Ut dst (AV.tup []) ((d',AV.b c)::L)) H K=some r->RS P I n g ops.toArray Φ (⟨dst,op,ty,pos,af,some (j,want)⟩::l) m ((d',.b c)::L) H:=by
       clear h run
       intro e1 h9
       have hn:=ih _ _ _ h9
       cases dst with
       | none=>exact A6u hj hb e1 hn hdn
       | some d=>exact sxN hj hb e1 hn (PT hd.1) hdn
      cases c with
      | true =>
       cases want with
       | true=>grind
       | false=>exact skip rfl (by cases dst<;>exact h)
      | false =>
       cases want with
       | true=>exact skip rfl (by cases dst<;>exact h)
       | false=>grind
    ·rename_i hc
     cases hd:(VY n dst&&Nat.blt d' n) with
     | false=>simp_all
     | true =>
      rw[hd,cond_true] at h
      rw[Bool.and_eq_true] at hd
      have hdn:d'<n:=zau
      have hn:=ih _ _ _ h
      cases dst with
      | none=>exact A6v hj hc hn hdn
      | some d=>exact sxU hj hc hn (PT hd.1) hdn
    ·cases h
   ·cases h
end
end Go.Ax
namespace Go.Ax
variable {t:Tr}{k:Nat}
noncomputable section
open Go Go.RowKit Go.Eng
set_option linter.unusedVariables false
set_option linter.unusedSimpArgs false
theorem ZT{lk:List Nat}{t:Nat}{s:AV}:∀ {L:LX},Iq t (bF lk L)=some s->Nr t lk=true/\Iq t L=some s
 | [],h=>zaF
 | (d,v)::L,h=>by
  simp only[bF] at h
  rw[FH]
  cases hm:Nr d lk with
  | false =>
   rw[hm] at h
   obtain⟨h1,h2⟩:=ZT (L:=L) h
   grind
  | true =>
   rw[hm] at h
   simp only[cond_true] at h
   rw[FH] at h
   by_cases e:t=d
   ·simp_all
   ·rw[if_neg e] at h ⊢;exact ZT (L:=L) h
def Obl(P:Program)(I:World->Prop)(ops:Array Oper)(o:Oper)(L:LX)(t:Tr):Prop:=match o.guard with
 | none=>OPL P I (bF (o.looksAt ops) L) t.F o.op o.type t.s t.F'
 | some (j,want)=>∃ d v,EL ops j=some d/\Iq d L=some v/\((v=.b want/\OPL P I (bF (o.looksAt ops) L) t.F o.op o.type t.s t.F')\/((v=.b (!want)\/v=.tup [])/\t.F=[]/\t.F'=[]/\t.s=.tup []))
abbrev bf(t:Tr)(H:HX):HX:=stH t H
abbrev o9(d:Option Nat)(s:AV)(L:LX):LX:=Ut d s L
def stepM(t:Tr)(m:Nat):Nat:=m+t.nn
structure StepOK (P:Program) (I:World->Prop) (ops:Array Oper) (o:Oper) (t:Tr) (m:Nat) (L:LX) (H:HX):Prop where
 obl:Obl P I ops o L t
 pre:∀ k R,EY k t.F=some R->hlk k H=some R
 new:∀ k,has k t.F'->has k t.F\/(m<=k/\k<m+t.nn)
 rd:t.rd=true->t.F'=t.F
def DRX(P:Program)(I:World->Prop)(ops:Array Oper)(fin:List Tr->Nat->LX->HX->Prop):List Oper->List Tr->Nat->LX->HX->Prop
 | [],tr,m,L,H=>fin tr m L H
 | o::r,tr,m,L,H=>∃ t,StepOK P I ops o t m L H/\DRX P I ops fin r (tr++[t]) (stepM t m) (o9 o.dst t.s L) (bf t H)
def wr(t:Tr)(k:Nat):Option (Option Rs):=bif t.rd then none else match EY k t.F' with
 | some R=>some (some R)
 | none=>(match EY k t.F with|some _=>some none|none=>none)
def touches(t:Tr)(k:Nat):Bool:=(EY k t.F).isSome||(EY k t.F').isSome
def TE(D:Nat->Bool)(ops:Array Oper)(T:List Tr)(t:Nat)(v:Option AV):Nat->Option AV
 | 0=>v
 | n+1=>bif D n then(match EL ops n,T[n]? with
  | some d,some tr=>if d=t then some tr.s else TE D ops T t v n
  | _,_=>TE D ops T t v n) else TE D ops T t v n
def hvn(D:Nat->Bool)(T:List Tr)(k:Nat)(v:Option Rs):Nat->Option Rs
 | 0=>v
 | n+1=>bif D n then(match(T[n]?).bind (wr · k) with|some x=>x|none=>hvn D T k v n) else hvn D T k v n
def OM(T:List Tr)(m:Nat):Nat->Nat
 | 0=>m
 | n+1=>match T[n]? with|some t=>stepM t (OM T m n)|none=>OM T m n
theorem yN(t:Tr)(H:HX)(k:Nat):hlk k (bf t H)=match wr t k with|some x=>x|none=>hlk k H:=by
 unfold bf stH wr
 cases t.rd
 ·simp only[cond_false,ZQ,ZR]
  grind
 ·rfl
theorem A4R(t:Tr)(hk:Nat->Option Rs)(k:Nat)(hr:t.rd=false):upd t.F t.F' hk k=match wr t k with|some x=>x|none=>hk k:=by
 unfold upd wr
 grind
theorem La{x:Option Rs}(h:wr t k=some x):touches t k=true/\t.rd=false:=by
 unfold wr at h
 cases hr:t.rd with
 | true=>simp_all
 | false =>
  rw[hr] at h
  simp only[cond_false] at h
  refine⟨?_,rfl⟩
  grind[touches]
theorem A20{R:Rs}(h:wr t k=some (some R)):has k t.F':=by
 unfold wr at h
 cases hr:t.rd with
 | true=>simp_all
 | false =>
  rw[hr] at h
  simp only[cond_false] at h
  grind[has]
theorem PU{D D':Nat->Bool}{T:List Tr}{k:Nat}{v:Option Rs}:∀ {n:Nat},(∀ i,i<n->∀ t x,T[i]?=some t->wr t k=some x->D i=D' i)->hvn D T k v n=hvn D' T k v n
 | 0,_=>rfl
 | n+1,h=>by
  have ih:=PU (D:=D) (D':=D') (T:=T) (k:=k) (v:=v) (n:=n) fun i hi=>h i zaa
  grind[hvn]
theorem RP{D:Nat->Bool}{T:List Tr}{k:Nat}{v:Option Rs}{j:Nat}:∀ {n:Nat},j<=n->(∀ i,j<=i->i<n->∀ t x,T[i]?=some t->wr t k=some x->D i=false)->hvn D T k v n=hvn D T k v j
 | 0,hj,_=>zau
 | n+1,hj,h=>by
  by_cases e:j=n+1
  ·rw[e]
  ·rw[<-RP (n:=n) zaa fun i hi hi'=>h i hi zaa]
   grind[hvn]
theorem PV{D D':Nat->Bool}{ops:Array Oper}{T:List Tr}{t:Nat}{v:Option AV}:∀ {n:Nat},(∀ i,i<n->EL ops i=some t->D i=D' i)->TE D ops T t v n=TE D' ops T t v n
 | 0,_=>rfl
 | n+1,h=>by
  have ih:=PV (D:=D) (D':=D') (ops:=ops) (T:=T) (t:=t) (v:=v) (n:=n) fun i hi=>h i zaa
  simp only[TE]
  grind
theorem RQ{D:Nat->Bool}{ops:Array Oper}{T:List Tr}{t:Nat}{v:Option AV}{j:Nat}:∀ {n:Nat},j<=n->(∀ i,j<=i->i<n->EL ops i=some t->D i=false)->TE D ops T t v n=TE D ops T t v j
 | 0,hj,_=>zau
 | n+1,hj,h=>by
  by_cases e:j=n+1
  ·rw[e]
  ·rw[<-RQ (n:=n) zaa fun i hi hi'=>h i hi zaa]
   simp only[TE]
   grind
def keysOf(F:Fp):List Nat:=F.map (·.1)
theorem bg{F:Fp}(h:has k F):k∈keysOf F:=by
 induction F with
 | nil=>simp[has] at h
 | cons p F ih =>
  obtain⟨d,v⟩:=p
  unfold has at h
  rw[Bj] at h
  by_cases e:k=d
  ·simp[keysOf,e]
  ·rw[if_neg e] at h;exact List.mem_cons_of_mem _ (ih h)
def UW(ops:Array Oper)(i j:Nat)(ti tj:Tr):Bool :=
 (match EL ops i,ops[j]? with|some d,some o=>(o.looksAt ops).contains d|_,_=>false) ||
 (match EL ops j,ops[i]? with|some d,some o=>(o.looksAt ops).contains d|_,_=>false) ||
 (bif ti.rd&&tj.rd then false else(keysOf ti.F++keysOf ti.F').any fun k=>touches tj k)
def drawChk0(n:Nat)(ops:Array Oper)(T:List Tr):Bool :=
 let ms:=masks ops.toList []
 (Nat.beq T.length ops.size&&allB ops.size fun j=>match ops[j]? with
  | none=>false
  | some o=>o.after.toList.all (fun e => !Region.binds .any e||Nat.blt e.on j)&&(match o.dst with|some d=>Nat.blt d n|none=>true)&&(match o.op with|.select .. => false|_=>true)) &&
 allB ops.size fun j=>allB j fun i=>(match EL ops i,EL ops j with|some d,some d' => !Nat.beq d d'|_,_=>true)&&(match T[i]?,T[j]? with
  | some ti,some tj => !UW ops i j ti tj||rO ms j i
  | _,_=>false)
structure Chk (n:Nat) (ops:Array Oper) (T:List Tr):Prop where
 len:T.length=ops.size
 edge:∀(j:Nat) (o:Oper),ops[j]?=some o->∀ e∈o.after,Region.binds .any e=true->e.on<j
 dstn:∀(j:Nat) (o:Oper) (d:Nat),ops[j]?=some o->o.dst=some d->d<n
 sel:∀(j:Nat) (o:Oper),ops[j]?=some o->∀ cs b,o.op≠.select cs b
 uniq:∀ i j d:Nat,i<j->j<ops.size->EL ops i=some d->EL ops j≠some d
 conf:∀(i j:Nat) (ti tj:Tr),i<j->j<ops.size->T[i]?=some ti->T[j]?=some tj->UW ops i j ti tj=true->Anc ops j i
theorem ZU{n:Nat}{ops:Array Oper}{T:List Tr}(h:drawChk0 n ops T=true):Chk n ops T:=by
 simp only[drawChk0,Bool.and_eq_true] at h
 obtain⟨⟨hl,h1⟩,h2⟩:=h
 have h1:=Ia h1
 have h2:=Ia h2
 have hlt:∀ j (o:Oper),ops[j]?=some o->j<ops.size:=fun j o ho=>(Array.getElem?_eq_some_iff.1 ho).1
 have edge:∀ j (o:Oper),ops[j]?=some o->∀ e∈o.after,Region.binds .any e=true->e.on<j:=by
  intro j o ho e he hbd
  have:=h1 j (hlt j o ho)
  rw[ho] at this
  simp only[Bool.and_eq_true,List.all_eq_true] at this
  have h3:=this.1.1 e (Array.mem_toList_iff.2 he)
  simp_all
 have hm:Yv ops (masks ops.toList []):=aQ ops _ _ zan edge (fun j i hj=>by simp at hj)
 have hml:(masks ops.toList []).length=ops.size:=by
  have:∀(l:List Oper) acc,(masks l acc).length=l.length+acc.length:=by
   intro l
   induction l with
   | nil|cons o r ih=>grind[masks]
  grind
 have hanc:∀ j i,j<ops.size->rO (masks ops.toList []) j i=true->Anc ops j i:=fun j i hj hb=>hm j i zaa hb
 refine⟨by simpa using hl,edge,?_,?_,?_,?_⟩
 ·intro j o d ho hd
  have:=h1 j (hlt j o ho)
  rw[ho] at this
  simp_all
 ·grind
 ·intro i j d hij hj hdi hdj
  have:=Ia (h2 j hj) i hij
  simp_all
 ·intro i j ti tj hij hj hti htj hc
  have:=Ia (h2 j hj) i hij
  simp_all
structure Steps (P:Program) (I:World->Prop) (ops:Array Oper) (T:List Tr) (m0:Nat) (L0:LX) (H0:HX):Prop where
 at':∀(j:Nat) (o:Oper),ops[j]?=some o->∃ t m L H,T[j]?=some t/\StepOK P I ops o t m L H/\m=OM T m0 j/\(∀ x,Iq x L=TE (fun _=>true) ops T x (Iq x L0) j)/\(∀ k,hlk k H=hvn (fun _=>true) T k (hlk k H0) j)
theorem ZV{D:Nat->Bool}{ops:Array Oper}{T T':List Tr}{t:Nat}{v:Option AV}:∀ {n:Nat},n<=T.length->TE D ops (T++T') t v n=TE D ops T t v n
 | 0,_=>rfl
 | n+1,h=>by simp only[TE,ZV (n:=n) (show n<=T.length by omega),List.getElem?_append_left (show n<T.length by omega)]
theorem ZW{D:Nat->Bool}{T T':List Tr}{k:Nat}{v:Option Rs}:∀ {n:Nat},n<=T.length->hvn D (T++T') k v n=hvn D T k v n
 | 0,_=>rfl
 | n+1,h=>by simp only[hvn,ZW (n:=n) (show n<=T.length by omega),List.getElem?_append_left (show n<T.length by omega)]
theorem ZX{T T':List Tr}{m:Nat}:∀ {n:Nat},n<=T.length->OM (T++T') m n=OM T m n
 | 0,_=>rfl
 | n+1,h=>by simp only[OM,ZX (n:=n) (show n<=T.length by omega),List.getElem?_append_left (show n<T.length by omega)]
theorem DRX.steps{P:Program}{I:World->Prop}{ops:Array Oper}{fin:List Tr->Nat->LX->HX->Prop}{m0:Nat}{L0:LX}{H0:HX}:∀(l:List Oper) (tr:List Tr) (m:Nat) (L:LX) (H:HX),DRX P I ops fin l tr m L H->(∀ i,i<l.length->l[i]?=ops[tr.length+i]?) ->
  m=OM tr m0 tr.length->(∀ x,Iq x L=TE (fun _=>true) ops tr x (Iq x L0) tr.length)->(∀ k,hlk k H=hvn (fun _=>true) tr k (hlk k H0) tr.length) ->
  ∃ T m' L' H',T.length=tr.length+l.length/\(∀ i,i<tr.length->T[i]?=tr[i]?)/\fin T m' L' H'/\m'=OM T m0 T.length/\(∀ x,Iq x L'=TE (fun _=>true) ops T x (Iq x L0) T.length)/\(∀ k,hlk k H'=hvn (fun _=>true) T k (hlk k H0) T.length) /\
   ∀(j:Nat) (o:Oper),tr.length<=j->j<T.length->ops[j]?=some o->∃ t m L H,T[j]?=some t/\StepOK P I ops o t m L H/\m=OM T m0 j/\(∀ x,Iq x L=TE (fun _=>true) ops T x (Iq x L0) j)/\(∀ k,hlk k H=hvn (fun _=>true) T k (hlk k H0) j)
 | [],tr,m,L,H,h,_,hm,hL,hH=>⟨tr,m,L,H,by simp,fun _ _=>rfl,h,hm,hL,hH,fun j o h1 h2=>by omega⟩
 | o::r,tr,m,L,H,h,hl,hm,hL,hH=>by
  obtain⟨t,hs,hr⟩:=h
  have ho:ops[tr.length]?=some o:=by have:=hl 0 zan;simp_all
  have hlast:(tr++[t])[tr.length]?=some t:=zan
  obtain⟨T,m',L',H',g1,g2,g3,g4,g5,g6,g7⟩:=DRX.steps (m0:=m0) (L0:=L0) (H0:=H0) r (tr++[t]) _ _ _ hr (fun i hi=>by
    have:=hl (i+1) zar
    grind) (by
    simp_all[OM,ZX]) (fun x=>by
    rw[show(tr++[t]).length=tr.length+1 from by simp]
    simp only[TE,hlast,ZV (Nat.le_refl _),cond_true,EL,ho,Option.bind_some]
    unfold o9
    cases o.dst with
    | none=>exact hL x
    | some d =>
     simp only[Ut,FH]
     grind) (fun k=>by
    simp_all[hvn,ZW,yN])
  have hT:∀ i,i<=tr.length->T[i]?=(tr++[t])[i]?:=fun i hi=>g2 i zar
  have hpre:∃ T2,T=(tr++[t])++T2:=⟨T.drop (tr.length+1),by
   apply List.ext_getElem?
   intro i
   rcases Nat.lt_or_ge i (tr.length+1) with hi|hi
   ·grind
   ·rw[List.getElem?_append_right zar,List.getElem?_drop];simp_all⟩
  obtain⟨T2,rfl⟩:=hpre
  refine⟨_,m',L',H',by grind,fun i hi=>by grind,g3,g4,g5,g6,fun j o' h1 h2 ho'=>?_⟩
  rcases Nat.lt_or_ge j (tr++[t]).length with hj|hj
  ·have hj':j=tr.length:=zaB
   subst hj'
   rw[ho] at ho';obtain rfl:=Option.some.inj ho'
   have hle:tr.length<=(tr++[t]).length:=zan
   exact⟨t,m,L,H,by simp_all,hs,by simp_all[ZX],fun x=>by simp_all[ZV],fun k=>by simp_all[ZW]⟩
  ·exact g7 j o' hj h2 ho'
section
variable {P:Program}{I:World->Prop}{n:Nat}{g:Gx}{ops:Array Oper}{T:List Tr}{m0:Nat}{L0:LX}{H0:HX}
theorem yO(t:Tr)(m:Nat):m<=stepM t m:=Nat.le_add_right _ _
theorem KJ {j : Nat} : ∀ {i : Nat}, j <= i -> OM T m0 j <= OM T m0 i
  | 0, h => by have : j = 0 := by omega
               rw [this]; exact Nat.le_refl _
  | i + 1, h => by
    by_cases e : j = i + 1
    · rw [e]; exact Nat.le_refl _
    · refine Nat.le_trans (KJ (i := i) zaa) ?_
      simp only [OM]
      split
      · exact yO _ _
      · exact Nat.le_refl _
theorem Steps.names(St:Steps P I ops T m0 L0 H0)(hT:T.length=ops.size)(h0:∀ k R,hlk k H0=some R->k<m0):∀(j:Nat),j<=ops.size->∀ k R,hvn (fun _=>true) T k (hlk k H0) j=some R->k<OM T m0 j
 | 0,_,k,R,h=>h0 k R h
 | j+1,hj,k,R,h=>by
  obtain⟨t,m,L,H,h1,h2,h3,h4,h5⟩:=St.at' j ops[j] (Array.getElem?_eq_getElem zaa)
  simp only[hvn,h1,Option.bind_some,cond_true] at h
  have hle:OM T m0 j<=OM T m0 (j+1):=KJ zaa
  cases hw:wr t k with
  | none=>rw[hw] at h;exact Nat.lt_of_lt_of_le (St.names hT h0 j zaa k R h) hle
  | some x =>
   rw[hw] at h
   simp only at h
   subst h
   rcases h2.new k (A20 hw) with hF|hF
   ·obtain⟨R0,hF⟩:=(DD _ _).1 hF
    have:=h2.pre k R0 hF
    rw[h5] at this
    exact Nat.lt_of_lt_of_le (St.names hT h0 j zaa k R0 this) hle
   simp_all[OM,stepM]
def NDr(T:List Tr)(m0:Nat)(D:Nat->Bool)(k:Nat):Prop:=k<m0\/∃ i t,D i=true/\T[i]?=some t/\has k t.F'
structure InvX (P:Program) (I:World->Prop) (n:Nat) (g:Gx) (ops:Array Oper) (T:List Tr) (m0:Nat) (L0:LX) (H0:HX) (listed:Array Bool) (a:Act) (w:World):Prop where
 len:listed.size=ops.size
 closed:∀ j (o:Oper),ops[j]?=some o->Ej listed j->∀ e∈o.after,Region.binds .any e=true->Ej listed e.on
 sat:∃ ν,Sat I n g (NDr T m0 (listed.getD · false)) (fun t=>TE (listed.getD · false) ops T t (Iq t L0) ops.size) (fun k=>hvn (listed.getD · false) T k (hlk k H0) ops.size) a w ν
theorem tX(C:Chk n ops T)(St:Steps P I ops T m0 L0 H0)(h0:∀ k R,hlk k H0=some R->k<m0){Q:Exit->Act->World->Prop}
  (hfin:∀ a w ν,Sat I n g (· < OM T m0 ops.size) (fun t=>TE (fun _=>true) ops T t (Iq t L0) ops.size) (fun k=>hvn (fun _=>true) T k (hlk k H0) ops.size) a w ν->Q .normal a w) :
  ∀(fuel:Nat) (listed:Array Bool) (a:Act) (w:World),InvX P I n g ops T m0 L0 H0 listed a w->wC listed ops.size=fuel->wpAny P .any ops Q fuel listed a w:=by
 have hTget:∀ i,i<ops.size->∃ t,T[i]?=some t:=fun i hi=>⟨T[i]'(by rw[C.len];exact hi),List.getElem?_eq_getElem _⟩
 have hTlt:∀ i t,T[i]?=some t->i<ops.size:=fun i t h=>by rw[<-C.len];grind
 intro fuel
 induction fuel with
 | zero =>
  intro listed a w hI hf
  have hall:=VN.1 hf
  have hr:Region.ready .any ops listed=[]:=by
   cases hr:Region.ready .any ops listed with
   | nil=>rfl
   | cons i r =>
    obtain⟨h0',o,ho,_⟩:=mem_ready.1 (show i∈Region.ready .any ops listed by rw[hr];simp)
    grind[Ej]
  refine⟨hr,?_⟩
  obtain⟨ν,S⟩:=hI.sat
  refine hfin a w ν ?_
  have e1:(fun t=>TE (listed.getD · false) ops T t (Iq t L0) ops.size)=fun t=>TE (fun _=>true) ops T t (Iq t L0) ops.size:=funext fun t=>PV fun i hi _=>hall i hi
  have e2:(fun k=>hvn (listed.getD · false) T k (hlk k H0) ops.size)=fun k=>hvn (fun _=>true) T k (hlk k H0) ops.size:=funext fun k=>PU fun i hi _ _ _ _=>hall i hi
  rw[<-e1,<-e2]
  refine S.moreN fun k hk=>?_
  rcases hk with h|⟨i,t,hi,ht,hF'⟩
  ·exact Nat.lt_of_lt_of_le h (KJ (j:=0) (Nat.zero_le _))
  ·have hilt:=hTlt i t ht
   obtain⟨t',m,L,H,h1,h2,h3,h4,h5⟩:=St.at' i ops[i] (Array.getElem?_eq_getElem hilt)
   rw[ht] at h1;obtain rfl:=Option.some.inj h1
   have hle:OM T m0 (i+1)<=OM T m0 ops.size:=KJ zaa
   rcases h2.new k hF' with hF|hF
   ·obtain⟨R0,hF⟩:=(DD _ _).1 hF
    have:=h2.pre k R0 hF
    rw[h5] at this
    exact Nat.lt_of_lt_of_le (St.names C.len h0 i zaa k R0 this) (KJ zaa)
   ·have e:OM T m0 (i+1)=stepM t (OM T m0 i):=by grind[OM]
    show k<OM T m0 ops.size
    have e2:stepM t (OM T m0 i)=OM T m0 i+t.nn:=rfl
    omega
 | succ fuel ih =>
  intro listed a w hI hf
  have hunl:∀ i,i<ops.size->(listed.getD i true=false↔¬Ej listed i):=by
   intro i hi
   have:=hI.len
   simp_all[Ej]
  refine⟨fun hr0=>?_,fun j hj=>?_⟩
  ·exfalso
   have hex:∃ i,i<ops.size/\¬Ej listed i:=by
    rcases Classical.em (∃ i,i<ops.size/\¬Ej listed i) with h|h
    ·exact h
    ·have:=VN.2 fun i hi=>Classical.byContradiction fun hn=>h ⟨i,hi,hn⟩
     omega
   obtain⟨i,⟨hik,hin⟩,hmin⟩:=exists_least (p:=fun i=>i<ops.size/\¬Ej listed i) hex
   have ho:ops[i]?=some ops[i]:=Array.getElem?_eq_getElem hik
   have:i∈Region.ready .any ops listed:=by
    rw[mem_ready]
    refine⟨(hunl i hik).2 hin,_,ho,fun e he hb=>?_⟩
    have hlt:=C.edge i _ ho e he hb
    grind
   simp_all
  ·obtain⟨h0',o,ho,hedge⟩:=mem_ready.1 hj
   have hjlt:=(Array.getElem?_eq_some_iff.1 ho).1
   have hjn:¬Ej listed j:=(hunl j hjlt).1 h0'
   have hDj:listed.getD j false=false:=zaB
   have hrd:∀ o',ops[j]?=some o'->∀ e∈o'.after,Region.binds .any e=true->Ej listed e.on:=fun o' ho' e he hb=>by
    rw[ho] at ho';obtain rfl:=Option.some.inj ho';exact hedge e he hb
   obtain⟨t,m,L,H,hTj,hst,hm,hL,hH⟩:=St.at' j o ho
   obtain⟨ν,S⟩:=hI.sat
   -- what is forced
   have before:∀ i ti,i<j->T[i]?=some ti->UW ops i j ti t=true->listed.getD i false=true:=fun i ti hi hti hc=>(C.conf i j ti t hi hjlt hti hTj hc).ready hI.closed hrd
   have after:∀ i ti,j<i->T[i]?=some ti->UW ops j i t ti=true->listed.getD i false=false:=fun i ti hi hti hc=>by
    cases hb:listed.getD i false with
    | false=>rfl
    | true=>exact absurd ((C.conf j i t ti hi (hTlt i ti hti) hTj hti hc).listed hI.closed hb) hjn
   have slotB:∀ i d,i<j->EL ops i=some d->(o.looksAt ops).contains d=true->listed.getD i false=true:=fun i d hi hd hc=>by
    grind[UW]
   have slotA:∀ i d,j<i->EL ops i=some d->(o.looksAt ops).contains d=true->listed.getD i false=false:=fun i d hi hd hc=>by
    grind[EL,UW]
   have keyin:∀(q:Tr) k,touches q k=true->k∈keysOf q.F++keysOf q.F':=fun q k h=>by
    unfold touches at h
    rw[Bool.or_eq_true] at h
    exact List.mem_append.2 (h.imp bg bg)
   have cf:∀(i1 i2:Nat) (t1 t2:Tr) (k:Nat),touches t1 k=true->touches t2 k=true->(t1.rd=false\/t2.rd=false)->UW ops i1 i2 t1 t2=true:=fun i1 i2 t1 t2 k h1 h2 h3=>by
    unfold UW
    grind
   have resB:∀ i ti k x,i<j->T[i]?=some ti->wr ti k=some x->touches t k=true->listed.getD i false=true:=fun i ti k x hi hti hw hk =>
    before i ti hi hti (cf i j ti t k (La hw).1 hk (.inl (La hw).2))
   have resA:∀ i ti k x,j<i->T[i]?=some ti->wr ti k=some x->touches t k=true->listed.getD i false=false:=fun i ti k x hi hti hw hk =>
    after i ti hi hti (cf j i t ti k hk (La hw).1 (.inr (La hw).2))
   -- what is looked at
   have hlook:∀ x s,Nr x (o.looksAt ops)=true->Iq x L=some s->Rep ⟨NDr T m0 (listed.getD · false),ν,Ed g.Oa (fun k=>hvn (listed.getD · false) T k (hlk k H0) ops.size) ν,w⟩ s (a.tmps.getD x undef):=fun x s hx hs=>by
    have hc:(o.looksAt ops).contains x=true:=by grind[LW]
    refine S.slots x s ?_
    show TE (listed.getD · false) ops T x (Iq x L0) ops.size=some s
    rw[RQ (j:=j) zaa (fun i hi _ hd=>by
     grind),PV (D':=fun _=>true) (fun i hi hd=>slotB i x hi hd hc),<-hL]
    exact hs
   have hval:TL ⟨NDr T m0 (listed.getD · false),ν,Ed g.Oa (fun k=>hvn (listed.getD · false) T k (hlk k H0) ops.size) ν,w⟩ (bF (o.looksAt ops) L) a.eval:=by
    intro x s hx
    cases x with
    | tmp q=>obtain⟨h1,h2⟩:=ZT hx;exact hlook q s h1 h2
    | const c=>simp only[F8,Option.some.injEq] at hx;subst hx;exact AV.of_rep _ c
    | global g=>simp only[F8,Option.some.injEq] at hx;subst hx;simp only[Rep];rfl
    | func g=>simp only[F8,Option.some.injEq] at hx;subst hx;simp only[Rep,AO];exact⟨[],[],rfl,rfl,rfl⟩
   have hpre:∀ k R,EY k t.F=some R->hvn (listed.getD · false) T k (hlk k H0) ops.size=some R:=fun k R hF=>by
    have htk:touches t k=true:=by simp[touches,hF]
    rw[RP (j:=j) zaa (fun i hi _ ti x hti hw=>by
     grind),PU (D':=fun _=>true) (fun i hi ti x hti hw=>resB i ti k x hi hti hw htk),<-hH]
    exact hst.pre k R hF
   have hnew:∀ k,has k t.F'->has k t.F\/¬NDr T m0 (listed.getD · false) k:=fun k hF'=>by
    have htk:touches t k=true:=by grind[has,touches]
    rcases hst.new k hF' with h|h
    ·exact .inl h
    ·by_cases hF:has k t.F
     ·exact .inl hF
     ·right
      have hrdj:t.rd=false:=by
       cases hr:t.rd with
       | false=>rfl
       | true=>exact absurd (by rw[<-hst.rd hr];exact hF') hF
      have ej:OM T m0 (j+1)=OM T m0 j+t.nn:=by grind[OM,stepM]
      rintro(hlt|⟨i,ti,hDi,hti,hFi⟩)
      ·have:m0<=OM T m0 j:=KJ (j:=0) (Nat.zero_le _)
       omega
      ·have hDi:listed.getD i false=true:=hDi
       have hij:i≠j:=fun e=>zaB
       have htik:touches ti k=true:=by grind[has,touches]
       have hilt:=hTlt i ti hti
       obtain⟨t',m',L',H',g1,g2,g3,g4,g5⟩:=St.at' i ops[i] (Array.getElem?_eq_getElem hilt)
       rw[hti] at g1;obtain rfl:=Option.some.inj g1
       rcases Nat.lt_or_gt_of_ne hij with hlt|hgt
       ·rcases g2.new k hFi with hFi2|hFi2
        ·obtain⟨R0,hq⟩:=(DD _ _).1 hFi2
         have:=g2.pre k R0 hq
         rw[g5] at this
         have:=St.names C.len h0 i zaa k R0 this
         have hmm:OM T m0 i<=OM T m0 j:=KJ zaa
         omega
        ·have ei:OM T m0 (i+1)=OM T m0 i+ti.nn:=by grind[OM,stepM]
         have hmm:OM T m0 (i+1)<=OM T m0 j:=KJ zaa
         omega
       grind
   -- what follows
   have hls:∀ i,Ej (listed.setIfInBounds j true) i↔i=j\/Ej listed i:=fun i=>VL zaB
   have hD':∀ i,i≠j->(listed.setIfInBounds j true).getD i false=listed.getD i false:=fun i hi=>getD_set_ne false (fun e=>hi e.symm)
   have hD'j:(listed.setIfInBounds j true).getD j false=true:=by have:=hI.len;simp[show j<listed.size by omega]
   have hlen':(listed.setIfInBounds j true).size=ops.size:=by simp[hI.len]
   have hcl':∀ i (o:Oper),ops[i]?=some o->Ej (listed.setIfInBounds j true) i->∀ e∈o.after,Region.binds .any e=true->Ej (listed.setIfInBounds j true) e.on:=fun i o' ho' h e he hb=>(hls _).2 (by
    rcases(hls i).1 h with rfl|h
    ·grind
    ·exact .inr (hI.closed i o' ho' h e he hb))
   have hunl':wC (listed.setIfInBounds j true) ops.size=fuel:=by grind[nN]
   have hN:∀ k,NDr T m0 ((listed.setIfInBounds j true).getD · false) k↔NDr T m0 (listed.getD · false) k\/has k t.F':=fun k=>by
    constructor
    ·rintro(h|⟨i,ti,h1,h2,h3⟩)
     ·exact .inl (.inl h)
     ·by_cases e:i=j
      ·grind
      ·have h1:(listed.setIfInBounds j true).getD i false=true:=h1
       rw[hD' i e] at h1;exact .inl (.inr ⟨i,ti,h1,h2,h3⟩)
    ·rintro((h|⟨i,ti,h1,h2,h3⟩)|h)
     ·exact .inl h
     ·have h1:listed.getD i false=true:=h1
      by_cases e:i=j
      ·grind
      ·exact .inr ⟨i,ti,by grind,h2,h3⟩
     ·exact .inr ⟨j,t,hD'j,hTj,h⟩
   have hkq:∀ k,hvn ((listed.setIfInBounds j true).getD · false) T k (hlk k H0) ops.size=upd t.F t.F' (fun k=>hvn (listed.getD · false) T k (hlk k H0) ops.size) k:=fun k=>by
    have same:wr t k=none->hvn ((listed.setIfInBounds j true).getD · false) T k (hlk k H0) ops.size=hvn (listed.getD · false) T k (hlk k H0) ops.size:=fun hw=>PU fun i _ ti x hti hwi=>by
     grind
    cases hr:t.rd with
    | true =>
     have hw:wr t k=none:=by grind[wr]
     rw[same hw]
     have hFF:=hst.rd hr
     grind[upd]
    | false =>
     rw[A4R t _ k hr]
     cases hw:wr t k with
     | none=>exact same hw
     | some x =>
      have htk:=(La hw).1
      rw[RP (j:=j+1) zaa (fun i hi _ ti x hti hwi=>by
       grind)]
      simp only[hvn,hTj,Option.bind_some,hw,hD'j,cond_true]
   have hlq:∀ x,TE ((listed.setIfInBounds j true).getD · false) ops T x (Iq x L0) ops.size=if o.dst=some x then some t.s else TE (listed.getD · false) ops T x (Iq x L0) ops.size:=fun x=>by
    have hdj:EL ops j=o.dst:=by simp[EL,ho]
    by_cases e:o.dst=some x
    ·rw[if_pos e,RQ (j:=j+1) zaa (fun i hi hi2 hd=>absurd hd (C.uniq j i x zaa hi2 zaB))]
     simp only[TE,hdj,e,hTj,hD'j,cond_true,if_true]
    ·rw[if_neg e]
     grind[PV]
   have next:∀(v:Value) (w':World) (ν':Nat->Value),Ok ⟨NDr T m0 (listed.getD · false),ν,Ed g.Oa (fun k=>hvn (listed.getD · false) T k (hlk k H0) ops.size) ν,w⟩ t.F t.F' t.s v w' ν'->wpAny P .any ops Q fuel (listed.setIfInBounds j true) (a.put o.dst v) w':=by
    intro v w' ν' ok
    obtain⟨S',hr⟩:=S.step (N':=NDr T m0 ((listed.setIfInBounds j true).getD · false)) (hk':=fun k=>hvn ((listed.setIfInBounds j true).getD · false) T k (hlk k H0) ops.size) hpre ok hN hkq
    refine ih _ _ _ ⟨hlen',hcl',ν',?_⟩ hunl'
    cases hd:o.dst with
    | none =>
     have e1:(fun x=>TE ((listed.setIfInBounds j true).getD · false) ops T x (Iq x L0) ops.size)=fun x=>TE (listed.getD · false) ops T x (Iq x L0) ops.size:=funext fun x=>zaB
     rw[e1]
     exact S'
    | some d =>
     exact S'.put (C.dstn j o d ho hd) hr fun x=>by
      grind
   unfold wpOp
   rw[ho]
   show if _ then _ else _
   have hobl:=hst.obl
   unfold Obl at hobl
   cases hg:o.guard with
   | none =>
    rw[hg] at hobl
    rw[if_pos (by simp[Region.wanted,hg])]
    refine .inl (H9 (GX (hobl _ a.eval (S.good) hval ⟨fun k R hF=>?_,fun k k' R R' b h h'=>S.dist k k' R R' b (hpre k R h) (hpre k' R' h'),hnew⟩) ?_))
    ·obtain⟨r0,r1,r2⟩:=S.res k R (hpre k R hF)
     exact⟨r0,r1,fun b hb=>.inr ⟨k,R,hpre k R hF,hb⟩⟩
    grind
   | some p =>
    obtain⟨gi,want⟩:=p
    rw[hg] at hobl
    obtain⟨d',vd,hd',hb,hcase⟩:=hobl
    have hlkd:Nr d' (o.looksAt ops)=true:=by
     refine LW.2 (List.mem_append_right _ ?_)
     have:(ops[gi]?).bind (·.dst)=some d':=hd'
     grind
    have hvb:=hlook d' _ hlkd hb
    have hgl:∃ og,ops[gi]?=some og/\og.dst=some d':=by
     have:(ops[gi]?).bind (·.dst)=some d':=hd'
     cases hog:ops[gi]? with
     | none|some og=>grind
    obtain⟨og,hog,hogd⟩:=hgl
    have hdn':=C.dstn gi og d' hog hogd
    have hyb:∀ b,vd=.b b->yielded ops a.tmps gi=some b:=by
     rintro b rfl
     simp only[Rep] at hvb
     simp only[yielded,hog,Option.bind_some,hogd]
     rw[Array.getD_eq_getD_getElem?] at hvb
     have hlt:d'<a.tmps.size:=by rw[S.size];exact hdn'
     grind
    have hyu:vd=.tup []->yielded ops a.tmps gi=none:=by
     rintro rfl
     simp only[Rep,AO] at hvb
     obtain⟨us,hvb,rfl⟩:=hvb
     simp only[yielded,hog,Option.bind_some,hogd]
     rw[Array.getD_eq_getD_getElem?] at hvb
     grind
    rcases hcase with⟨hv,hy⟩|⟨hv,e1,e2,e3⟩
    ·rw[if_pos (by grind[Region.wanted])]
     refine .inl (H9 (GX (hy _ a.eval (S.good) hval ⟨fun k R hF=>?_,fun k k' R R' b h h'=>S.dist k k' R R' b (hpre k R h) (hpre k' R' h'),hnew⟩) ?_))
     ·obtain⟨r0,r1,r2⟩:=S.res k R (hpre k R hF)
      exact⟨r0,r1,fun b hb=>.inr ⟨k,R,hpre k R hF,hb⟩⟩
     grind
    ·rw[if_neg (by
      grind[Region.wanted])]
     have:=Ok.pure (c:=⟨NDr T m0 (listed.getD · false),ν,Ed g.Oa (fun k=>hvn (listed.getD · false) T k (hlk k H0) ops.size) ν,w⟩) (s:=.tup []) (v:=undef) (w':=w) zaZ (Stp.refl _ _)
     grind
theorem A22{Q:PostX}{id:Nat}{l:List Oper}{m:Nat}{L:LX}{H:HX}(hm:P.follows .mixedOrders=true)(h:DRX P I l.toArray (fun tr m' L' H'=>drawChk0 n l.toArray tr=true/\Q .normal m' L' H') l [] m L H):Wc P I n g (.region id l.toArray true) Q m L H:=by
 intro a w ν S
 obtain⟨T,m',L',H',g1,g2,⟨g3,g3'⟩,g4,g5,g6,g7⟩:=h.steps (m0:=m) (L0:=L) (H0:=H) l [] m L H (fun i hi=>by simp) rfl (fun x=>rfl) (fun k=>rfl)
 have C:=ZU g3
 have hTl:T.length=l.toArray.size:=zaB
 have St:Steps P I l.toArray T m L H:=⟨fun j o ho=>g7 j o (Nat.zero_le _) zaB ho⟩
 refine wp_region_any hm ?_
 have hno:∀ j,(Array.replicate l.toArray.size false).getD j false=false:=fun j=>by
  simp only[Array.getD_eq_getD_getElem?,Array.getElem?_replicate]
  split<;>rfl
 have hu:wC (Array.replicate l.toArray.size false) l.toArray.size=l.toArray.size:=by
  have:=TF (listed:=Array.replicate l.toArray.size false) (m:=0) l.toArray.size (fun i hi=>by
   simp_all[Ej])
  omega
 have S1:I8 I n g m L H a {w with drawn:=w.drawn+1} ν:=by
  have hst:Stp No w {w with drawn:=w.drawn+1}:=⟨rfl,rfl,rfl,Nat.le_refl _,fun _ _ _=>rfl⟩
  have hle:Cx.Le none ⟨(· < m),ν,Ed g.Oa (fun k=>hlk k H) ν,w⟩ ⟨(· < m),ν,Ed g.Oa (fun k=>hlk k H) ν,{w with drawn:=w.drawn+1}⟩:=⟨fun _ _ h=>⟨h,rfl⟩,fun w'' hs=>hst.then hs (fun i _ h=>h.elim) fun i _ h=>h⟩
  refine⟨S.size,S.defers,S.stp.then hst (fun i _ h=>h) (fun i _ h=>h.elim),S.amb,fun w' hs=>S.inv w' (hle.st w' hs),S.pin,fun t s hs=>Rep.le hle s _ (Fe s) (S.slots t s hs),fun k R hR=>?_,S.dist⟩
  obtain⟨r0,r1,r2⟩:=S.res k R hR
  exact⟨r0,Holds.le hle (D8 _) rfl (fun b hb=>⟨(r2 b hb).1,rfl⟩) r1,r2⟩
 refine tX (g:=g) C St (fun k R hk=>(S.res k R hk).1) (Q:=ag I n g Q) ?_ _ _ a _ ⟨by simp,(fun j o _ h=>by simp_all[Ej]),ν,?_⟩ hu
 ·intro a' w' ν' S'
  refine⟨m',L',H',ν',g3',?_⟩
  grind
 ·have e1:(fun t=>TE ((Array.replicate l.toArray.size false).getD · false) l.toArray T t (Iq t L) l.toArray.size)=fun t=>Iq t L:=funext fun t=>RQ (j:=0) (Nat.zero_le _) fun i _ _ _=>hno i
  have e2:(fun k=>hvn ((Array.replicate l.toArray.size false).getD · false) T k (hlk k H) l.toArray.size)=fun k=>hlk k H:=funext fun k=>RP (j:=0) (Nat.zero_le _) fun i _ _ _ _ _ _=>hno i
  rw[e1,e2]
  exact S1.moreN fun k hk=>.inl hk
end
def AA:Nat->Array Oper->List Tr->Bool:=A8 drawChk0
theorem Xn:AA=drawChk0:=Ai _
theorem drw{n:Nat}{ops:Array Oper}{tr:List Tr}(h:drawChk0 n ops tr=true):AA n ops tr=true:=by rw[Xn];exact h
def J9{R:Type}:LX->(LX->R)->R
 | [],K=>K []
 | (t,s)::L,K=>force s fun s=>J9 L fun L=>K ((t,s)::L)
theorem EC{R:Type}:∀(l:LX) (K:LX->R),J9 l K=K l
 | [],K=>rfl
 | (t,s)::r,K=>by simp only[J9,force_eq,EC r]
def I4{R:Type}(T:TT)(G:FT)(Q:Req->Option Rsp)(ops:List Oper):List Oper->List Tr->Nat->LX->HX->(List Tr->Nat->LX->HX->Option R)->Option R
 | [],tr,m,L,H,K=>K tr m L H
 | o::r,tr,m,L,H,K=>match o.guard with
  | none=>Ic (o.looksAt ops.toArray) fun lk=>J9 (bF lk L) fun L'=>Hy T G Q (F8 L') (fun k=>hlk k H) m o.op fun t=>IW o.dst t m L H fun m L H=>I4 T G Q ops r (tr++[t]) m L H K
  | some (j,want)=>(match(ops[j]?).bind (·.dst) with
   | some d'=>(match Iq d' L with
    | some (.b c)=>bif c then
      bif want then Ic (o.looksAt ops.toArray) fun lk=>J9 (bF lk L) fun L'=>Hy T G Q (F8 L') (fun k=>hlk k H) m o.op fun t=>IW o.dst t m L H fun m L H=>I4 T G Q ops r (tr++[t]) m L H K
      else I4 T G Q ops r (tr++[⟨.tup [],[],[],true,0⟩]) m (Ut o.dst (.tup []) L) H K
     else
      bif want then I4 T G Q ops r (tr++[⟨.tup [],[],[],true,0⟩]) m (Ut o.dst (.tup []) L) H K
      else Ic (o.looksAt ops.toArray) fun lk=>J9 (bF lk L) fun L'=>Hy T G Q (F8 L') (fun k=>hlk k H) m o.op fun t=>IW o.dst t m L H fun m L H=>I4 T G Q ops r (tr++[t]) m L H K
    | some (.tup [])=>I4 T G Q ops r (tr++[⟨.tup [],[],[],true,0⟩]) m (Ut o.dst (.tup []) L) H K
    | _=>none)
   | none=>none)
theorem A23{m:Nat}{H:HX}(hm:∀ k R,hlk k H=some R->k<m)(hpre:∀ k R,EY k t.F=some R->hlk k H=some R)(hnew:∀ k,has k t.F'->has k t.F\/(m<=k/\k<m+t.nn))(hrd:t.rd=true->t.F'=t.F):∀ k R,hlk k (stH t H)=some R->k<m+t.nn:=by
 intro k R h
 rw[o7 hpre hrd] at h
 rcases XX h with h|⟨h,_,_⟩
 ·rcases hnew k ((DD _ _).2 ⟨R,h⟩) with h1|h1
  ·obtain⟨R0,h2⟩:=(DD _ _).1 h1
   have:=hm k R0 (hpre k R0 h2);omega
  ·exact h1.2
 ·have:=hm k R h;omega
section
variable {P:Program}{I:World->Prop}{n:Nat}{g:Gx}{T:TT}{G:FT}{Q:Req->Option Rsp}{α:Type}{r:α}
theorem yP(hT:TTok P I T)(hG:ZP P G)(hQ:QOK P I Q){ops:List Oper}{fin:List Tr->Nat->LX->HX->Prop}{K:List Tr->Nat->LX->HX->Option α}(hK:∀ tr m L H,K tr m L H=some r->fin tr m L H)(l:List Oper):∀(tr:List Tr) (m:Nat) (L:LX) (H:HX),(∀ k R,hlk k H=some R->k<m)->I4 T G Q ops l tr m L H K=some r->DRX P I ops.toArray fin l tr m L H:=by
 induction l with
 | nil=>intro tr m L H _ h;exact hK _ _ _ _ h
 | cons o l ih =>
  intro tr m L H hm h
  rw[I4] at h
  have run:∀ lk,lk=o.looksAt ops.toArray->Hy T G Q (F8 (bF lk L)) (fun k=>hlk k H) m o.op (fun t=>IW o.dst t m L H fun m L H=>I4 T G Q ops l (tr++[t]) m L H K)=some r->∃ t,(OPL P I (bF (o.looksAt ops.toArray) L) t.F o.op o.type t.s t.F')/\(∀ k R,EY k t.F=some R->hlk k H=some R)/\(∀ k,has k t.F'->has k t.F\/(m<=k/\k<m+t.nn))/\(t.rd=true->t.F'=t.F)/\DRX P I ops.toArray fin l (tr++[t]) (stepM t m) (o9 o.dst t.s L) (bf t H):=by
   clear h
   rintro lk rfl h9
   obtain⟨t,ht,ok⟩:=Vt hT hG hQ hm h9
   rw[RN] at ht
   exact⟨t,ok.opl _,ok.pre,ok.new,ok.rd,ih _ _ _ _ (A23 hm ok.pre ok.new ok.rd) ht⟩
  have skip:I4 T G Q ops l (tr++[⟨.tup [],[],[],true,0⟩]) m (Ut o.dst (.tup []) L) H K=some r->DRX P I ops.toArray fin l (tr++[⟨.tup [],[],[],true,0⟩]) (stepM ⟨.tup [],[],[],true,0⟩ m) (o9 o.dst (.tup []) L) (bf ⟨.tup [],[],[],true,0⟩ H):=fun h=>ih _ _ _ _ hm h
  have hnil:∀ k R,EY k ([]:Fp)=some R->hlk k H=some R:=fun k R h=>zaF
  have hnil2:∀ k,has k ([]:Fp)->has k ([]:Fp)\/(m<=k/\k<m+0):=fun k h=>absurd h (Gt k)
  split at h
  ·rename_i hg
   rw[Dw,EC] at h
   obtain⟨t,h1,h2,h3,h4,h5⟩:=run _ rfl h
   exact⟨t,⟨by simp_all[Obl],h2,h3,h4⟩,h5⟩
  ·rename_i j want hg
   split at h
   ·rename_i d' hd'
    have hj:EL ops.toArray j=some d':=by grind[EL]
    split at h
    ·rename_i c hc
     have run2:c=want->Hy T G Q (F8 (bF (o.looksAt ops.toArray) L)) (fun k=>hlk k H) m o.op (fun t=>IW o.dst t m L H fun m L H=>I4 T G Q ops l (tr++[t]) m L H K)=some r->DRX P I ops.toArray fin (o::l) tr m L H:=by
      intro e h9
      obtain⟨t,h1,h2,h3,h4,h5⟩:=run _ rfl h9
      exact⟨t,⟨by simp_all[Obl],h2,h3,h4⟩,h5⟩
     have skip2:c = !want->I4 T G Q ops l (tr++[⟨.tup [],[],[],true,0⟩]) m (Ut o.dst (.tup []) L) H K=some r->DRX P I ops.toArray fin (o::l) tr m L H:=by
      intro e h9
      exact⟨⟨.tup [],[],[],true,0⟩,⟨by unfold Obl;simp_all,hnil,hnil2,fun _=>rfl⟩,skip h9⟩
     cases c with
     | true =>
      cases want with
      | true=>simp only[cond_true,Dw,EC] at h;simp_all
      | false=>simp_all
     | false =>
      cases want with
      | true=>simp_all
      | false=>simp only[cond_false,Dw,EC] at h;simp_all
    ·rename_i hc
     exact⟨⟨.tup [],[],[],true,0⟩,⟨by unfold Obl;simp_all,hnil,hnil2,fun _=>rfl⟩,skip h⟩
    ·cases h
   ·cases h
end
end
end Go.Ax
namespace Go.Ax
noncomputable section
open Go Go.RowKit Go.Eng
set_option linter.unusedVariables false
set_option linter.unusedSimpArgs false
def Vu(keep:List Nat)(L:LX):LX:=match keep with
 | []=>[]
 | t::r=>(match Iq t L with|some s=>(t,s)::Vu r L|none=>Vu r L)
def QP:LX->List Nat
 | []=>[]
 | (_,s)::L=>names s++QP L
def A24(ρ:Nat->Nat):LX->LX
 | []=>[]
 | (t,s)::L=>(t,ren ρ s)::A24 ρ L
def upto(n:Nat):List Nat:=List.range n
def hIn(ρ:Nat->Nat)(hk:Nat->Option Rs):Nat->List Nat->HX
 | _,[]=>[]
 | i,k::r=>match hk k with
  | some R=>(i,some (Ho ρ R))::hIn ρ hk (i+1) r
  | none=>hIn ρ hk (i+1) r
variable {R:Type}
def MW:HX->(HX->R)->R
 | [],K=>K []
 | (k,some r)::H,K=>TN r fun r=>MW H fun H=>K ((k,some r)::H)
 | (k,none)::H,K=>MW H fun H=>K ((k,none)::H)
theorem HY:∀(l:HX) (K:HX->R),MW l K=K l
 | [],K=>rfl
 | (k,some r)::H,K=>by simp only[MW,PH,HY H]
 | (k,none)::H,K=>by simp only[MW,HY H]
def preB:Nat->Nat->List Nat->Bool
 | 0,_,_=>true
 | n+1,i,k::r=>Nat.beq k i&&preB n (i+1) r
 | _+1,_,[]=>false
def QQ(hk:Nat->Option Rs)(ks:List Nat):List Nat->Bool
 | []=>true
 | k::r=>(match hk k with|some R=>allIn ks (MV R)|none=>true)&&QQ hk ks r
def canon(keep:List Nat)(n0:Nat)(L:LX)(H:HX)(K:Nat->LX->HX->Option R):Option R :=
 J9 (Vu keep L) fun L1=>Ic (close (fun k=>hlk k H) 60 [] (upto n0++QP L1)) fun ks =>
  bif nodupB ks&&preB n0 0 ks&&allIn ks (QP L1)&&QQ (fun k=>hlk k H) ks ks then
   J9 (A24 (fun k=>idx k ks) L1) fun L=>MW (hIn (fun k=>idx k ks) (fun k=>hlk k H) 0 ks) fun H=>addN 0 ks.length fun m=>K m L H
  else none
theorem yQ{keep:List Nat}{L:LX}{t:Nat}{s:AV}(h:Iq t (Vu keep L)=some s):Iq t L=some s:=by
 induction keep with
 | nil=>cases h
 | cons d r ih =>
  grind[Vu,FH]
theorem bi{ρ:Nat->Nat}{t:Nat}{s:AV}:∀ {L:LX},Iq t (A24 ρ L)=some s->∃ s1,Iq t L=some s1/\s=ren ρ s1
 | [],h=>zaF
 | (d,v)::L,h=>by
  simp only[A24] at h
  rw[FH] at h ⊢
  split at h
  ·simp_all
  ·rename_i e;rw[if_neg e];exact bi h
theorem Vw{t:Nat}{s:AV}{k:Nat}(hk:k∈names s):∀ {L:LX},Iq t L=some s->k∈QP L
 | [],h=>zaF
 | (d,v)::L,h=>by
  rw[FH] at h
  simp only[QP]
  split at h
  ·simp_all
  ·exact List.mem_append.2 (.inr (Vw hk h))
theorem Og{ρ:Nat->Nat}{hk:Nat->Option Rs}{R:Rs}{j:Nat}:∀ {ks:List Nat} {i:Nat},hlk j (hIn ρ hk i ks)=some R->∃ q k R1,ks[q]?=some k/\j=i+q/\hk k=some R1/\R=Ho ρ R1
 | [],i,h=>zaF
 | k::ks,i,h=>by
  simp only[hIn] at h
  split at h
  ·rename_i R1 h1
   rw[Em] at h
   split at h
   ·rename_i e;exact⟨0,k,R1,rfl,by simpa using e,h1,(Option.some.inj h).symm⟩
   ·obtain⟨q,k',R',g1,g2,g3,g4⟩:=Og h
    exact⟨q+1,k',R',by grind,by omega,g3,g4⟩
  ·obtain⟨q,k',R',g1,g2,g3,g4⟩:=Og h
   exact⟨q+1,k',R',by grind,by omega,g3,g4⟩
theorem Vx:∀ {n i:Nat} {ks:List Nat} {j:Nat},preB n i ks=true->j<n->ks[j]?=some (i+j)
 | 0,i,ks,j,_,hj=>zaa
 | n+1,i,[],j,h,_=>zaF
 | n+1,i,k::r,0,h,_=>by simp_all[preB]
 | n+1,i,k::r,j+1,h,hj=>by
  simp only[preB,Bool.and_eq_true] at h
  have:=Vx (j:=j) h.2 zaa
  grind
theorem QR{hk:Nat->Option Rs}{ks:List Nat}:∀ {l:List Nat} {k:Nat} {R:Rs},QQ hk ks l=true->k∈l->hk k=some R->∀ q∈MV R,q∈ks
 | a::l,k,R,h,hm,hR=>by
  simp only[QQ,Bool.and_eq_true] at h
  rcases List.mem_cons.1 hm with rfl|hm
  ·simp_all[L8]
  ·exact QR h.2 hm hR
theorem yR{keep:List Nat}{n0:Nat}{L:LX}{H:HX}{K:Nat->LX->HX->Option R}{r:R}(h:canon keep n0 L H K=some r):∃(m':Nat) (L':LX) (H':HX) (ρ:Nat->Nat),K m' L' H'=some r /\
  ∀ {I:World->Prop} {n:Nat} {g:Gx} {m:Nat} {a:Act} {w:World} {ν:Nat->Value},g.n0=n0->I8 I n g m L H a w ν->I8 I n g m' L' H' a w (fun k=>ν (ρ k)):=by
 unfold canon at h
 rw[EC,Dw] at h
 generalize hks:close (fun k=>hlk k H) 60 [] (upto n0++QP (Vu keep L))=ks at h
 cases hc:(nodupB ks&&preB n0 0 ks&&allIn ks (QP (Vu keep L))&&QQ (fun k=>hlk k H) ks ks) with
 | false=>simp_all
 | true =>
  rw[hc] at h
  simp only[cond_true,EC,HY,DI,Nat.zero_add] at h
  simp only[Bool.and_eq_true,Ny,L8] at hc
  obtain⟨⟨⟨hnd,hpre⟩,hin⟩,hinH⟩:=hc
  refine⟨_,_,_,nth ks,h,fun {I n g m a w ν} hg S=>?_⟩
  refine S.cut (nth ks) (fun k hk=>?_) (fun t s hs=>?_) (fun k R hR=>?_) (fun k k' R R' h1 h2 e=>?_)
  ·rw[hg] at hk
   have:=Vx hpre hk
   rw[Nat.zero_add] at this
   grind[J4]
  ·obtain⟨s1,h1,rfl⟩:=bi hs
   grind[bZ,Vw,yQ]
  ·obtain⟨q,k',R1,h1,h2,h3,rfl⟩:=Og hR
   rw[Nat.zero_add] at h2
   subst h2
   obtain⟨h4,h5⟩:=Tv (R:=R1) (QR hinH (List.mem_of_getElem? h1) h3)
   grind[J4]
  ·obtain⟨q,k1,R1,g1,g2,_,_⟩:=Og h1
   obtain⟨q',k2,R2,f1,f2,_,_⟩:=Og h2
   rw[Nat.zero_add] at g2 f2
   grind[J4,List.getElem?_inj]
def one1(k e:Nat)(t:Ty)(l:List (El t)):Nat->Option Rs:=fun j=>bif Nat.beq j k then some (.row e t l) else none
def vwX(hk:Nat->Option Rs):LX->LX
 | []=>[]
 | (t,s)::L=>(t,vw hk s)::vwX hk L
def A4S(hk:Nat->Option Rs):Rs->Rs
 | .var l=>.var (bC hk l)
 | .rowA e s n l=>.rowA e s n (bC hk l)
 | R=>R
def wE(hk:Nat->Option Rs):HX->HX
 | []=>[]
 | (k,some R)::H=>(k,some (A4S hk R))::wE hk H
 | (k,none)::H=>(k,none)::wE hk H
theorem oC(hk:Nat->Option Rs)(t:Nat):∀(L:LX),Iq t (vwX hk L)=(Iq t L).map (vw hk)
 | []=>rfl
 | (d,s)::L=>by rw[vwX,FH,FH,oC hk t L];split<;>rfl
theorem oD(hk:Nat->Option Rs)(k:Nat):∀(H:HX),hlk k (wE hk H)=(hlk k H).map (A4S hk)
 | []=>rfl
 | (d,some R)::H|(d,none)::H=>by rw[wE,Em,Em,oD hk k H];split<;>rfl
theorem Sat.giveUp{I:World->Prop}{n:Nat}{g:Gx}{m:Nat}{L:LX}{H:HX}{a:Act}{w:World}{ν:Nat->Value}(S:I8 I n g m L H a w ν){k e:Nat}{t:Ty}{l:List (El t)}(hkk:hlk k H=some (.row e t l)):
  I8 I n g m (vwX (one1 k e t l) L) ((k,none)::wE (one1 k e t l) H) a w ν:=by
 have hG:∀ q R,EY q [(k,Rs.row e t l)]=some R->q=k/\R=.row e t l:=fun q R h=>by
  rw[Bj] at h
  simp_all
 have hres:∀ q R,EY q [(k,Rs.row e t l)]=some R->q<m/\Holds ⟨(· < m),ν,Ed g.Oa (fun k=>hlk k H) ν,w⟩ q R/\∀ b,blk (ν q)=some b->Ed g.Oa (fun k=>hlk k H) ν b:=fun q R h=>by
  obtain⟨rfl,rfl⟩:=hG q R h
  obtain⟨r0,r1,r2⟩:=S.res _ _ hkk
  exact⟨r0,r1,fun b hb=>.inr ⟨_,_,hkk,hb⟩⟩
 have hin:∀ q,∀ e' t' l',one1 k e t l q=some (.row e' t' l')->EY q [(k,Rs.row e t l)]=some (.row e' t' l'):=fun q e' t' l' h=>by
  unfold one1 at h
  cases hb:Nat.beq q k with
  | false=>simp_all
  | true =>
   simp_all[Bj]
 have hk':∀ q R,hlk q ((k,none)::wE (one1 k e t l) H)=some R->q≠k/\∃ R0,hlk q H=some R0/\R=A4S (one1 k e t l) R0:=fun q R h=>by
  grind[Em,oD,Option.map_eq_some_iff]
 have hfb:∀ b,Di ν [(k,Rs.row e t l)] b↔blk (ν k)=some b:=fun b=>by
  constructor
  ·rintro⟨q,R,h,hb⟩;grind
  ·intro hb;exact⟨k,_,by rw[Bj,if_pos rfl],hb⟩
 have hown:∀ b,Ed g.Oa (fun q=>hlk q ((k,none)::wE (one1 k e t l) H)) ν b->Ed g.Oa (fun k=>hlk k H) ν b/\¬Di ν [(k,Rs.row e t l)] b:=by
  rintro b (hb|⟨q,R,hq,hb⟩)
  ·refine⟨.inl hb,fun hf=>?_⟩
   have h1:=S.amb b hb
   have h2:=((S.res _ _ hkk).2.2 b ((hfb b).1 hf)).2
   grind
  ·obtain⟨hne,R0,h1,_⟩:=hk' q R hq
   refine⟨.inr ⟨q,R0,h1,hb⟩,fun hf=>?_⟩
   exact S.dist q k R0 _ b h1 hkk hne hb ((hfb b).1 hf)
 have hle:Cx.Le none (Cx.less ⟨(· < m),ν,Ed g.Oa (fun k=>hlk k H) ν,w⟩ [(k,Rs.row e t l)]) ⟨(· < m),ν,Ed g.Oa (fun q=>hlk q ((k,none)::wE (one1 k e t l) H)) ν,w⟩ :=
  ⟨fun k _ h=>⟨h,rfl⟩,fun w'' hs=>hs.mono fun i _ h=>hown i h⟩
 refine⟨S.size,S.defers,S.stp,S.amb,fun w'' hs=>S.inv w'' (hs.mono fun i _ h=>(hown i h).1),S.pin,fun d s hs=>?_,fun q R hR=>?_,fun q q' R R' b h h' hne=>?_⟩
 ·rw[oC] at hs
  obtain⟨s0,h1,rfl⟩:=Option.map_eq_some_iff.1 hs
  exact Rep.le hle _ _ (Fe _) (A3k hres s0 _ (fun q _ e' t' l' h=>hin q e' t' l' h) (S.slots d s0 h1))
 ·obtain⟨hne,R0,h1,rfl⟩:=hk' q R hR
  obtain⟨r0,r1,r2⟩:=S.res q R0 h1
  refine⟨r0,Holds.le hle (D8 _) rfl (fun b hb=>⟨(r2 b hb).1,rfl⟩) ?_,r2⟩
  cases R0 with
  | var l0 =>
   obtain⟨b,us,g1,g2,g3,g4⟩:=r1
   exact⟨b,us,g1,g2,LZ hres l0 us (fun q _ e' t' l' h=>hin q e' t' l' h) g3,g4⟩
  | row e0 t0 l0=>exact Holds.le (Cx.less_le _ _) (D8 _) rfl (fun b hb=>⟨(r2 b hb).1,rfl⟩) r1
  | rowA e0 s0 n0 l0 =>
   obtain⟨us,g1,g2,g3⟩:=r1
   exact⟨us,g1,LZ hres l0 us (fun q _ e' t' l' h=>hin q e' t' l' h) g2,g3⟩
 ·obtain⟨_,R0,h1,_⟩:=hk' q R h
  obtain⟨_,R1,h2,_⟩:=hk' q' R' h'
  exact S.dist q q' R0 R1 b h1 h2 hne
def Tz(L0:LX):LX->List Nat
 | []=>[]
 | (t,.nm k)::L=>(match Iq t L0 with|some (.nm j)=>bif Nat.beq j k then k::Tz L0 L else Tz L0 L|_=>Tz L0 L)
 | _::L=>Tz L0 L
def heldBy(L:LX):List Nat->List Nat
 | []=>[]
 | t::r=>(match Iq t L with|some s=>names s++heldBy L r|none=>heldBy L r)
def VB:HX->List Nat
 | []=>[]
 | (_,some R)::H=>MV R++VB H
 | (_,none)::H=>VB H
def Vy(ks:List Nat):List Nat->List Nat
 | []=>[]
 | k::r=>bif Nr k ks then Vy ks r else k::Vy ks r
def KL:List Nat->LX->HX->(LX->HX->R)->R
 | [],L,H,K=>K L H
 | k::r,L,H,K=>(match hlk k H with
  | some (.row e t l)=>J9 (vwX (one1 k e t l) L) fun L=>MW ((k,none)::wE (one1 k e t l) H) fun H=>KL r L H K
  | _=>KL r L H K)
def oG(sz n:Nat)(cells:List AV):Option (List (El (.sl (.sl .u8)))):=bif Nat.beq sz 1 then je (.sl (.sl .u8)) n cells else none
def GM:List Nat->LX->HX->(LX->HX->R)->R
 | [],L,H,K=>K L H
 | k::r,L,H,K=>(match hlk k H with
  | some (.row e t l)=>J9 (vwX (one1 k e t l) L) fun L=>MW ((k,none)::wE (one1 k e t l) H) fun H=>GM r L H K
  | some (.rowA _ _ _ cells)=>KL (FN cells) L H fun L H=>(match hlk k H with
   | some (.rowA e sz n cells)=>(match oG sz n cells with
    | some l=>J9 (vwX (one1 k e (.sl (.sl .u8)) l) L) fun L=>MW ((k,none)::wE (one1 k e (.sl (.sl .u8)) l) ((k,some (.row e (.sl (.sl .u8)) l))::H)) fun H=>GM r L H K
    | none=>GM r L H K)
   | _=>GM r L H K)
  | _=>GM r L H K)
def Vz(need:Option (List Nat))(n0:Nat)(L:LX)(H:HX)(K:LX->HX->R):R:=match need with
 | none=>K L H
 | some need=>Ic (bif Nr 999999 need then Vy (upto n0++heldBy L need) (nub [] (Tz L L++VB H)) else Vy (upto n0++heldBy L need++VB H) (nub [] (Tz L L))) fun ks=>GM ks L H K
theorem Sat.conv{I:World->Prop}{n:Nat}{g:Gx}{m:Nat}{L:LX}{H:HX}{a:Act}{w:World}{ν:Nat->Value}(S:I8 I n g m L H a w ν){k:Nat}{R R':Rs}(hkk:hlk k H=some R)(hR:∀ c,Holds c k R->Holds c k R'):
  I8 I n g m L ((k,some R')::H) a w ν:=by
 have hk':∀ q Q,hlk q ((k,some R')::H)=some Q->∃ Q0,hlk q H=some Q0/\∀ c,Holds c q Q0->Holds c q Q:=fun q Q h=>by
  rw[Em] at h
  grind
 have hown:Ed g.Oa (fun q=>hlk q ((k,some R')::H)) ν=Ed g.Oa (fun q=>hlk q H) ν:=by
  funext b
  refine propext (or_congr Iff.rfl ⟨fun⟨q,Q,h1,h2⟩=>?_,fun⟨q,Q,h1,h2⟩=>?_⟩)
  ·grind
  ·by_cases e:q=k
   ·subst e;exact⟨q,R',(Em q q (some R') H).trans (if_pos rfl),h2⟩
   ·exact⟨q,Q,((Em q k (some R') H).trans (if_neg e)).trans h1,h2⟩
 refine⟨S.size,S.defers,S.stp,S.amb,?_,S.pin,?_,fun q Q h=>?_,fun q q' Q Q' b h h' hne=>?_⟩
 ·rw[hown];exact S.inv
 ·rw[hown];exact S.slots
 ·obtain⟨Q0,h1,h2⟩:=hk' q Q h
  obtain⟨r0,r1,r2⟩:=S.res q Q0 h1
  simp_all
 ·obtain⟨Q0,h1,_⟩:=hk' q Q h
  obtain⟨Q1,h2,_⟩:=hk' q' Q' h'
  exact S.dist q q' Q0 Q1 b h1 h2 hne
theorem yS{e sz n k:Nat}{cells:List AV}{l:List (El (.sl (.sl .u8)))}(h:oG sz n cells=some l)(c:Cx)(hh:Holds c k (.rowA e sz n cells)):Holds c k (.row e (.sl (.sl .u8)) l):=by
 unfold oG at h
 cases hb:Nat.beq sz 1 with
 | false=>simp_all
 | true =>
  rw[hb,cond_true] at h
  obtain rfl:sz=1:=by simpa using hb
  obtain⟨vs,h1,h2,h3⟩:=hh
  obtain⟨h4,h5⟩:=ZL h h2
  exact⟨vs,by rw[h5];exact h1,h4,h3⟩
theorem Oh{I:World->Prop}{n:Nat}{g:Gx}{m:Nat}{a:Act}{w:World}{ν:Nat->Value}:∀(ks:List Nat) {L:LX} {H:HX} {K:LX->HX->R},I8 I n g m L H a w ν->∃ L' H',KL ks L H K=K L' H'/\I8 I n g m L' H' a w ν
 | [],L,H,K,S=>⟨L,H,rfl,S⟩
 | k::r,L,H,K,S=>by
  unfold KL
  split
  ·rename_i e t l hkk
   simp only[EC,HY]
   exact Oh r (Sat.giveUp S hkk)
  ·exact Oh r S
theorem JJ{I:World->Prop}{n:Nat}{g:Gx}{m:Nat}{a:Act}{w:World}{ν:Nat->Value}:∀(ks:List Nat) {L:LX} {H:HX} {K:LX->HX->R},I8 I n g m L H a w ν->∃ L' H',GM ks L H K=K L' H'/\I8 I n g m L' H' a w ν
 | [],L,H,K,S=>⟨L,H,rfl,S⟩
 | k::r,L,H,K,S=>by
  unfold GM
  split
  ·rename_i e t l hkk
   simp only[EC,HY]
   exact JJ r (Sat.giveUp S hkk)
  ·rename_i cells hkk
   obtain⟨L',H',h1,S'⟩:=Oh (K:=fun L H=>(match hlk k H with
    | some (.rowA e sz n cells)=>(match oG sz n cells with
     | some l=>J9 (vwX (one1 k e (.sl (.sl .u8)) l) L) fun L=>MW ((k,none)::wE (one1 k e (.sl (.sl .u8)) l) ((k,some (.row e (.sl (.sl .u8)) l))::H)) fun H=>GM r L H K
     | none=>GM r L H K)
    | _=>GM r L H K)) (FN cells) S
   rw[h1]
   split
   ·rename_i e sz n' cells' hkk'
    split
    ·rename_i l hl
     simp only[EC,HY]
     exact JJ r (Sat.giveUp (Sat.conv S' hkk' (R':=.row e (.sl (.sl .u8)) l) (yS hl)) (by rw[Em,if_pos rfl]))
    ·exact JJ r S'
   ·exact JJ r S'
  ·exact JJ r S
theorem yT{I:World->Prop}{n:Nat}{g:Gx}{m:Nat}{a:Act}{w:World}{ν:Nat->Value}{need:Option (List Nat)}{n0:Nat}{L:LX}{H:HX}{K:LX->HX->R}(S:I8 I n g m L H a w ν):∃ L' H',Vz need n0 L H K=K L' H'/\I8 I n g m L' H' a w ν:=by
 unfold Vz
 split
 ·grind
 ·rw[Dw];exact JJ _ S
theorem QS:∀(ks:List Nat) {L:LX} {H:HX} {R':Type} {K:LX->HX->R} {K':LX->HX->R'} {Z:R->R'->Prop},(∀ L H,Z (K L H) (K' L H))->Z (KL ks L H K) (KL ks L H K')
 | [],L,H,R',K,K',Z,h=>h L H
 | k::r,L,H,R',K,K',Z,h=>by
  unfold KL
  split
  ·simp only[EC,HY];exact QS r h
  ·exact QS r h
theorem Jj:∀(ks:List Nat) {L:LX} {H:HX} {R':Type} {K:LX->HX->R} {K':LX->HX->R'} {Z:R->R'->Prop},(∀ L H,Z (K L H) (K' L H))->Z (GM ks L H K) (GM ks L H K')
 | [],L,H,R',K,K',Z,h=>h L H
 | k::r,L,H,R',K,K',Z,h=>by
  unfold GM
  split
  ·simp only[EC,HY];exact Jj r h
  ·refine QS _ fun L H=>?_
   split
   ·split
    ·simp only[EC,HY];exact Jj r h
    ·exact Jj r h
   ·exact Jj r h
  ·exact Jj r h
theorem A25{need:Option (List Nat)}{n0:Nat}{L:LX}{H:HX}{R':Type}{K:LX->HX->R}{K':LX->HX->R'}{Z:R->R'->Prop}(h:∀ L H,Z (K L H) (K' L H)):Z (Vz need n0 L H K) (Vz need n0 L H K'):=by
 unfold Vz
 split
 ·exact h L H
 ·simp only[Dw];exact Jj _ h
def Uu:List (Nat×Nat×Ty)->Nat->LX->HX->(Nat->LX->HX->R)->R
 | [],m,L,H,K=>K m L H
 | (t,e,τ)::r,m,L,H,K=>bif Nat.ble 1000000 t then(match Iq ((t-1000000)/1000) L with
   | some (.pa k o)=>(match hlk k H with
    | some (.var cells)=>(match cells[o+(t-1000000)%1000]? with
     | some .nil=>addN 1 m fun m'=>Uu r m' L ((k,some (.var (cells.set (o+(t-1000000)%1000) (.nm m))))::(m,some (.row e τ []))::H) K
     | _=>Uu r m L H K)
    | _=>Uu r m L H K)
   | _=>Uu r m L H K)
  else(match Iq t L with
  | some .nil=>addN 1 m fun m'=>Uu r m' ((t,.nm m)::L) ((m,some (.row e τ []))::H) K
  | _=>Uu r m L H K)
theorem Sat.nilName{I:World->Prop}{n:Nat}{g:Gx}{m:Nat}{L:LX}{H:HX}{a:Act}{w:World}{ν:Nat->Value}(S:I8 I n g m L H a w ν)(e:Nat)(τ:Ty):
  I8 I n g (m+1) L ((m,some (.row e τ []))::H) a w (fun q=>if q=m then .slice none 0 0 else ν q)/\Rep ⟨(· < m+1),(fun q=>if q=m then Value.slice none 0 0 else ν q),Ed g.Oa (fun k=>hlk k ((m,some (.row e τ []))::H)) (fun q=>if q=m then .slice none 0 0 else ν q),w⟩ (.nm m) (.slice none 0 0):=by
 have hO:∀ b,Ed g.Oa (fun k=>hlk k H) ν b->b<w.heap.size:=by
  rintro b (h|⟨k,R,h1,h2⟩)
  ·exact Nat.lt_of_lt_of_le (S.amb b h).1 S.stp.size
  ·exact((S.res k R h1).2.2 b h2).1
 have ok:Ok ⟨(· < m),ν,Ed g.Oa (fun k=>hlk k H) ν,w⟩ [] [(m,.row e τ [])] (.nm m) (.slice none 0 0) w (fun q=>if q=m then .slice none 0 0 else ν q) :=
  Ok.newM (sz:=τ.n) (n:=0) (e:=e) (cells:=[]) (vs:=[]) (Nat.lt_irrefl m) hO (Stp.refl _ _) (World.ownsG_nil w 0 e τ.n) (fun b h=>by cases h) (by simp only[AO]) (fun u hu=>by cases hu) (fun c' hh=>hh)
 have hh:∀ k,has k [(m,Rs.row e τ [])]↔k=m:=fun k=>by
  unfold has
  rw[Bj]
  by_cases h:k=m
  ·simp[h]
  ·simp[h]
 exact Sat.step S (N':=(· < m+1)) (hk':=fun k=>hlk k ((m,some (.row e τ []))::H)) (fun k R h=>by cases h) ok (fun k=>by rw[hh];omega) (fun k=>by
  unfold upd
  rw[Em,Bj]
  by_cases h:k=m
  ·simp[h]
  ·simp[h])
theorem Sat.nilRow{I:World->Prop}{n:Nat}{g:Gx}{m:Nat}{L:LX}{H:HX}{a:Act}{w:World}{ν:Nat->Value}(S:I8 I n g m L H a w ν){t e:Nat}{τ:Ty}(ht:Iq t L=some .nil):
  I8 I n g (m+1) ((t,.nm m)::L) ((m,some (.row e τ []))::H) a w (fun q=>if q=m then .slice none 0 0 else ν q):=by
 have hv:=S.slots t _ ht
 simp only[Rep] at hv
 obtain⟨S1,hr⟩:=Sat.nilName S e τ
 refine⟨S1.size,S1.defers,S1.stp,S1.amb,S1.inv,S1.pin,fun d s hs=>?_,S1.res,S1.dist⟩
 rw[FH] at hs
 split at hs
 ·rename_i he
  obtain rfl:=Option.some.inj hs
  subst he
  rw[hv];exact hr
 ·exact S1.slots d s hs
theorem AO.setv{c:Cx}:∀ {l:List AV} {us:List Value} {i:Nat} {s:AV},AO c l us->(∀ u,us[i]?=some u->Rep c s u)->AO c (l.set i s) us
 | [],us,i,s,h,hs=>zaJ
 | a::r,us,i,s,h,hs=>by
  simp only[AO] at h
  obtain⟨u,t,rfl,h1,h2⟩:=h
  cases i with
  | zero=>simp only[List.set_cons_zero,AO];exact⟨u,t,rfl,hs u rfl,h2⟩
  | succ i=>simp only[List.set_cons_succ,AO];exact⟨u,t,rfl,h1,AO.setv h2 fun v hv=>hs v (by simpa using hv)⟩
theorem Sat.vcell{I:World->Prop}{n:Nat}{g:Gx}{m:Nat}{L:LX}{H:HX}{a:Act}{w:World}{ν:Nat->Value}(S:I8 I n g m L H a w ν){k i p:Nat}{cells:List AV}(hk:hlk k H=some (.var cells))(hi:cells[i]?=some .nil)(hp:Rep ⟨(· < m),ν,Ed g.Oa (fun k=>hlk k H) ν,w⟩ (.nm p) (.slice none 0 0)):
  I8 I n g m L ((k,some (.var (cells.set i (.nm p))))::H) a w ν:=by
 have hown:Ed g.Oa (fun q=>hlk q ((k,some (.var (cells.set i (.nm p))))::H)) ν=Ed g.Oa (fun q=>hlk q H) ν:=by
  funext b
  refine propext ⟨?_,?_⟩
  ·rintro(h|⟨q,R,h1,h2⟩)
   ·exact .inl h
   ·simp only[Em] at h1
    by_cases e:q=k
    ·subst e;exact .inr ⟨q,_,hk,h2⟩
    ·rw[if_neg e] at h1;exact .inr ⟨q,R,h1,h2⟩
  ·rintro(h|⟨q,R,h1,h2⟩)
   ·exact .inl h
   ·by_cases e:q=k
    ·subst e;exact .inr ⟨q,.var (cells.set i (.nm p)),by simp only[Em,if_pos],h2⟩
    ·exact .inr ⟨q,R,by simp only[Em,if_neg e];exact h1,h2⟩
 refine⟨S.size,S.defers,S.stp,S.amb,?_,S.pin,?_,?_,?_⟩
 ·rw[hown];exact S.inv
 ·rw[hown];exact S.slots
 ·rw[hown]
  intro q R hq
  simp only[Em] at hq
  by_cases e:q=k
  ·subst e
   rw[if_pos rfl] at hq
   obtain rfl:=Option.some.inj hq
   obtain⟨h1,⟨b,us,h2,h3,h4,h5⟩,h6⟩:=S.res q _ hk
   refine⟨h1,⟨b,us,h2,h3,AO.setv h4 fun u hu=>?_,h5⟩,h6⟩
   obtain⟨u',hu',hr⟩:=h4.get hi
   simp only[Rep] at hr
   rw[hu'] at hu
   obtain rfl:=Option.some.inj hu
   rw[hr];exact hp
  ·rw[if_neg e] at hq;exact S.res q R hq
 ·intro q q' R R' b h1 h2
  have get:∀ {q R},hlk q ((k,some (.var (cells.set i (.nm p))))::H)=some R->∃ R0,hlk q H=some R0:=by
   intro q R h
   simp only[Em] at h
   by_cases e:q=k
   ·subst e;exact⟨_,hk⟩
   ·rw[if_neg e] at h;exact⟨R,h⟩
  obtain⟨R0,g0⟩:=get h1
  obtain⟨R1,g1⟩:=get h2
  exact S.dist q q' R0 R1 b g0 g1
theorem Nz{I:World->Prop}{n:Nat}{g:Gx}{a:Act}{w:World}:∀(l:List (Nat×Nat×Ty)) {m:Nat} {ν:Nat->Value} {L:LX} {H:HX} {K:Nat->LX->HX->R},I8 I n g m L H a w ν->∃ m' L' H' ν',Uu l m L H K=K m' L' H'/\I8 I n g m' L' H' a w ν'
 | [],m,ν,L,H,K,S=>⟨m,L,H,ν,rfl,S⟩
 | (t,e,τ)::r,m,ν,L,H,K,S=>by
  unfold Uu
  cases Nat.ble 1000000 t with
  | true =>
   rw[cond_true]
   split
   ·rename_i k o hl
    split
    ·rename_i cells hk
     split
     ·rename_i hi
      rw[DI,Nat.add_comm 1 m]
      obtain⟨S1,hr⟩:=Sat.nilName S e τ
      have hkm:k<m:=(S.res k _ hk).1
      have hk':hlk k ((m,some (.row e τ []))::H)=some (.var cells):=by rw[Em,if_neg zaa];exact hk
      exact Nz r (Sat.vcell S1 hk' hi hr)
     ·exact Nz r S
    ·exact Nz r S
   ·exact Nz r S
  | false =>
   rw[cond_false]
   split
   ·rename_i h
    rw[DI,Nat.add_comm 1 m]
    exact Nz r (Sat.nilRow S h)
   ·exact Nz r S
theorem QT:∀(l:List (Nat×Nat×Ty)) {m:Nat} {L:LX} {H:HX} {R':Type} {K:Nat->LX->HX->R} {K':Nat->LX->HX->R'} {Z:R->R'->Prop},(∀ m L H,Z (K m L H) (K' m L H))->Z (Uu l m L H K) (Uu l m L H K')
 | [],m,L,H,R',K,K',Z,h=>h m L H
 | (t,e,τ)::r,m,L,H,R',K,K',Z,h=>by
  unfold Uu
  cases Nat.ble 1000000 t with
  | true =>
   rw[cond_true,cond_true]
   split
   ·split
    ·split
     ·simp only[DI];exact QT r h
     ·exact QT r h
    ·exact QT r h
   ·exact QT r h
  | false =>
   rw[cond_false,cond_false]
   split
   ·simp only[DI];exact QT r h
   ·exact QT r h
def MX(E:Plc)(n0 m:Nat)(L:LX)(H:HX)(K:Nat->LX->HX->Option R):Option R:=Uu E.nils m L H fun m L H=>Vz E.need n0 L H fun L H=>match E.keep with
 | some keep=>canon keep n0 L H K
 | none=>K m L H
theorem PW{E:Plc}{n0 m:Nat}{L:LX}{H:HX}{K:Nat->LX->HX->Option R}{r:R}{I:World->Prop}{n:Nat}{g:Gx}{a:Act}{w:World}{ν:Nat->Value}(hg:g.n0=n0)(S:I8 I n g m L H a w ν)(h:MX E n0 m L H K=some r):
  ∃ m' L' H' ν',K m' L' H'=some r/\I8 I n g m' L' H' a w ν':=by
 unfold MX at h
 obtain⟨m1,L1,H1,ν1,h1,S1⟩:=Nz E.nils (K:=fun m L H=>Vz E.need n0 L H fun L H=>match E.keep with|some keep=>canon keep n0 L H K|none=>K m L H) S
 rw[h1] at h
 obtain⟨L2,H2,h2,S2⟩:=yT (need:=E.need) (n0:=n0) (K:=fun L H=>match E.keep with|some keep=>canon keep n0 L H K|none=>K m1 L H) S1
 rw[h2] at h
 revert h
 cases E.keep with
 | none=>grind
 | some keep =>
  intro h
  obtain⟨m',L',H',ρ,h3,h4⟩:=yR h
  exact⟨_,_,_,_,h3,h4 hg S2⟩
def UX(G:FT)(f id:Nat):Plc:=match Us f G with
 | some fi=>(match fi.give with
  | []=>{}
  | l=>(match l.find? fun p=>Nat.beq p.1 id with|some p=>p.2|none=>{}))
 | none=>{}
theorem ZY(a j:Nat):Nat.blt (a+j) a=false:=by
 simp_all[Bool.eq_false_iff]
def D9:Code->Nat
 | .seq a b|.cond _ a b=>D9 a+D9 b
 | .block _ c=>D9 c
 | .loop c=>D9 c+1
 | _=>0
def Eg:Code->Nat->Option Code
 | .seq a b,k|.cond _ a b,k=>bif Nat.blt k (D9 a) then Eg a k else Eg b (k-D9 a)
 | .block _ c,k=>Eg c k
 | .loop c,k=>bif Nat.beq k 0 then some c else Eg c (k-1)
 | _,_=>none
def OG(T:TT)(G:FT)(Q:Req->Option Rsp)(n f n0:Nat)(keep:List (Plc×Plc)):Code->Nat->Nat->LX->HX->(Exit->Nat->LX->HX->Option Rsp)->Option Rsp
 | .skip,k,m,L,H,K|.label _,k,m,L,H,K=>K .normal m L H
 | .seq a b,k,m,L,H,K=>OG T G Q n f n0 keep a k m L H fun e m L H=>match e with
  | .normal=>OG T G Q n f n0 keep b (k+D9 a) m L H K
  | e=>K e m L H
 | .cond c a b,k,m,L,H,K=>(match F8 L c with
  | some (.b t)=>bif t then OG T G Q n f n0 keep a k m L H K else OG T G Q n f n0 keep b (k+D9 a) m L H K
  | _=>none)
 | .block id c,k,m,L,H,K=>OG T G Q n f n0 keep c k m L H fun e m L H=>match e with
  | .exit id'=>bif Nat.beq id' id then K .normal m L H else K (.exit id') m L H
  | e=>K e m L H
 | .exit id,k,m,L,H,K=>K (.exit id) m L H
 | .ret,k,m,L,H,K=>K .ret m L H
 | .region id ops false,k,m,L,H,K=>MX (UX G f id) n0 m L H fun m L H=>Il T G Q n ops.toList ops.toList m L H fun m L H=>K .normal m L H
 | .region id ops true,k,m,L,H,K=>MX (UX G f id) n0 m L H fun m L H=>I4 T G Q ops.toList ops.toList [] m L H fun tr m L H=>bif AA n ops.toList.toArray tr then K .normal m L H else none
 | .loop c,k,m,L,H,K=>addN 0 k fun k=>(match keep[k]? with
  | some kp=>MX kp.1 n0 m L H fun m L H=>(Q (.loop f k n0 m L H)).bind fun r=>match r with
   | .fin e m L H=>K e m L H
   | _=>none
  | none=>none)
 | _,_,_,_,_,_=>none
def QA(P:Program)(c:Code)(Q:Exit->Act->World->Prop)(a:Act)(w:World):Prop:=∀ b k cs,∃ e a' w',Q e a' w'/\Arrives P (lone (b.at a (.code c::.inLoop c::k)) cs w) b k cs e a' w'
theorem QA.wp{P:Program}{c:Code}{Q:Exit->Act->World->Prop}{a:Act}{w:World}(h:QA P c Q a w):(Code.loop c).wp P Q a w:=by
 intro b k cs
 obtain⟨e,a',w',hq,harr⟩:=h b k cs
 exact⟨e,a',w',hq,.of_steps (.one step_loop) harr⟩
theorem QA.mono{P:Program}{c:Code}{Q Q':Exit->Act->World->Prop}{a:Act}{w:World}(h:QA P c Q a w)(hq:∀ e a w,Q e a w->Q' e a w):QA P c Q' a w:=by
 intro b k cs
 obtain⟨e,a',w',h1,harr⟩:=h b k cs
 grind
theorem QA.unroll{P:Program}{c:Code}{Q:Exit->Act->World->Prop}{a:Act}{w:World}(h:c.wp P (Exit.then (fun a w=>QA P c Q a w) Q) a w):QA P c Q a w:=by
 intro b k cs
 obtain⟨e,a₁,w₁,hq,harr⟩:=h b (.inLoop c::k) cs
 cases e with
 | normal =>
  obtain⟨e₂,a₂,w₂,hq₂,harr₂⟩:=hq b k cs
  exact⟨e₂,a₂,w₂,hq₂,.of_steps (Steps.trans harr (.one step_inLoop)) harr₂⟩
 | exit id|goto l|ret|panic ch|outgrown=>exact⟨_,a₁,w₁,hq,.pass (x:=.inLoop c) rfl (fun _ _=>.inl zan) harr⟩
def A5n(P:Program)(I:World->Prop)(n:Nat)(c:Code)(n0 m:Nat)(L:LX)(H:HX)(e:Exit)(m':Nat)(L':LX)(H':HX):Prop :=
 ∀ g:Gx,g.n0=n0->∀ a w ν,I8 I n g m L H a w ν->QA P c (ag I n g fun e1 m1 L1 H1=>e1=e/\m1=m'/\L1=L'/\H1=H') a w
section
variable {P:Program}{I:World->Prop}{n f n0:Nat}{g:Gx}{T:TT}{G:FT}{Q:Req->Option Rsp}{r:Rsp}{keep:List (Plc×Plc)}{tab:Nat->Option Code}
theorem yU(hT:TTok P I T)(hG:ZP P G)(hQ:QOK P I Q)(hx:P.follows .mixedOrders=true)(hg:g.n0=n0)(hL:∀ k c m L H e m' L' H',tab k=some c->Q (.loop f k n0 m L H)=some (.fin e m' L' H')->A5n P I n c n0 m L H e m' L' H'):
  ∀(c:Code) (k m:Nat) (L:LX) (H:HX) (K:Exit->Nat->LX->HX->Option Rsp) (Φ:PostX),(∀ j c',Eg c j=some c'->j<D9 c->tab (k+j)=some c')->OG T G Q n f n0 keep c k m L H K=some r->(∀ e m L H,K e m L H=some r->Φ e m L H)->Wc P I n g c Φ m L H:=by
 intro c
 induction c with
 | skip=>intro k m L H K Φ hk h hK;exact A1k (hK _ _ _ _ h)
 | label l=>intro k m L H K Φ hk h hK;exact wY (hK _ _ _ _ h)
 | exit id=>intro k m L H K Φ hk h hK;exact A1l (hK _ _ _ _ h)
 | ret=>intro k m L H K Φ hk h hK;exact A4J (hK _ _ _ _ h)
 | seq a b iha ihb =>
  intro k m L H K Φ hk h hK
  rw[OG] at h
  refine A4I (fun e m L H=>(match e with|.normal=>OG T G Q n f n0 keep b (k+D9 a) m L H K|e=>K e m L H)=some r) (iha k m L H _ _ (fun j c' hj hlt=>hk j c' ?_ ?_) h fun e m L H h=>h) (fun m L H h=>ihb _ _ _ _ _ _ (fun j c' hj hlt=>?_) h hK) (fun e m L H he h=>hK e m L H ?_)
  ·simp only[Eg];rw[show Nat.blt j (D9 a)=true from by simpa using hlt];exact hj
  ·grind[D9]
  ·simp_all[Nat.add_assoc,D9,Eg,ZY]
  simp_all
 | cond x a b iha ihb =>
  intro k m L H K Φ hk h hK
  rw[OG] at h
  split at h
  ·rename_i t ht
   refine A1m ht ?_
   cases t with
   | true =>
    refine iha k m L H _ _ (fun j c' hj hlt=>hk j c' ?_ ?_) h hK
    ·simp only[Eg];rw[show Nat.blt j (D9 a)=true from by simpa using hlt];exact hj
    grind[D9]
   | false =>
    refine ihb _ m L H _ _ (fun j c' hj hlt=>?_) h hK
    simp_all[Nat.add_assoc,D9,Eg,ZY]
  ·cases h
 | block id c ih =>
  intro k m L H K Φ hk h hK
  rw[OG] at h
  refine wo (fun e m L H=>(match e with|.exit id'=>bif Nat.beq id' id then K .normal m L H else K (.exit id') m L H|e=>K e m L H)=some r) (ih k m L H _ _ (fun j c' hj hlt=>hk j c' hj hlt) h fun e m L H h=>h) (fun m L H h=>hK _ _ _ _ ?_) (fun e m L H he h=>hK e m L H ?_)
  ·simp_all
  ·cases e with
   | exit id' =>
    have:Nat.beq id' id=false:=by simp_all[Bool.eq_false_iff]
    simp_all
   | _=>exact h
 | region id ops b =>
  intro k m L H K Φ hk h hK
  obtain⟨l⟩:=ops
  cases b with
  | false =>
   rw[OG] at h
   intro a w ν S
   obtain⟨m',L',H',ν',h2,S'⟩:=PW hg S h
   exact rV (yM hT hG hQ (fun m L H h=>hK _ _ _ _ h) l m' L' H' h2) a w ν' S'
  | true =>
   rw[OG] at h
   intro a w ν S
   obtain⟨m',L',H',ν',h,S'⟩:=PW hg S h
   refine A22 (n:=n) hx (yP (fin:=fun tr m L H=>drawChk0 n l.toArray tr=true/\Φ .normal m L H) hT hG hQ (fun tr m L H h=>?_) l [] m' L' H' (fun k R hk=>(S'.res k R hk).1) h) a w ν' S'
   grind[Xn]
 | loop c ih =>
  intro k m L H K Φ hk h hK
  rw[OG,DI,Nat.zero_add] at h
  split at h
  ·rename_i kp hkp
   intro a w ν S
   obtain⟨m',L',H',ν',h1,S'⟩:=PW hg S h
   obtain⟨rr,h3,h4⟩:=Option.bind_eq_some_iff.1 h1
   split at h4
   ·rename_i e m2 L2 H2
    have hs:=hL k c m' L' H' e m2 L2 H2 (by have:=hk 0 c (by simp[Eg]) (by simp[D9]);omega) h3 g hg
    exact wp_mono (hs a w _ S').wp fun e' a' w' ⟨m3,L3,H3,ν3,q,S3⟩=>by
     obtain⟨rfl,rfl,rfl,rfl⟩:=q
     exact⟨_,_,_,ν3,hK _ _ _ _ h4,S3⟩
   ·cases h4
  ·cases h
 | _=>simp_all[OG]
end
end
end Go.Ax
namespace Go.Ax
variable {fn:Func}
noncomputable section
open Go Go.RowKit Go.Eng
set_option linter.unusedVariables false
set_option linter.unusedSimpArgs false
def argX(k:Nat):List AV->LX
 | []=>[]
 | v::r=>(k,v)::argX (k+1) r
theorem A26(vs:List AV):∀(k t:Nat) (s:AV),Iq t (argX k vs)=some s->k<=t/\vs[t-k]?=some s:=by
 induction vs with
 | nil=>intro k t s h;cases h
 | cons v r ih =>
  intro k t s h
  rw[argX,FH] at h
  by_cases e:t=k
  ·simp_all
  grind
def hOf(k:Nat):List Rs->HX
 | []=>[]
 | r::l=>(k,some r)::hOf (k+1) l
theorem VC:∀(l:List Rs) (i k:Nat),hlk k (hOf i l)=EY k (Kq i l)
 | [],i,k=>rfl
 | R::l,i,k=>by rw[hOf,Kq,Em,Bj,VC l]
def rv(tmps:Array Value)(r:ResultVar):Sem Value:=match r with|.tmp t=>pure (tmps.getD t undef)|.cell x t=>do loadVar t (<-asAddr (tmps.getD x undef))
theorem jo(fn:Func)(tmps:Array Value):results fn tmps=(do let vs<-fn.results.mapM (rv tmps);pure (if h:vs.size=1 then vs[0] else .tuple vs)):=rfl
def bn(T:TT)(L:LX)(H:HX):List ResultVar->Option (List AV)
 | []=>some []
 | .tmp t::r=>(match Iq t L,bn T L H r with|some s,some l=>some (s::l)|_,_=>none)
 | .cell t ty::r=>(match Iq t L,Lr ty T,bn T L H r with
  | some (.pa k o),some i,some l=>(match hlk k H with
   | some (.var cells)=>(match Hw (scalar i.u) i.size (cells.drop o) with|some s=>some (s::l)|none=>none)
   | _=>none)
  | _,_,_=>none)
def A27(l:List AV):AV:=match l with|[s]=>s|l=>.tup l
def A28(us:List Value):Value:=match us with|[u]=>u|us=>.tuple us.toArray
variable {R:Type}
def PX:List (Option Rs)->(List (Option Rs)->R)->R
 | [],K=>K []
 | some s::r,K=>TN s fun s=>PX r fun r=>K (some s::r)
 | none::r,K=>PX r fun r=>K (none::r)
theorem QU:∀(l:List (Option Rs)) (K:List (Option Rs)->R),PX l K=K l
 | [],K=>rfl
 | some s::r,K=>by simp only[PX,PH,QU]
 | none::r,K=>by simp only[PX,QU]
def hrw(n0:Nat)(hk:Nat->Option Rs)(k:Nat):Option Rs:=bif Nat.blt k n0 then none else hk k
def hvw(n0:Nat)(hk:Nat->Option Rs)(k:Nat):Option Rs:=match hk k with
 | some (.var l)=>some (.var (bC (hrw n0 hk) l))
 | some (.rowA e s n l)=>some (.rowA e s n (bC (hrw n0 hk) l))
 | R=>R
def W9(hk:Nat->Option Rs):List Nat->List Nat
 | []=>[]
 | k::r=>(match hk k with|some R=>MV R|none=>[])++W9 hk r
def yV(T:TT)(fi:FI)(n0:Nat)(rs:List ResultVar)(L:LX)(H:HX):Option Rsp:=match bn T L H rs with
 | some l=>IV (UO fi.rs (bif fi.own then l else bC (hrw n0 fun k=>hlk k H) l)) fun l'=>Ic (close (bif fi.own then(fun k=>hlk k H) else hvw n0 fun k=>hlk k H) 60 [] (upto n0++FN l')) fun ks =>
   PX (ks.map fun k=>((bif fi.own then(fun k=>hlk k H) else hvw n0 fun k=>hlk k H) k).map (Ho fun k=>idx k ks)) fun Hout =>
    bif nodupB ks&&preB n0 0 ks&&allIn ks (FN l')&&QQ (bif fi.own then(fun k=>hlk k H) else hvw n0 fun k=>hlk k H) ks ks&&OX n0 Hout&&djB ks (bif fi.own then [] else rowsOf (hrw n0 fun k=>hlk k H) (nub [] (FN l++W9 (fun k=>hlk k H) ks)))&&Nat.ble n0 ks.length then
     IV (Hm (fun k=>idx k ks) l') fun l=>force (A27 l) fun s=>some (.ret s Hout)
    else none
 | none=>none
def A4U(T:TT)(fi:FI)(n0:Nat)(rs:List ResultVar)(m:Nat)(L:LX)(H:HX):Option Rsp:=MX fi.fin n0 m L H fun _ L H=>yV T fi n0 rs L H
section
variable {P:Program}{I:World->Prop}{n:Nat}{g:Gx}{m:Nat}{L:LX}{H:HX}{a:Act}{w:World}{ν:Nat->Value}{T:TT}
theorem yX(hT:TTok P I T)(S:I8 I n g m L H a w ν):∀ {rs:List ResultVar} {l:List AV},bn T L H rs=some l->∃ us,(rs.mapM (rv a.tmps)).run P w=.ok us w/\AO ⟨(· < m),ν,Ed g.Oa (fun k=>hlk k H) ν,w⟩ l us
 | [],l,h=>by simp_all[bn,AO]
 | .tmp t::rs,l,h=>by
  simp only[bn] at h
  split at h
  ·rename_i s l' h1 h2
   obtain rfl:=Option.some.inj h
   obtain⟨us,h3,h4⟩:=yX hT S h2
   refine⟨a.tmps.getD t undef::us,?_,by simp only[AO];exact⟨_,us,rfl,S.slots _ _ h1,h4⟩⟩
   simp_all[rv]
  ·cases h
 | .cell t ty::rs,l,h=>by
  simp only[bn] at h
  split at h
  ·rename_i k o i l' h1 hi h2
   split at h
   ·rename_i cells hk
    split at h
    ·rename_i s hs
     obtain rfl:=Option.some.inj h
     obtain⟨us,h3,h4⟩:=yX hT S h2
     obtain⟨_,⟨b,vs,e1,e2,e3,e4⟩,_⟩:=S.res k _ hk
     have hp:=xq (S.slots _ _ h1) e1
     obtain⟨v,hv,hr⟩:=Tn (w:=w) (hT _ _ hi) hs (e3.drop o) (fun u hu=>e4 u (List.mem_of_mem_drop hu)) (e2.cs o)
     refine⟨v::us,?_,by simp only[AO];grind⟩
     simp_all[rv,asAddr]
    ·cases h
   ·cases h
  ·cases h
theorem jq(hT:TTok P I T)(S:I8 I n g m L H a w ν){rs:List ResultVar}(hrs:fn.results.toList=rs){l:List AV}(h:bn T L H rs=some l):
  ∃ us,(results fn a.tmps).run P w=.ok (A28 us) w/\AO ⟨(· < m),ν,Ed g.Oa (fun k=>hlk k H) ν,w⟩ l us:=by
 obtain⟨us,h1,h2⟩:=yX hT S h
 refine⟨us,?_,h2⟩
 rw[jo]
 have h3:(fn.results.mapM (rv a.tmps)).run P w=.ok us.toArray w:=by
  rw[show fn.results=rs.toArray from by rw[<-hrs]]
  simp_all
 simp only[Sem.run_bind,h3,Result.andThen_ok,Sem.run_pure]
 match us with
 | []|[u]=>rfl
 | u::v::r=>simp;rfl
theorem yY{c:Cx}:∀ {l:List AV} {us:List Value},AO c l us->Rep c (A27 l) (A28 us)
 | [s],us,h=>by obtain⟨u,rfl,hr⟩:=AO.un1 h;exact hr
 | [],us,h=>by
  have h':=h
  simp only[AO] at h
  subst h
  simp only[A27,A28,Rep];simp_all
 | s::s'::l,us,h=>by
  have h':=h
  simp only[AO] at h
  obtain⟨u,t,rfl,h1,u',t',rfl,h2,h3⟩:=h
  simp only[A27,A28,Rep];simp_all
theorem yZ{hk:Nat->Option Rs}{ks:List Nat}{k:Nat}{R:Rs}(h:EY k (GU id 0 (ks.map fun k=>(hk k).map (Ho fun k=>idx k ks)))=some R):∃ q R1,ks[k]?=some q/\hk q=some R1/\R=Ho (fun k=>idx k ks) R1:=by
 have:=Vq h
 grind[Option.map_eq_some_iff]
theorem WA{hk:Nat->Option Rs}{k:Nat}{R:Rs}{q:Nat}(hR:hk k=some R)(hq:q∈MV R):∀ {ks:List Nat},k∈ks->q∈W9 hk ks
 | a::ks,h=>by
  simp only[W9]
  rcases List.mem_cons.1 h with rfl|h
  ·simp_all
  ·exact List.mem_append.2 (.inr (WA hR hq h))
theorem yc{n0:Nat}{hk:Nat->Option Rs}{k:Nat}{R:Rs}(h:hrw n0 hk k=some R):hk k=some R:=by
 grind[hrw]
theorem yf{n0:Nat}{hk:Nat->Option Rs}{k:Nat}{R:Rs}(h:hvw n0 hk k=some R):∃ R0,hk k=some R0/\(R=R0\/(∃ l,R0=.var l/\R=.var (bC (hrw n0 hk) l))\/∃ e s n l,R0=.rowA e s n l/\R=.rowA e s n (bC (hrw n0 hk) l)):=by
 unfold hvw at h
 grind
theorem yg(hT:TTok P I T){fi:FI}{n0:Nat}{rs:List ResultVar}{r:Rsp}{w0:World}{O:Nat->Prop}{F:Fp}{ν0:Nat->Value}(hrs:fn.results.toList=rs)(hO:∀ b,Di ν0 F b->O b)(S:I8 I n ⟨w0,Di ν0 F,fun b=>O b/\¬Di ν0 F b,n0,ν0⟩ m L H a w ν)(h:yV T fi n0 rs L H=some r):
  ∃ s Hout v ν',r=.ret s Hout/\(results fn a.tmps).run P w=.ok v w/\Ok ⟨(· < n0),ν0,O,w0⟩ F (GU id 0 Hout) s v w ν':=by
 unfold yV at h
 split at h
 ·rename_i l hl
  obtain⟨us,hrun,hreps⟩:=jq hT S hrs hl
  rw[GY,Dw,QU] at h
  generalize hl':UO fi.rs (bif fi.own then l else bC (hrw n0 fun k=>hlk k H) l)=l' at h
  generalize hhv:(bif fi.own then(fun k=>hlk k H) else hvw n0 fun k=>hlk k H)=hv at h
  generalize hks:close hv 60 [] (upto n0++FN l')=ks at h
  generalize hvs:(bif fi.own then [] else rowsOf (hrw n0 fun k=>hlk k H) (nub [] (FN l++W9 (fun k=>hlk k H) ks)))=vs at h
  cases hc:(nodupB ks&&preB n0 0 ks&&allIn ks (FN l')&&QQ hv ks ks&&OX n0 (ks.map fun k=>(hv k).map (Ho fun k=>idx k ks))&&djB ks vs&&Nat.ble n0 ks.length) with
  | false=>simp_all
  | true =>
   rw[hc] at h
   simp only[cond_true,GY,force_eq,Option.some.injEq] at h
   simp only[Bool.and_eq_true,Ny,L8] at hc
   obtain⟨⟨⟨⟨⟨⟨hnd,hpre⟩,hin⟩,hinH⟩,hnew⟩,hdj⟩,hn0⟩:=hc
   have hn0:n0<=ks.length:=by simpa using hn0
   have hdj:=ZO hdj
   have hvH:∀ k R,EY k vs=some R->hlk k H=some R:=by
    intro k R hk
    rw[<-hvs] at hk
    cases ho:fi.own with
    | true=>simp_all
    | false=>rw[ho] at hk;exact yc (MF hk).1
   have hresG:∀ k R,EY k vs=some R->k<m/\Holds ⟨(· < m),ν,Ed (fun b=>O b/\¬Di ν0 F b) (fun k=>hlk k H) ν,w⟩ k R/\∀ b,blk (ν k)=some b->Ed (fun b=>O b/\¬Di ν0 F b) (fun k=>hlk k H) ν b:=fun k R hk=>by
    obtain⟨r0,r1,r2⟩:=S.res k R (hvH k R hk)
    exact⟨r0,r1,fun b hb=>.inr ⟨k,R,hvH k R hk,hb⟩⟩
   -- the values, without the rows that are read from now on
   have hr1:AO (Cx.less ⟨(· < m),ν,Ed (fun b=>O b/\¬Di ν0 F b) (fun k=>hlk k H) ν,w⟩ vs) l' us:=by
    grind[RJ,AO.le,Cx.less_le,D8,LZ,LY,RI]
   -- the things
   have hthing:∀ k R,k∈ks->hv k=some R->∃ R0,hlk k H=some R0/\Holds (Cx.less ⟨(· < m),ν,Ed (fun b=>O b/\¬Di ν0 F b) (fun k=>hlk k H) ν,w⟩ vs) k R:=by
    intro k R hkk hR
    rw[<-hhv] at hR
    have same:∀ R,hlk k H=some R->Holds (Cx.less ⟨(· < m),ν,Ed (fun b=>O b/\¬Di ν0 F b) (fun k=>hlk k H) ν,w⟩ vs) k R:=fun R hR=>by
     obtain⟨r0,r1,r2⟩:=S.res k R hR
     exact Holds.le (Cx.less_le _ _) (D8 _) rfl (fun b hb=>⟨(r2 b hb).1,rfl⟩) r1
    cases ho:fi.own with
    | true=>grind
    | false =>
     rw[ho] at hR
     have hvw:∀ R0,hlk k H=some R0->∀ q∈MV R0,∀ e t l,hrw n0 (fun k=>hlk k H) q=some (.row e t l)->EY q vs=some (.row e t l):=fun R0 h0 q hq e t l0 hh=>by
      grind[LY,RI,WA]
     obtain⟨R0,h0,h1⟩:=yf (n0:=n0) (hk:=fun k=>hlk k H) hR
     refine⟨R0,h0,?_⟩
     rcases h1 with rfl|⟨l0,rfl,rfl⟩|⟨e,sz,n1,l0,rfl,rfl⟩
     ·grind
     ·obtain⟨_,⟨b,vs1,g1,g2,g3,g4⟩,_⟩:=S.res k _ h0
      exact⟨b,vs1,g1,g2,LZ hresG l0 vs1 (hvw _ h0) g3,g4⟩
     ·obtain⟨_,⟨vs1,g1,g2,g3⟩,_⟩:=S.res k _ h0
      exact⟨vs1,g1,LZ hresG l0 vs1 (hvw _ h0) g2,g3⟩
   obtain⟨hback,hlt⟩:=JI l' hin
   have hHout:=fun {k R} h=>yZ (hk:=hv) (ks:=ks) (k:=k) (R:=R) h
   have hOb:∀ b,((O b/\¬Di ν0 F b)\/Di (fun k=>ν (nth ks k)) (GU id 0 (ks.map fun k=>(hv k).map (Ho fun k=>idx k ks))) b)->Ed (fun b=>O b/\¬Di ν0 F b) (fun k=>hlk k H) ν b/\¬Di ν vs b:=by
    rintro b (hb|⟨k,R,hk,hb⟩)
    ·refine⟨.inl hb,?_⟩
     rintro⟨q,R1,hq,hqb⟩
     obtain⟨_,_,r2⟩:=S.res q R1 (hvH q R1 hq)
     have:=S.amb b hb
     grind
    ·obtain⟨q,R1,h1,h2,rfl⟩:=hHout hk
     have hb:blk (ν (nth ks k))=some b:=hb
     rw[J4 h1] at hb
     obtain⟨R0,h0,_⟩:=hthing q R1 (List.mem_of_getElem? h1) h2
     refine⟨.inr ⟨q,R0,h0,hb⟩,?_⟩
     rintro⟨q',R2,hq',hqb⟩
     refine S.dist q q' R0 R2 b h0 (hvH q' R2 hq') ?_ hb hqb
     rintro rfl
     grind[DD]
   have hN:∀ k,k<ks.length->nth ks k<m->(k<n0\/has k (GU id 0 (ks.map fun k=>(hv k).map (Ho fun k=>idx k ks))))/\(fun k=>ν (nth ks k)) k=ν (nth ks k):=by
    intro k hk _
    refine⟨?_,rfl⟩
    grind[NL,bY]
   have hpin:∀ k,k<n0->nth ks k=k:=fun k hk=>by
    have:=Vx hpre hk
    simp_all[J4]
   refine⟨_,_,_,fun k=>ν (nth ks k),h.symm,hrun,fun k hk=>?_,?_,fun k R hk=>?_,fun k k' R R' b hk hk' hne hb=>?_,S.stp⟩
   ·show ν (nth ks k)=ν0 k
    rw[hpin k hk];exact(S.pin k hk).2
   ·refine yY ?_
    exact AO.ren (ρ:=nth ks) (N:=(· < m)) (ν:=ν) (m:=ks.length) hN (fun w'' hs=>hs.mono fun i _ hi=>hOb i hi) _ us hlt (by rw[hback];exact hr1)
   ·obtain⟨q,R1,h1,h2,rfl⟩:=hHout hk
    have hkl:k<ks.length:=(List.getElem?_eq_some_iff.1 h1).1
    obtain⟨R0,h0,hold⟩:=hthing q R1 (List.mem_of_getElem? h1) h2
    obtain⟨r0,r1,r2⟩:=S.res q R0 h0
    obtain⟨b1,b2⟩:=Tv (R:=R1) (QR hinH (List.mem_of_getElem? h1) h2)
    refine⟨?_,fun b hb=>?_⟩
    ·refine Holds.ren (ρ:=nth ks) (N:=(· < m)) (ν:=ν) (O:=fun b=>Ed (fun b=>O b/\¬Di ν0 F b) (fun k=>hlk k H) ν b/\¬Di ν vs b) (m:=ks.length) hN (fun w'' hs=>hs.mono fun i _ hi=>hOb i hi) rfl b2 ?_
     rw[b1,J4 h1];exact hold
    simp_all[J4]
   ·obtain⟨q,R1,h1,h2,rfl⟩:=hHout hk
    obtain⟨q',R2,h3,h4,rfl⟩:=hHout hk'
    have hb:blk (ν (nth ks k))=some b:=hb
    show blk (ν (nth ks k'))≠some b
    rw[J4 h1] at hb
    rw[J4 h3]
    obtain⟨R0,h0,_⟩:=hthing q R1 (List.mem_of_getElem? h1) h2
    obtain⟨R0',h0',_⟩:=hthing q' R2 (List.mem_of_getElem? h3) h4
    refine S.dist q q' R0 R0' b h0 h0' ?_ hb
    rintro rfl
    grind[List.getElem?_inj]
 ·cases h
theorem A29{f:FuncId}{c:Code}{fi:FI}{ins:List AV}{Hin:List Rs}{s:AV}{Hout:List (Option Rs)}(hT:TTok P I T)(hf:P.funcs[f]?=some fn)(hb:fn.body=some c)(hlen:Nat.ble ins.length fn.ntmps=true)(h:∀ g:Gx,g.n0=Hin.length->Wc P I fn.ntmps g c (fun e m L H=>(e=.normal\/e=.ret)/\A4U T fi Hin.length fn.results.toList m L H=some (.ret s Hout)) Hin.length (argX 0 ins) (hOf 0 Hin)):XD P I f ins Hin s Hout:=by
 intro ν O w args hG hin hP
 have hlen:ins.length<=fn.ntmps:=zau
 have hl:=hin.len
 refine calls_of_wp hf hb ?_
 have hsz:(args.toArray++Array.replicate (fn.ntmps-args.toArray.size) undef).size=fn.ntmps:=zar
 have hF:(fun k=>hlk k (hOf 0 Hin))=fun k=>EY k (Kq 0 Hin):=funext fun k=>VC Hin 0 k
 have hO:∀ b,Di ν (Kq 0 Hin) b->O b:=by rintro b ⟨k,R,hk,hb⟩;exact(hP.res k R hk).2.2 b hb
 have hown:Ed (fun b=>O b/\¬Di ν (Kq 0 Hin) b) (fun k=>EY k (Kq 0 Hin)) ν=O:=by
  funext b
  refine propext ⟨fun hb=>hb.elim (·.1) fun⟨k,R,hk,h⟩=>hO b ⟨k,R,hk,h⟩,fun hb=>?_⟩
  rcases Classical.em (Di ν (Kq 0 Hin) b) with h|h
  ·exact .inr h
  ·exact .inl ⟨hb,h⟩
 refine wp_mono (h ⟨w,Di ν (Kq 0 Hin),fun b=>O b/\¬Di ν (Kq 0 Hin) b,Hin.length,ν⟩ rfl _ w ν ⟨hsz,rfl,Stp.refl _ _,fun b hb=>⟨hG.lt b hb.1,hb.2⟩,fun w' hs=>hG.inv w' zau,fun k hk=>⟨hk,rfl⟩,?_,?_,?_⟩) ?_
 ·intro t s hs
  rw[hF,hown]
  obtain⟨_,hv⟩:=A26 _ _ _ _ hs
  simp only[Nat.sub_zero] at hv
  obtain⟨u,hu,hr⟩:=hin.get hv
  have hlt:t<args.length:=(List.getElem?_eq_some_iff.1 hu).1
  simp_all[Array.getElem?_append_left]
 ·intro k R hk
  rw[hF,hown]
  rw[VC] at hk
  obtain⟨h1,h2,h3⟩:=hP.res k R hk
  exact⟨h1,h2,fun b hb=>⟨hG.lt b (h3 b hb),.inr ⟨k,R,hk,hb⟩⟩⟩
 ·intro k k' R R' b h1 h2
  rw[VC] at h1 h2
  exact hP.dist k k' R R' b h1 h2
 ·rintro e a w' ⟨m',L',H',ν',⟨he,q⟩,S'⟩
  obtain⟨m',L',H',ν',q,S'⟩:=PW rfl S' q
  obtain⟨s1,H1,v,ν2,e1,hrun,ok⟩:=yg hT rfl hO S' q
  simp only[Rsp.ret.injEq] at e1
  obtain⟨rfl,rfl⟩:=e1
  rcases he with rfl|rfl
  ·exact⟨S'.defers,v,hrun,ν2,ok⟩
  ·exact⟨S'.defers,v,hrun,ν2,ok⟩
end
end
end Go.Ax
namespace Go.Ax
open Go Go.RowKit Go.Eng
set_option linter.unusedVariables false
set_option linter.unusedSimpArgs false
variable {t:TypeId}{a x:Option AV}{lo:Int}{b:Option (AV×Fp)}
section
variable {R:Type}{r:R}{T:TT}{hk:Nat->Option Rs}{m:Nat}
def Le{α:Type}(K K':α->Option R)(r:R):Prop:=∀ x,K x=some r->K' x=some r
theorem Gw{K K':AV->Option R}(hK:Le K K' r):rW a K=some r->rW a K'=some r:=by
 unfold rW;intro h;split at h
 ·exact hK _ h
 ·cases h
theorem bind_mono{α:Type}{a:Option α}{K K':α->Option R}(hK:Le K K' r):a.bind K=some r->a.bind K'=some r:=by
 intro h
 obtain⟨x,h1,h2⟩:=Option.bind_eq_some_iff.1 h
 rw[h1];exact hK _ h2
theorem Ae{c:Bool}{a a' b b':Option R}(h1:a=some r->a'=some r)(h2:b=some r->b'=some r):(bif c then a else b)=some r->(bif c then a' else b')=some r:=by
 grind
theorem RU{y:AV}{K K':Nat->Option R}(hK:Le K K' r):Nq y K=some r->Nq y K'=some r:=by
 unfold Nq
 split
 ·exact Ae id (hK _)
 all_goals first|exact hK _|exact id
theorem bu{op:BinOp}{a b:UInt8}{K K':AV->Option R}(hK:Le K K' r):TP op a b K=some r->TP op a b K'=some r:=by
 unfold TP;split
 ·exact Ae id (hK _)
 ·exact id
theorem jr{bt e2:Bool}{en:Nat}{bs:Bool}{op:BinOp}{x y:AV}{K K':AV->Option R}(hK:Le K K' r):XZ bt e2 en bs op x y K=some r->XZ bt e2 en bs op x y K'=some r:=by
 unfold XZ
 split
 ·refine RU fun c=>?_
  split<;>first|exact hK _|exact id
 ·refine RU fun c=>?_
  split<;>first|exact hK _|exact id
 ·repeat' split
  all_goals first|exact hK _|exact id|exact Ae id (hK _)|exact Ae (hK _) id|exact Ae (hK _) (Ae (hK _) id)|exact Ae (hK _) (Ae (hK _) (bu hK))|exact Ae (Ae id (hK _)) id|skip
  all_goals refine Ae ?_ id;split<;>first|exact hK _|exact id
theorem bz{d:Und}{x:AV}{K K':AV->Option R}(hK:Le K K' r):OW d x K=some r->OW d x K'=some r:=by
 unfold OW;split<;>first|exact hK _|exact id
theorem cO{K K':Tr->Option R}(hK:Le K K' r):TQ T hk t x K=some r->TQ T hk t x K'=some r:=by
 unfold TQ
 repeat' split
 all_goals first|exact hK _|exact id|skip
 all_goals refine Ae (bind_mono fun x=>?_) id
 all_goals split<;>first|exact hK _|exact id
theorem ZZ{y:Option (List AV)}{K K':Tr->Option R}(hK:Le K K' r):PI T hk t x y K=some r->PI T hk t x y K'=some r:=by
 unfold PI
 repeat' split
 all_goals first|exact hK _|exact id|skip
 all_goals repeat'(first|exact hK _|exact id|exact Gw (fun x=>hK _)|exact bind_mono (fun x=>hK _)|refine Ae ?_ ?_|refine bind_mono fun x=>?_|split)
theorem cZ{f:Nat}{K K':Tr->Option R}(hK:Le K K' r):TR T t x f K=some r->TR T t x f K'=some r:=by
 unfold TR
 repeat' split
 all_goals first|exact hK _|exact id|skip
 all_goals repeat'(first|exact hK _|exact id|exact Gw (fun x=>hK _)|exact bind_mono (fun x=>hK _)|refine Ae ?_ ?_|refine bind_mono fun x=>?_|split)
theorem dK{ev:Operand->Option AV}{n:Nat}{ps:List (Nat×Operand)}{K K':Tr->Option R}(hK:Le K K' r):TS T ev hk m t n ps K=some r->TS T ev hk m t n ps K'=some r:=by
 unfold TS
 repeat' split
 all_goals first|exact hK _|exact id|skip
 all_goals repeat'(first|exact hK _|exact id|exact Gw (fun x=>hK _)|exact bind_mono (fun x=>hK _)|refine Ae ?_ ?_|refine bind_mono fun x=>?_|split)
theorem tY{l c:Option AV}{K K':Tr->Option R}(hK:Le K K' r):rX T m t l c K=some r->rX T m t l c K'=some r:=by
 unfold rX
 simp only[Qw]
 repeat' split
 all_goals first|exact hK _|exact id|skip
 all_goals repeat'(first|exact hK _|exact id|exact Gw (fun x=>hK _)|exact bind_mono (fun x=>hK _)|refine Ae ?_ ?_|refine bind_mono fun x=>?_|split)
theorem jv{j:Option Int}{K K':Tr->Option R}(hK:Le K K' r):Xa T hk t x j K=some r->Xa T hk t x j K'=some r:=by
 unfold Xa A4M A4N
 repeat' split
 all_goals first|exact hK _|exact id|skip
 all_goals repeat'(first|exact hK _|exact id|exact Gw (fun x=>hK _)|exact bind_mono (fun x=>hK _)|refine Ae ?_ ?_|refine bind_mono fun x=>?_|split)
theorem tZ{j:Option Int}{K K':Tr->Option R}(hK:Le K K' r):rY T t x j K=some r->rY T t x j K'=some r:=by
 unfold rY
 repeat' split
 all_goals first|exact hK _|exact id|skip
 all_goals repeat'(first|exact hK _|exact id|exact Gw (fun x=>hK _)|exact bind_mono (fun x=>hK _)|refine Ae ?_ ?_|refine bind_mono fun x=>?_|split)
theorem jw{x:AV}{F:Fp}{hi mx:Option (Option Int)}{K K':Tr->Option R}(hK:Le K K' r):Xb T t x F lo hi mx K=some r->Xb T t x F lo hi mx K'=some r:=by
 unfold Xb
 repeat' split
 all_goals first|exact hK _|exact id|skip
 all_goals repeat'(first|exact hK _|exact id|exact Gw (fun x=>hK _)|exact bind_mono (fun x=>hK _)|refine Ae ?_ ?_|refine bind_mono fun x=>?_|split)
theorem jy{K K':Tr->Option R}(hK:Le K K' r):Xc T t hk x K=some r->Xc T t hk x K'=some r:=by
 unfold Xc
 repeat' split
 all_goals first|exact hK _|exact id|skip
 all_goals repeat'(first|exact hK _|exact id|exact Gw (fun x=>hK _)|exact bind_mono (fun x=>hK _)|refine Ae ?_ ?_|refine bind_mono fun x=>?_|split)
theorem kK{K K':Tr->Option R}(hK:Le K K' r):Xd T hk m t a b K=some r->Xd T hk m t a b K'=some r:=by
 unfold Xd
 simp only[Qw]
 repeat' split
 all_goals first|exact hK _|exact id|skip
 all_goals repeat'(first|exact hK _|exact id|exact Gw (fun x=>hK _)|exact bind_mono (fun x=>hK _)|refine Ae ?_ ?_|refine bind_mono fun x=>?_|split)
theorem dL{b:Option AV}{K K':Tr->Option R}(hK:Le K K' r):TY T hk m t a b K=some r->TY T hk m t a b K'=some r:=by
 unfold TY
 simp only[DI]
 repeat' split
 all_goals first|exact hK _|exact id|skip
 all_goals repeat'(first|exact hK _|exact id|refine Ae ?_ ?_|split)
theorem dN{K K':Tr->Option R}(hK:Le K K' r):TU T t x K=some r->TU T t x K'=some r:=by
 unfold TU
 repeat' split
 all_goals first|exact hK _|exact id|skip
 all_goals repeat'(first|exact hK _|exact id|refine Ae ?_ ?_|split)
theorem dO{K K':Tr->Option R}(hK:Le K K' r):TV T hk t x K=some r->TV T hk t x K'=some r:=by
 unfold TV
 repeat' split
 all_goals first|exact hK _|exact id|skip
 all_goals repeat'(first|exact hK _|exact id|refine Ae ?_ ?_|split)
theorem dP{hi:Option (Option Int)}{K K':Tr->Option R}(hK:Le K K' r):TW T hk t x lo hi K=some r->TW T hk t x lo hi K'=some r:=by
 unfold TW
 repeat' split
 all_goals first|exact hK _|exact id|skip
 all_goals repeat'(first|exact hK _|exact id|refine Ae ?_ ?_|split)
theorem dQ{t':TypeId}{b:Option AV}{K K':Tr->Option R}(hK:Le K K' r):TZ T hk m t t' a b K=some r->TZ T hk m t t' a b K'=some r:=by
 unfold TZ
 repeat' split
 all_goals first|exact hK _|exact id|skip
 all_goals repeat'(first|exact hK _|exact id|refine Ae ?_ ?_|split)
theorem dR{t':TypeId}{b:Option AV}{K K':Tr->Option R}(hK:Le K K' r):Tc T hk m t t' a b K=some r->Tc T hk m t t' a b K'=some r:=by
 unfold Tc
 repeat' split
 all_goals first|exact hK _|exact id|skip
 all_goals repeat'(first|exact hK _|exact id|refine Ae ?_ ?_|split)
theorem kM{K K':Tr->Option R}(hK:Le K K' r):Xe T hk t a b K=some r->Xe T hk t a b K'=some r:=by
 unfold Xe
 repeat' split
 all_goals first|exact hK _|exact id|skip
 all_goals repeat'(first|exact hK _|exact id|exact Gw (fun x=>hK _)|exact bind_mono (fun x=>hK _)|refine Ae ?_ ?_|refine bind_mono fun x=>?_|split)
theorem dS{K K':Tr->Option R}(hK:Le K K' r):Td T hk t a b K=some r->Td T hk t a b K'=some r:=by
 unfold Td
 repeat' split
 all_goals first|exact hK _|exact id|skip
 all_goals repeat'(first|exact hK _|exact id|refine Ae ?_ ?_|split)
theorem kN{K K':Tr->Option R}(hK:Le K K' r):Xf T hk t a K=some r->Xf T hk t a K'=some r:=by
 unfold Xf
 repeat' split
 all_goals first|exact hK _|exact id|skip
 all_goals repeat'(first|exact hK _|exact id|refine Ae ?_ ?_|split)
theorem kP{K K':Tr->Option R}(hK:Le K K' r):Xg T hk t a lo K=some r->Xg T hk t a lo K'=some r:=by
 unfold Xg
 repeat' split
 all_goals first|exact hK _|exact id|skip
 all_goals repeat'(first|exact hK _|exact id|refine Ae ?_ ?_|split)
theorem tu{ev:Operand->Option AV}{op:Op}{K K':Tr->Option R}(hK:Le K K' r):rZ T ev hk m op K=some r->rZ T ev hk m op K'=some r:=by
 unfold rZ
 split
 all_goals first|exact cO hK|exact ZZ hK|exact cZ hK|exact dK hK|exact tY hK|exact jv hK|exact tZ hK|exact Gw (fun x=>hK _)|skip
 all_goals repeat'(first|exact hK _|exact id|exact Gw (fun x=>hK _)|exact jy hK|exact dN hK|exact dO hK|exact kK hK|exact dL hK|exact dQ hK|exact dR hK|exact dP hK|exact kP hK|exact kN hK|exact dS hK|exact kM hK|exact jw hK|exact jr (fun x=>hK _)|exact bz (fun x=>hK _)|refine Ae ?_ ?_|split)
end
end Go.Ax
namespace Go.Ax
noncomputable section
open Go Go.RowKit Go.Eng
set_option linter.unusedVariables false
set_option linter.unusedSimpArgs false
abbrev Orc:=Req->Option Rsp
def Xo(Q Q':Orc):Prop:=∀ q r,Q q=some r->Q' q=some r
section
variable {R:Type}{r:R}{T:TT}{G:FT}{hk:Nat->Option Rs}{m:Nat}{Q Q':Orc}
theorem RV(hQ:Xo Q Q'){ro:Bool}{f:Nat}{vs:Fp}{al:List AV}{ks:List Nat}{K K':Tr->Option R}(hK:Le K K' r):Qx ro Q hk m f vs al ks K=some r->Qx ro Q' hk m f vs al ks K'=some r:=by
 unfold Qx
 split
 ·refine Ae ?_ id
  simp only[GY,QO]
  intro h
  obtain⟨x,h1,h2⟩:=Option.bind_eq_some_iff.1 h
  rw[hQ _ _ h1]
  simp only[Option.bind_some]
  revert h2
  split
  ·exact Ae (Ae (Ae (hK _) id) (Ae (hK _) (hK _))) id
  ·exact id
 ·exact id
theorem dU(hQ:Xo Q Q'){fx:Option AV}{args:Option (List AV)}{K K':Tr->Option R}(hK:Le K K' r):Ti G Q hk m fx args K=some r->Ti G Q' hk m fx args K'=some r:=by
 unfold Ti
 split
 ·split
  ·simp only[GY,Qy,Dw]
   exact Ae (RV hQ hK) (RV hQ hK)
  ·exact id
 ·exact id
theorem Df(hQ:Xo Q Q'){ev:Operand->Option AV}{op:Op}{K K':Tr->Option R}(hK:Le K K' r):Hy T G Q ev hk m op K=some r->Hy T G Q' ev hk m op K'=some r:=by
 unfold Hy
 grind[dU,tu]
theorem Dh{d:Option Nat}{t:Tr}{L:LX}{H:HX}{K K':Nat->LX->HX->Option R}(hK:∀ m L H,K m L H=some r->K' m L H=some r):IW d t m L H K=some r->IW d t m L H K'=some r:=by
 simp_all[RN]
theorem kQ(hQ:Xo Q Q'){n:Nat}{ops:List Oper}{r:Rsp}:∀(l:List Oper) {m:Nat} {L:LX} {H:HX} {K K':Nat->LX->HX->Option Rsp},(∀ m L H,K m L H=some r->K' m L H=some r)->Il T G Q n ops l m L H K=some r->Il T G Q' n ops l m L H K'=some r:=by
 intro l
 induction l with
 | nil=>intro m L H K K' hK;exact hK _ _ _
 | cons o l ih =>
  intro m L H K K' hK
  rw[Il,Il]
  split
  ·exact Ae (Df hQ fun t=>Dh fun m L H=>ih hK) id
  ·split
   ·split
    ·refine Ae (Ae (Ae (Df hQ fun t=>Dh fun m L H=>ih hK) (ih hK)) (Ae (ih hK) (Df hQ fun t=>Dh fun m L H=>ih hK))) id
    ·exact Ae (ih hK) id
    ·exact id
   ·exact id
theorem kR(hQ:Xo Q Q'){ops:List Oper}:∀(l:List Oper) {tr:List Tr} {m:Nat} {L:LX} {H:HX} {K K':List Tr->Nat->LX->HX->Option R},(∀ tr m L H,K tr m L H=some r->K' tr m L H=some r)->I4 T G Q ops l tr m L H K=some r->I4 T G Q' ops l tr m L H K'=some r:=by
 intro l
 induction l with
 | nil=>intro tr m L H K K' hK;exact hK _ _ _ _
 | cons o l ih =>
  intro tr m L H K K' hK
  rw[I4,I4]
  simp only[Dw,EC]
  split
  ·exact Df hQ fun t=>Dh fun m L H=>ih hK
  ·split
   ·split
    ·refine Ae (Ae (Df hQ fun t=>Dh fun m L H=>ih hK) (ih hK)) (Ae (ih hK) (Df hQ fun t=>Dh fun m L H=>ih hK))
    ·exact ih hK
    ·exact id
   ·exact id
theorem kS{keep:List Nat}{n0:Nat}{L:LX}{H:HX}{K K':Nat->LX->HX->Option R}(hK:∀ m L H,K m L H=some r->K' m L H=some r):canon keep n0 L H K=some r->canon keep n0 L H K'=some r:=by
 unfold canon
 simp only[EC,Dw,HY,DI]
 grind
theorem Fj{E:Plc}{n0 m:Nat}{L:LX}{H:HX}{K K':Nat->LX->HX->Option R}(hK:∀ m L H,K m L H=some r->K' m L H=some r):MX E n0 m L H K=some r->MX E n0 m L H K'=some r:=by
 unfold MX
 refine QT (Z:=fun a b=>a=some r->b=some r) E.nils fun m L H=>A25 (Z:=fun a b=>a=some r->b=some r) fun L H=>?_
 grind[kS]
theorem NM(hQ:Xo Q Q'){n f n0:Nat}{keep:List (Plc×Plc)}{r:Rsp}:∀(c:Code) {k m:Nat} {L:LX} {H:HX} {K K':Exit->Nat->LX->HX->Option Rsp},(∀ e m L H,K e m L H=some r->K' e m L H=some r)->OG T G Q n f n0 keep c k m L H K=some r->OG T G Q' n f n0 keep c k m L H K'=some r:=by
 intro c
 induction c with
 | skip|label l|exit id|ret=>intro k m L H K K' hK;exact hK _ _ _ _
 | seq a b iha ihb =>
  grind[OG]
 | cond x a b iha ihb =>
  intro k m L H K K' hK
  rw[OG,OG]
  grind
 | block id c ih =>
  intro k m L H K K' hK
  rw[OG,OG]
  grind
 | region id ops b =>
  intro k m L H K K' hK
  cases b with
  | false=>grind[OG,Fj,kQ]
  | true=>rw[OG,OG];exact Fj fun m L H=>kR hQ _ fun tr m L H=>Ae (hK _ _ _ _) _root_.id
 | loop c ih =>
  intro k m L H K K' hK
  rw[OG,OG,DI,DI,Nat.zero_add]
  split
  ·refine Fj fun m L H h=>?_
   obtain⟨x,h1,h2⟩:=Option.bind_eq_some_iff.1 h
   rw[hQ _ _ h1]
   grind
  ·exact id
 | _=>simp_all[OG]
end
abbrev CT:=List (Nat×Func)
def wF(k:Nat):CT->Option Func
 | []=>none
 | (d,v)::H=>bif Nat.beq k d then some v else wF k H
structure Env where
 T:TT
 G:FT
 C:CT
 ov:Orc
 vw:List Nat:=[]   -- functions in which a part of a row stays a row
def Env.tt(E:Env)(f:Nat):TT:=bif Nr f E.vw then E.T++E.T.take 1 else E.T
theorem oH:∀(A B:TT) (t:Nat) (i:TI),Lr t (A++B)=some i->Lr t A=some i\/Lr t B=some i
 | [],B,t,i,h=>.inr h
 | (d,v)::A,B,t,i,h=>by
  simp only[List.cons_append,Lr] at h ⊢
  cases hb:Nat.beq t d with
  | true=>rw[hb] at h;exact .inl h
  | false=>rw[hb] at h;exact oH A B t i h
theorem A2A:∀(A:TT) (t:Nat) (i:TI),Lr t (A.take 1)=some i->Lr t A=some i
 | [],t,i,h=>zaF
 | (d,v)::A,t,i,h=>by
  simp only[List.take_succ_cons,List.take_zero,Lr] at h ⊢
  cases hb:Nat.beq t d with
  | true=>rw[hb] at h;exact h
  | false=>rw[hb] at h;cases h
theorem TTok.tt{P:Program}{I:World->Prop}{E:Env}(h:TTok P I E.T)(f:Nat):TTok P I (E.tt f):=by
 unfold Env.tt
 cases Nr f E.vw with
 | false=>exact h
 | true =>
  have hl:∀ t i,Lr t (E.T++E.T.take 1)=some i->Lr t E.T=some i:=fun t i hi=>(oH _ _ t i hi).elim id (A2A _ t i)
  exact⟨fun t i hi=>h.tok t i (hl t i hi),fun t i g l hi=>h.gl t i g l (hl t i hi),fun t i g us hi=>h.ga t i g us (hl t i hi)⟩
def Oi(E:Env)(Q:Orc)(q:Req):Option Rsp:=match E.ov q with
 | some r=>some r
 | none=>match q with
  | .call f args H=>(match wF f E.C,Us f E.G with
   | some fn,some fi=>(match fn.body with
    | some c=>bif Nat.ble args.length fn.ntmps then addN 0 H.length fun n0=>OG (E.tt f) E.G Q fn.ntmps f n0 fi.keep c 0 n0 (argX 0 args) (hOf 0 H) fun e m L H'=>(match e with
      | .normal|.ret=>A4U E.T fi n0 fn.results.toList m L H'
      | _=>none)
     else none
    | none=>none)
   | _,_=>none)
  | .loop f k n0 m L H=>(match wF f E.C,Us f E.G with
   | some fn,some fi=>(match fn.body,fi.keep[k]? with
    | some c,some kp=>(match Eg c k with
     | some b=>OG (E.tt f) E.G Q fn.ntmps f n0 fi.keep b (k+1) m L H fun e m L H=>(match e with
      | .normal=>MX kp.1 n0 m L H fun m L H=>Q (.loop f k n0 m L H)
      | e=>MX kp.2 n0 m L H fun m L H=>some (.fin e m L H))
     | none=>none)
    | _,_=>none)
   | _,_=>none)
theorem kT(E:Env){Q Q':Orc}(hQ:Xo Q Q'):Xo (Oi E Q) (Oi E Q'):=by
 intro q r
 unfold Oi
 split
 ·exact id
 ·split
  ·split
   ·split
    ·simp only[DI]
     refine Ae (NM hQ _ fun e m L H=>?_) id
     exact id
    ·exact id
   ·exact id
  ·split
   ·split
    ·split
     ·refine NM hQ _ fun e m L H=>?_
      cases e<;>first|exact Fj fun m L H=>hQ _ _|exact id
     ·exact id
    ·exact id
   ·exact id
def F(E:Env)(q:Req):Option Rsp:=Oi E (F E) q
partial_fixpoint monotonicity by
 intro F1 F2 h q
 have hQ:Xo F1 F2:=fun q r hq=>by
  have hr:=h q
  generalize F2 q=z at hr ⊢
  generalize F1 q=y at hr hq
  subst hq
  cases hr
  rfl
 have hm:=kT E hQ q
 dsimp only
 generalize Oi E F2 q=z at hm ⊢
 generalize Oi E F1 q=y at hm ⊢
 cases y with
 | none=>exact .bot
 | some r=>grind
def A2B(P:Program)(I:World->Prop)(E:Env)(q:Req)(r:Rsp):Prop:=match q,r with
 | .call f args Hin,.ret s H=>XD P I f args Hin s H
 | .loop f k n0 m L H,.fin e m' L' H'=>∀ fn c b,wF f E.C=some fn->fn.body=some c->Eg c k=some b->A5n P I fn.ntmps b n0 m L H e m' L' H'
 | _,_=>True
structure EnvOK (P:Program) (I:World->Prop) (E:Env):Prop where
 hT:TTok P I E.T
 hG:ZP P E.G
 hC:∀ f fn,wF f E.C=some fn->P.funcs[f]?=some fn
 hx:P.follows .mixedOrders=true
 ov:∀ q r,E.ov q=some r->A2B P I E q r
theorem Xp:∀(c:Code) {k:Nat} {b:Code},Eg c k=some b->k<D9 c:=by
 intro c
 induction c with
 | seq x y ihx ihy =>
  grind[Eg,D9]
 | cond t x y ihx ihy =>
  grind[Eg,D9]
 | block id x ih=>intro k b h;exact ih h
 | loop x ih =>
  grind[Eg,D9,Es]
 | _=>intro k b h;cases h
theorem uA:∀(c:Code) {k:Nat} {b:Code},Eg c k=some b->∀ j c',Eg b j=some c'->Eg c (k+1+j)=some c':=by
 intro c
 induction c with
 | seq x y ihx ihy =>
  intro k b h j c' hj
  simp only[Eg] at h ⊢
  cases hb:Nat.blt k (D9 x) with
  | true =>
   rw[hb] at h
   have h1:=ihx h j c' hj
   have:Nat.blt (k+1+j) (D9 x)=true:=by simpa using Xp x h1
   grind
  | false =>
   rw[hb] at h
   have hk:D9 x<=k:=by
    rcases Nat.lt_or_ge k (D9 x) with h1|h1
    ·have:Nat.blt k (D9 x)=true:=by simpa using h1
     simp_all
    ·exact h1
   have:Nat.blt (k+1+j) (D9 x)=false:=zaU
   rw[this]
   have h1:=ihy h j c' hj
   rw[show k+1+j-D9 x=k-D9 x+1+j from by omega];exact h1
 | cond t x y ihx ihy =>
  intro k b h j c' hj
  simp only[Eg] at h ⊢
  cases hb:Nat.blt k (D9 x) with
  | true =>
   rw[hb] at h
   have h1:=ihx h j c' hj
   have:Nat.blt (k+1+j) (D9 x)=true:=by simpa using Xp x h1
   grind
  | false =>
   rw[hb] at h
   have hk:D9 x<=k:=by
    rcases Nat.lt_or_ge k (D9 x) with h1|h1
    ·have:Nat.blt k (D9 x)=true:=by simpa using h1
     simp_all
    ·exact h1
   have:Nat.blt (k+1+j) (D9 x)=false:=zaU
   rw[this]
   have h1:=ihy h j c' hj
   rw[show k+1+j-D9 x=k-D9 x+1+j from by omega];exact h1
 | block id x ih=>intro k b h j c' hj;exact ih h j c' hj
 | loop x ih =>
  intro k b h j c' hj
  simp only[Eg] at h ⊢
  have h0:Nat.beq (k+1+j) 0=false:=by simp_all[Bool.eq_false_iff]
  rw[h0]
  cases hb:Nat.beq k 0 with
  | true =>
   simp_all
  | false =>
   rw[hb] at h
   have hk:k≠0:=fun e=>zau
   have:=ih h j c' hj
   rw[show k+1+j-1=k-1+1+j from by omega];exact this
 | _=>intro k b h;cases h
section
variable {P:Program}{I:World->Prop}{E:Env}
theorem A6x(h:EnvOK P I E):∀ q r,F E q=some r->A2B P I E q r:=by
 refine F.partial_correctness E _ fun Q hQ q r hr=>?_
 have hq:QOK P I Q:=fun f args Hin s H h=>hQ _ _ h
 cases ho:E.ov q with
 | some r' =>
  simp only[Oi,ho] at hr
  obtain rfl:=Option.some.inj hr
  exact h.ov _ _ ho
 | none =>
  cases q with
  | call f args H =>
   simp only[Oi,ho] at hr
   split at hr
   ·rename_i fn fi hc hfi
    split at hr
    ·rename_i c hb
     cases hlen:Nat.ble args.length fn.ntmps with
     | false=>simp_all
     | true =>
      rw[hlen] at hr
      simp only[cond_true,DI,Nat.zero_add] at hr
      have hS:∀ s Hout,r=.ret s Hout->XD P I f args H s Hout:=by
       rintro s Hout rfl
       refine A29 (fi:=fi) h.hT (h.hC _ _ hc) hb hlen fun g hg=>?_
       refine yU (tab:=fun j=>Eg c j) (h.hT.tt _) h.hG hq h.hx hg (fun k b m L H' e m' L' H'' hk hl=>?_) c 0 _ _ _ _ _ (fun j c' hj _=>by simp_all) hr (fun e m L H' hK=>?_)
       ·exact hQ _ _ hl fn c b hc hb hk
       grind
      cases r with
      | ret s Hout=>exact hS s Hout rfl
      | fin e m L H=>trivial
    ·cases hr
   ·cases hr
  | loop f k n0 m L H =>
   simp only[Oi,ho] at hr
   split at hr
   ·rename_i fn fi hc hfi
    split at hr
    ·rename_i c kp hb hkp
     split at hr
     ·rename_i b hk
      cases r with
      | ret s Hout=>trivial
      | fin e m' L' H' =>
       intro fn' c' b' hc' hb' hk'
       rw[hc] at hc';obtain rfl:=Option.some.inj hc'
       rw[hb] at hb';obtain rfl:=Option.some.inj hb'
       rw[hk] at hk';obtain rfl:=Option.some.inj hk'
       intro g hg a w ν S
       refine QA.unroll ?_
       have hfs:=yU (n:=fn.ntmps) (f:=f) (keep:=fi.keep) (tab:=fun j=>Eg c j) (Φ:=fun e1 m1 L1 H1=>(match e1 with
        | .normal=>MX kp.1 n0 m1 L1 H1 fun m L H=>Q (.loop f k n0 m L H)
        | e=>MX kp.2 n0 m1 L1 H1 fun m L H=>some (Rsp.fin e m L H))=some (Rsp.fin e m' L' H')) (h.hT.tt _) h.hG hq h.hx hg (fun k b m L H' e m' L' H'' hk hl=>hQ _ _ hl fn c b hc hb hk) b (k+1) m L H _ (fun j c' hj _=>uA c hk j c' hj) hr (fun e m L H' hK=>hK) a w ν S
       have out:∀(e1:Exit) m1 L1 H1 a1 w1 ν1,(MX kp.2 n0 m1 L1 H1 fun m L H=>some (Rsp.fin e1 m L H))=some (Rsp.fin e m' L' H')->I8 I fn.ntmps g m1 L1 H1 a1 w1 ν1->ag I fn.ntmps g (fun e1 m1 L1 H1=>e1=e/\m1=m'/\L1=L'/\H1=H') e1 a1 w1:=by
        intro e1 m1 L1 H1 a1 w1 ν1 hc1 S1
        obtain⟨m2,L2,H2,ν2,g1,g2⟩:=PW hg S1 hc1
        simp only[Option.some.injEq,Rsp.fin.injEq] at g1
        obtain⟨rfl,rfl,rfl,rfl⟩:=g1
        exact⟨_,_,_,_,⟨rfl,rfl,rfl,rfl⟩,g2⟩
       refine wp_mono hfs ?_
       rintro e1 a1 w1 ⟨m1,L1,H1,ν1,q,S1⟩
       cases e1 with
       | normal =>
        obtain⟨m2,L2,H2,ν2,g1,g2⟩:=PW hg S1 q
        exact hQ _ _ g1 fn c b hc hb hk g hg a1 w1 _ g2
       | _=>exact out _ _ _ _ _ _ _ q S1
     ·cases hr
    ·cases hr
   ·cases hr
theorem A4V(h:EnvOK P I E){f:FuncId}{args:List AV}{Hin:List Rs}{s:AV}{Hout:List (Option Rs)}(hF:F E (.call f args Hin)=some (.ret s Hout)):XD P I f args Hin s Hout:=A6x h _ _ hF
end
end
end Go.Ax
namespace Go.Ax
open Go Go.RowKit Go.Eng
set_option linter.unusedVariables false
set_option linter.unusedSimpArgs false
variable {P:Program}
def A4W:AV->AV->Bool
 | .un,.un=>true
 | .b x,.b y=>x==y
 | .i x,.i y|.u8 x,.u8 y|.u32 x,.u32 y|.u64 x,.u64 y|.str x,.str y=>decide (x=y)
 | .nil,.nil=>true
 | _,_=>false
theorem A2C{a b:AV}(h:A4W a b=true):a=b:=by
 unfold A4W at h
 grind
def oI:List AV->List AV->Bool
 | [],[]=>true
 | a::l,b::m=>A4W a b&&oI l m
 | _,_=>false
theorem dV:∀ {a b:List AV},oI a b=true->a=b
 | [],[],_=>rfl
 | a::l,b::m,h=>by simp only[oI,Bool.and_eq_true] at h;rw[A2C h.1,dV h.2]
 | [],_::_,h|_::_,[],h=>zaF
def A5o(P:Program)(t:TypeId)(i:TI):Bool:=match i.u,P.underlying t with
 | .bool,some .bool|.i64,some (.int .i64)|.u8,some (.int .u8)|.u32,some (.int .u32)|.u64,some (.int .u64)|.str,some .string=>true
 | .sl e,some (.slice e')=>Nat.beq e e'
 | .fld pl sc,some (.struct _)=>(match Va P t,sD P t with|some pl',some sc'=>decide (pl'=pl)&&decide (sc'=sc)|_,_=>false)
 | .arr n e,some (.array n' e')=>Nat.beq n n'&&Nat.beq e e'
 | .ptr e,some (.pointer e')=>Nat.beq e e'
 | .oth,some d=>MR d
 | _,_=>false
def A5p(P:Program)(t:TypeId)(i:TI):Bool:=match P.info? t with
 | some ti=>(match ti.zero with
  | some z=>oI (z.cells.toList.map AV.of) i.zero&&Nat.beq z.cells.size i.size&&z.cells.toList.all (·.oneCell')
  | none=>false)&&Nat.beq ti.size i.size&&Nat.beq ti.bytes i.bytes&&Nat.blt 0 i.bytes
 | none=>false
def A5q(P:Program)(t:TypeId):Bool:=match P.underlying t with
 | some (.array n e)=>Nat.beq n 2&&(match P.underlying e with|some (.int .i64)=>true|_=>false)&&(match P.info? e with|some i=>Nat.beq i.size 1|none=>false) && !P.eqGuardType P.depth t
 | _=>false
def A4X(P:Program)(t:TypeId)(n:Nat):Bool:=match P.underlying t with
 | some (.struct fs) => !P.stoodInHeld t&&fs.toList.all (fun f=>(match decEq f.name "_" with|isTrue _=>false|isFalse _=>true)&&(match P.underlying f.type with|some (.int .i64)=>true|_=>false))&&decide (fs.toList.map (·.offset)=List.range' 0 n) && !P.eqGuardType P.depth t
 | _=>false
theorem A2D{t:TypeId}{n:Nat}(h:A4X P t n=true):E6 P t n:=by
 unfold A4X at h
 split at h
 ·rename_i fs hu
  simp only[Bool.and_eq_true,Bool.not_eq_true',decide_eq_true_eq,List.all_eq_true] at h
  obtain⟨⟨⟨h1,h2⟩,h3⟩,h4⟩:=h
  have hfs:P.fieldsOf t=fs:=by unfold Program.fieldsOf;rw[hu]
  refine⟨by rw[hfs];exact hu,h1,fun f hf=>?_,by rw[hfs];exact h3,h4⟩
  rw[hfs] at hf
  obtain⟨h5,h6⟩:=h2 f hf
  refine⟨?_,?_⟩
  ·split at h5
   ·cases h5
   ·assumption
  ·split at h6
   ·assumption
   ·cases h6
 ·cases h
def A4Y(P:Program)(t:TypeId)(i:TI):Bool:=A5o P t i&&A5p P t i&&(match i.ty with|some τ=>Nat.beq τ.n i.size|none=>true)&&(!i.eq2||A5q P t)&&(!Nat.blt 0 i.eqn||A4X P t i.eqn)
theorem A2E{t:TypeId}{i:TI}(h:A4Y P t i=true):TOK P t i:=by
 simp only[A4Y,Bool.and_eq_true] at h
 obtain⟨⟨⟨⟨h1,h2⟩,h3⟩,h4⟩,hq⟩:=h
 have hq:0<i.eqn->E6 P t i.eqn:=fun h0=>by
  have h0:Nat.blt 0 i.eqn=true:=by simpa using h0
  rw[h0] at hq
  exact A2D (by simpa using hq)
 have hu:(match i.u with
  | .bool=>P.underlying t=some .bool
  | .i64=>P.underlying t=some (.int .i64)
  | .u8=>P.underlying t=some (.int .u8)
  | .u32=>P.underlying t=some (.int .u32)
  | .u64=>P.underlying t=some (.int .u64)
  | .str=>P.underlying t=some .string
  | .sl el=>P.underlying t=some (.slice el)
  | .fld pl sc=>Va P t=some pl/\sD P t=some sc
  | .arr n el=>P.underlying t=some (.array n el)
  | .ptr el=>P.underlying t=some (.pointer el)
  | .oth=>∃ d,P.underlying t=some d/\MR d=true):=by
  unfold A5o at h1
  split at h1
  case _ hu hp=>rw[hu];exact hp
  case _ hu hp=>rw[hu];exact hp
  case _ hu hp=>rw[hu];exact hp
  case _ hu hp=>rw[hu];exact hp
  case _ hu hp=>rw[hu];exact hp
  case _ hu hp=>rw[hu];exact hp
  case _ hu hp=>rw[hu];simp only;rw[Es h1];exact hp
  case _ hu hp =>
   rw[hu]
   simp only
   split at h1
   ·rename_i pl' sc' e1 e2
    simp only[Bool.and_eq_true,decide_eq_true_eq] at h1
    exact⟨e1.trans (by rw[h1.1]),e2.trans (by rw[h1.2])⟩
   ·cases h1
  case _ hu hp =>
   rw[hu]
   simp only
   simp only[Bool.and_eq_true] at h1
   rw[Es h1.1,Es h1.2];exact hp
  case _ hu hp=>rw[hu];simp only;rw[Es h1];exact hp
  case _ hu hp=>rw[hu];exact⟨_,hp,h1⟩
  case _=>cases h1
 unfold A5p at h2
 split at h2
 ·rename_i ti hi
  simp only[Bool.and_eq_true] at h2
  obtain⟨⟨⟨h5,h6⟩,h7⟩,h8⟩:=h2
  split at h5
  ·rename_i z hz
   simp only[Bool.and_eq_true] at h5
   obtain⟨⟨h9,h10⟩,h11⟩:=h5
   refine⟨hu,by rw[hi];simp only[Option.map_some,Es h6],⟨z,?_,dV h9,Es h10,h11,by simpa using h8⟩,fun τ hτ=>?_,fun he=>?_,hq⟩
   ·rw[hi];simp only[Option.map_some,hz,Es h6,Es h7]
   ·rw[hτ] at h3;exact Es h3
   ·rw[he] at h4
    simp only[Bool.not_true,Bool.false_or] at h4
    unfold A5q at h4
    split at h4
    ·rename_i n e hp
     simp only[Bool.and_eq_true,Bool.not_eq_true'] at h4
     obtain⟨⟨⟨g1,g2⟩,g3⟩,g4⟩:=h4
     split at g2
     ·rename_i g2'
      split at g3
      ·rename_i ie g3'
       have hs:=Es g3
       refine⟨e,by rw[hp,Es g1],g2',by rw[g3'];simp only[Option.map_some,hs],by simp[Program.cellsOf,g3',hs],g4⟩
      ·cases g3
     ·cases g2
    ·cases h4
  ·cases h5
 ·cases h2
def ttB(P:Program):TT->Bool
 | []=>true
 | (t,i)::r=>A4Y P t i&&ttB P r
theorem yh{P:Program}:∀ {T:TT},ttB P T=true->∀ t i,Lr t T=some i->TOK P t i
 | [],_,t,i,h=>zaF
 | (d,v)::r,h,t,i,ht=>by
  simp only[ttB,Bool.and_eq_true] at h
  simp only[Lr] at ht
  cases hb:Nat.beq t d with
  | true=>grind[Es,A2E]
  | false=>rw[hb] at ht;exact yh h.2 t i ht
inductive CTok (P:Program):CT->Prop
 | nil:CTok P []
 | cons {d:Nat} {v:Func} {C:CT}:P.funcs[d]?=some v->CTok P C->CTok P ((d,v)::C)
theorem CTok.get{C:CT}(h:CTok P C):∀ f fn,wF f C=some fn->P.funcs[f]?=some fn:=by
 induction h with
 | nil=>intro f fn h;cases h
 | @cons d v C h1 _ ih =>
  grind[wF,Es]
inductive EntL (P:Program):FT->Prop
 | nil:EntL P []
 | cons {d:Nat} {v:FI} {C:FT}:Ent P d->EntL P C->EntL P ((d,v)::C)
theorem A2F{G:FT}(h:EntL P G):ZP P G:=by
 induction h with
 | nil=>intro f fn h;cases h
 | @cons d v C h1 _ ih =>
  intro f fn h
  simp only[Us] at h
  cases hb:Nat.beq f d with
  | true=>simp_all
  | false=>rw[hb] at h;exact ih f fn h
end Go.Ax
namespace Go.Ax
open Go Go.RowKit Go.Eng
set_option linter.unusedVariables false
set_option linter.unusedSimpArgs false
variable {a:Int}{α:Type}{b:Int}(l:List α)
theorem wrap64{n:Int}(h : -9223372036854775808<=n/\n<=9223372036854775807):IntKind.i64.wrap n=n:=by
 have e1:(2:Int)^IntKind.i64.bits=18446744073709551616:=rfl
 have e2:(2:Int)^(IntKind.i64.bits-1)=9223372036854775808:=rfl
 have e3:IntKind.i64.signed=true:=rfl
 unfold IntKind.wrap
 grind
theorem D7(h : -9223372036854775808<=a+b/\a+b<=9223372036854775807):Bl a b=a+b:=by rw[wu];exact wrap64 h
theorem EI(h : -9223372036854775808<=a-b/\a-b<=9223372036854775807):CS a b=a-b:=by rw[ww];exact wrap64 h
theorem MG(h : -9223372036854775808<=a*b/\a*b<=9223372036854775807):CU a b=a*b:=by rw[wz];exact wrap64 h
theorem RX(h:0<=a/\a<=9223372036854775807/\1<=b):CJ a b=a/b:=by
 have h1:a.tdiv b=a/b:=Int.tdiv_eq_ediv_of_nonneg h.1
 rw[x9];unfold iquo0;rw[h1]
 have h2:0<=a/b:=Int.ediv_nonneg h.1 zaa
 have h3:a/b<=a:=Int.ediv_le_self _ h.1
 grind[wrap64]
theorem O3(h:0<=a):Bh a b=a%b:=by rw[xA];exact Int.tmod_eq_emod_of_nonneg h
theorem RY(h : -9223372036854775807<=a/\a<=9223372036854775807):CV a = -a:=by rw[xB];exact wrap64 zaa
theorem RZ(h : -9223372036854775808<=a/\a<=9223372036854775807):CW a=a:=by rw[xH];exact wrap64 h
theorem Ep(h:a=b):Du a b=true:=by simp[Qu,ieq0,h]
theorem JK(h:a≠b):Du a b=false:=by simp[Qu,ieq0,h]
theorem Ko(h:a≠b):EN a b=true:=by simp[UN,ine0,h]
theorem Jh(h:a=b):EN a b=false:=by simp[UN,ine0,h]
theorem Dn(h:a<b):E5 a b=true:=by simp[ND,ilt0,h]
theorem Iw(h:b<=a):E5 a b=false:=by simp[ND,ilt0];omega
theorem Fh(h:a<=b):EH a b=true:=by simp[OE,ile0,h]
theorem UY(h:b<a):EH a b=false:=by simp[OE,ile0];omega
theorem WB(h:Du a b=true):a=b:=by simpa [Qu,ieq0] using h
theorem WC(h:Du a b=false):a≠b:=by simpa [Qu,ieq0] using h
theorem WE(h:EN a b=true):a≠b:=by simpa [UN,ine0] using h
theorem WF(h:EN a b=false):a=b:=by simpa [UN,ine0] using h
theorem Jb(h:E5 a b=true):a<b:=by simpa [ND,ilt0] using h
theorem Jc(h:E5 a b=false):b<=a:=by simpa [ND,ilt0] using h
theorem AC:Aw l=(l.length:Int):=by rw[Z7];rfl
theorem Ap(m:List α):BI l m=l++m:=by rw[ZA];rfl
theorem Za(m:List α):CB l m=m.take l.length++l.drop m.length:=by rw[xP];rfl
theorem FO(n:Int)(a:α):BR n a=List.replicate n.toNat a:=by rw[Z9];rfl
theorem EU(i:Int)(a:α):BL l i a=l.set i.toNat a:=by rw[xO];rfl
theorem MZ{l:List α}{i:Int}{a:α}(h:0<=i)(h2:l[i.toNat]?=some a):Ah l i=some a:=by simp_all[KR,lget0]
theorem D5(i:Nat):Ah l (i:Int)=l[i]?:=by simp_all[KR,lget0]
theorem Jk{l:List α}{i:Int}(h:0<=i/\i<l.length):CY l i=true:=by simp_all[xN,linb0]
theorem NP:Bi l 0 (Aw l)=some l:=by
 simp_all[Z8,lcut0,AC]
theorem Lc{l:List α}{lo hi:Int}(h:0<=lo/\lo<=hi/\hi<=l.length):Bi l lo hi=some ((l.drop lo.toNat).take (hi-lo).toNat):=by rw[Z8,lcut0,if_pos h]
theorem EF{l:List α}{b:Nat}(h:l.length*b<=140737488355328):fits l b=true:=by simp_all[VW,fits0]
theorem QV{n:Int}{b:Nat}(h:0<=n/\b*n.toNat<=281474976710656):Cb n b=true:=by simp_all[xR,fitn0]
theorem U0{a b:List Int}(h:a=b):CQ a b=true:=by simp[ZB,ieqs0,h]
theorem WG{a b:List UInt8}(h:a=b):CG a b=true:=by simp[xG,seq0,h]
theorem Xq{a b:List UInt8}(h:a≠b):CG a b=false:=by simp[xG,seq0,h]
theorem DJ(a:Bool):Bz a = !a:=by rw[xE];rfl
theorem GZ(a b:Bool):and' a b=(a&&b):=by rw[A3f];rfl
theorem Oj(a:UInt8):Dv a=(a.toNat:Int):=by rw[xI];rfl
theorem EM(a:Int):DT a=UInt8.ofInt a:=by rw[A3g];rfl
theorem J5(a:Int):BJ a=UInt64.ofInt a:=by rw[En];rfl
theorem Rf(a:UInt64):BB a=a.toUInt8:=by rw[nT];rfl
theorem dW(a:UInt8):BD a=a.toUInt64:=by rw[nR];rfl
theorem PY{a:UInt64}(h:a.toNat<=9223372036854775807):CX a=(a.toNat:Int):=by rw[xJ];exact wrap64 zaa
theorem NQ{c:Int}(h:0<=c/\c<18446744073709551616):(UInt64.ofInt c).toNat=c.toNat:=by
 grind[UInt64.ofInt,UInt64.toNat_ofNat']
theorem dX{c:Int}(h:0<=c/\c<256):(UInt8.ofInt c).toNat=c.toNat:=by
 grind[UInt8.ofInt,UInt8.toNat_ofNat']
theorem PZ{a:UInt64}{c:Nat}(h:c<64):AY a c=a>>>UInt64.ofNat c:=by
 apply UInt64.toNat_inj.1
 rw[VV];unfold u64shr0
 rw[UInt64.toNat_shiftRight,Nat.shiftRight_eq_div_pow,UInt64.toNat_ofNat',UInt64.toNat_ofNat',Nat.min_eq_left zaa]
 have h2:c%2^64%64=c:=zaa
 rw[h2]
 have:=a.toNat_lt
 exact Nat.mod_eq_of_lt (Nat.lt_of_le_of_lt (Nat.div_le_self _ _) this)
theorem Xr{a:UInt64}{c:Nat}(h:c<64):Aa a c=a<<<UInt64.ofNat c:=by
 rw[ai];unfold u64shl0
 apply UInt64.toNat_inj.1
 rw[Nat.min_eq_left zaa,UInt64.toNat_shiftLeft,Nat.shiftLeft_eq,UInt64.toNat_ofNat']
 have h2:c%2^64%64=c:=zaa
 grind[UInt64.ofInt,UInt64.toNat_ofNat']
theorem dY(a b:UInt64):Ar .or a b=a|||b:=by rw[Dq];rfl
theorem A2G{a b:UInt64}(h:b.toNat<a.toNat):AQ .gtr a b=true:=by simp_all[JX,u64cmp0,Um]
theorem A2H{a b:UInt64}(h:a.toNat<=b.toNat):AQ .gtr a b=false:=by simp_all[JX,u64cmp0,Um]
theorem yj(a:UInt8):Be (a.toNat:Int) 8=(a.toNat:Int)*2^(8:Int).toNat:=by
 have:=a.toNat_lt
 rw[VU];unfold ishl0
 rw[show min 8 64=8 from rfl,show(2:Int)^(8:Int).toNat=256 from rfl,show(2:Int)^8=256 from rfl]
 grind[wrap64]
theorem kU(a b:Int):Ak .or a b=bits .or .i64 a b:=by rw[Nl];rfl
end Go.Ax
namespace Go.Ax
open Go Go.Eng Go.RowKit
set_option linter.unusedVariables false
def Rh:Nat->UInt64->List UInt8
 | 0,_=>[]
 | k+1,x=>(x>>>UInt64.ofNat (8*k)).toUInt8::Rh k x
theorem J6(k:Nat)(x:UInt64):(Rh k x).length=k:=by induction k with|zero=>rfl|succ k ih=>simp[Rh,ih]
def BH(b:List UInt8)(size n:Int):List UInt8:=if size<1\/8<size then b else b++Rh size.toNat (UInt64.ofInt n)
theorem Xt(b:List UInt8)(size n:Int):(BH b size n).length<=b.length+8:=by
 grind[BH,J6]
def Gy(b x:List UInt8):List UInt8:=BH b 2 ((x.take 65535).length:Int)++x.take 65535
theorem WH(x y:UInt8):bits .or .i64 ((x.toNat:Int)*2^(8:Int).toNat) (y.toNat:Int)=((x.toNat*256+y.toNat:Nat):Int):=by
 have hx:=x.toNat_lt
 have hy:=y.toNat_lt
 have h:=aN (x.toNat*256) y.toNat zaa zaa
 rw[show((x.toNat:Int)*2^(8:Int).toNat)=((x.toNat*256:Nat):Int) from by simp,h]
 have:=Nat.shiftLeft_add_eq_or_of_lt (i:=8) (show y.toNat<2^8 by omega) x.toNat
 simp_all[Nat.shiftLeft_eq]
def yl(l:List UInt8):UInt64:=l.foldl (fun n x=>n<<<8|||x.toUInt64) 0
def IZ(b:List UInt8)(at':Nat)(e size:Int):Int×Nat×Int :=
 if e≠0 then(0,at',e) else if size<1\/8<size then(0,at',1) else if b.length<at'+size.toNat then(0,at',2)
 else if 9223372036854775807<(yl ((b.drop at').take size.toNat)).toNat then(0,at',4) else((yl ((b.drop at').take size.toNat)).toNat,at'+size.toNat,0)
def XE(b:List UInt8)(at':Nat)(e n:Int):List UInt8×Nat×Int :=
 if e≠0 then([],at',e) else if n<0 then([],at',1) else if b.length<at'+n.toNat then([],at',2) else((b.drop at').take n.toNat,at'+n.toNat,0)
def FK(b:List UInt8)(at':Nat):Nat:=(b.getD at' 0).toNat*256+(b.getD (at'+1) 0).toNat
def MH(b:List UInt8)(at':Nat)(e most:Int):List UInt8×Nat×Int :=
 if e≠0 then([],at',e) else if b.length<at'+2 then([],at',2) else if most<FK b at' then([],at',4)
 else if b.length<at'+2+FK b at' then([],at',2) else((b.drop (at'+2)).take (FK b at'),at'+2+FK b at',0)
def aG(b:List UInt8)(at':Nat)(e:Int):Int:=if e=0/\at'<b.length then 3 else e
theorem A4Z{b:List UInt8}{at':Nat}{e size:Int}(h:at'<=b.length):(IZ b at' e size).2.1<=b.length:=by
 grind[IZ]
theorem A4a{b:List UInt8}{at':Nat}{e most:Int}(h:at'<=b.length):(MH b at' e most).2.1<=b.length:=by
 grind[MH]
end Go.Ax
namespace Go.Ax
open Go Go.RowKit Go.Eng
set_option linter.unusedVariables false
set_option linter.unusedSimpArgs false
variable (a b:UInt8)
theorem O4{α:Type}{l:List α}{n:Nat}(h:n<l.length):Ah l (n:Int)=some (l[n]'h):=by simp_all[D5]
theorem DZ{α:Type}{l:List α}{i:Int}(h:0<=i/\i<l.length):Ah l i=some (l[i.toNat]'zaa):=by simp_all[KR,lget0]
theorem Hq(a b:Int):Du a b=decide (a=b):=by simp only[Qu,ieq0];rfl
theorem JA(a b:Int):EN a b = !decide (a=b):=by simp only[UN,ine0];rfl
theorem Io(a b:Int):E5 a b=decide (a<b):=by rw[ND];rfl
theorem JB(a b:Int):EH a b=decide (a<=b):=by rw[OE];rfl
theorem JL:Az .eql a b=Du (a.toNat:Int) b.toNat:=by rw[Np,Qu];rfl
theorem L9:Az .neq a b=EN (a.toNat:Int) b.toNat:=by rw[Np,UN];rfl
theorem LC:Az .lss a b=E5 (a.toNat:Int) b.toNat:=by rw[Np,ND];rfl
theorem LD:Az .leq a b=EH (a.toNat:Int) b.toNat:=by rw[Np,OE];rfl
theorem LG:Az .gtr a b=E5 (b.toNat:Int) a.toNat:=by rw[Np,ND];rfl
theorem LH:Az .geq a b=EH (b.toNat:Int) a.toNat:=by rw[Np,OE];rfl
theorem Jl(a b:UInt64):AQ .eql a b=Du (a.toNat:Int) b.toNat:=by rw[JX,Qu];rfl
theorem Jm(a b:UInt64):AQ .neq a b=EN (a.toNat:Int) b.toNat:=by rw[JX,UN];rfl
theorem Jn(a b:UInt64):AQ .lss a b=E5 (a.toNat:Int) b.toNat:=by rw[JX,ND];rfl
theorem Jo(a b:UInt64):AQ .leq a b=EH (a.toNat:Int) b.toNat:=by rw[JX,OE];rfl
theorem Jp(a b:UInt64):AQ .gtr a b=E5 (b.toNat:Int) a.toNat:=by rw[JX,ND];rfl
theorem IX(a b:UInt64):AQ .geq a b=EH (b.toNat:Int) a.toNat:=by rw[JX,OE];rfl
theorem dZ:CO .xor a b=a^^^b:=by rw[jc];rfl
theorem A2I:CO .or a b=a|||b:=by rw[jc];rfl
theorem A2J{c:Int}(h:0<=c/\c<=8):(Ar .mul (UInt64.ofNat 8) (BJ c)).toNat=(8*c).toNat:=by
 rw[Dq,J5]
 show((UInt64.ofNat 8)*(UInt64.ofInt c)).toNat=_
 grind[UInt64.toNat_mul,NQ]
theorem yu(k:Nat)(hk:k<=62)(n:Int):bits .and .i64 n ((2^k-1:Nat):Int)=n%((2^k:Nat):Int):=by
 have hp:0<2^k:=Nat.pow_pos zaa
 have hlt:2^k<=2^62:=Nat.pow_le_pow_right zaa hk
 have h1:(BitVec.ofInt 64 ((2^k-1:Nat):Int)).toNat=2^k-1:=by
  grind
 have key:(BitVec.ofInt 64 n&&&BitVec.ofInt 64 ((2^k-1:Nat):Int)).toNat=(n%((2^64:Nat):Int)).toNat%2^k:=by
  grind[BitVec.toNat_ofInt,Nat.and_two_pow_sub_one_eq_mod]
 show IntKind.i64.wrap ((BitVec.ofInt 64 n&&&BitVec.ofInt 64 ((2^k-1:Nat):Int)).toNat:Nat)=n%_
 rw[key,IntKind.wrap_i64]
 have hd:((2^k:Nat):Int)∣((2^64:Nat):Int):=by
  refine⟨((2^(64-k):Nat):Int),?_⟩
  rw[<-Int.natCast_mul,<-Nat.pow_add];grind
 have h2:((((n%((2^64:Nat):Int)).toNat%2^k:Nat)):Int)=n%((2^k:Nat):Int):=by
  grind[Int.emod_emod_of_dvd]
 omega
theorem Jq(k:Nat)(hk:k<=62)(n:Int):Ak .and n ((2^k-1:Nat):Int)=n%((2^k:Nat):Int):=by rw[Nl];exact yu k hk n
end Go.Ax
namespace Go.Ax
open Go Go.Eng Go.RowKit
set_option linter.unusedVariables false
set_option linter.unusedSimpArgs false
variable {b x r:List UInt8}{n p:Nat}(l:List UInt8)
def QW(l:List UInt8):Nat:=l.foldl (fun n x=>n*256+x.toNat) 0
theorem A2K:∀ a:Nat,l.foldl (fun n x=>n*256+x.toNat) a=a*256^l.length+QW l:=by
 induction l with
 | nil=>grind[QW]
 | cons x l ih =>
  intro a
  rw[List.foldl_cons,ih]
  have e:QW (x::l)=x.toNat*256^l.length+QW l:=by
   rw[show QW (x::l)=l.foldl (fun n x=>n*256+x.toNat) (0*256+x.toNat) from rfl,ih];simp
  grind
theorem Xu(x:UInt8)(l:List UInt8):QW (x::l)=x.toNat*256^l.length+QW l:=by
 grind[QW,A2K]
theorem A2L(n:UInt64)(x:UInt8)(h:n.toNat<2^56):(n<<<8|||x.toUInt64).toNat=n.toNat*256+x.toNat:=by
 have hx:=x.toNat_lt
 rw[UInt64.toNat_or,UInt64.toNat_shiftLeft]
 have e1:(8:UInt64).toNat%64=8:=zac
 rw[e1,Nat.shiftLeft_eq,Nat.mod_eq_of_lt zaa]
 have e2:x.toUInt64.toNat=x.toNat:=zan
 rw[e2]
 have:=Nat.shiftLeft_add_eq_or_of_lt (i:=8) (show x.toNat<2^8 by omega) n.toNat
 simp_all[Nat.shiftLeft_eq]
theorem A2M(h:l.length<=8):(yl l).toNat=QW l:=by
 have key:∀(l:List UInt8) (a:UInt64) (m:Nat),a.toNat<256^m->m+l.length<=8->(l.foldl (fun(n:UInt64) (x:UInt8)=>n<<<8|||x.toUInt64) a).toNat=a.toNat*256^l.length+QW l:=by
  intro l
  induction l with
  | nil=>simp_all[QW]
  | cons x l ih =>
   intro a m ha hm
   rw[List.length_cons] at hm
   have hx:=x.toNat_lt
   have h56:a.toNat<2^56:=by
    have:256^m<=256^7:=Nat.pow_le_pow_right zaa zaa
    omega
   have hs:=A2L a x h56
   rw[List.foldl_cons,ih _ (m+1) zaa zaa,hs,Xu,List.length_cons,Nat.pow_succ,Nat.add_mul,Nat.mul_assoc,Nat.mul_comm 256]
   omega
 have:=key l 0 0 zac zaa
 simp_all[yl]
theorem A2N(k:Nat)(x:UInt64)(hk:k<=8):QW (Rh k x)=x.toNat%256^k:=by
 induction k with
 | zero=>simp[Rh,QW,Nat.mod_one]
 | succ k ih =>
  rw[Rh,Xu,J6,ih zaa]
  have h1:((x>>>UInt64.ofNat (8*k)).toUInt8).toNat=x.toNat/256^k%256:=by
   rw[UInt64.toNat_toUInt8,UInt64.toNat_shiftRight,UInt64.toNat_ofNat',Nat.shiftRight_eq_div_pow]
   have e:8*k%2^64%64=8*k:=zaa
   rw[e,Nat.pow_mul]
  rw[h1,Nat.pow_succ,Nat.mod_mul]
  grind
theorem WI(k:Nat)(x:Int)(hk:k<=8)(h0:0<=x)(h1:x<9223372036854775808)(h:x.toNat<256^k):QW (Rh k (UInt64.ofInt x))=x.toNat:=by
 grind[A2N,NQ,Nat.mod_eq_of_lt]
theorem Ol(h:b.drop p=r)(hp:p<=b.length):b.length=p+r.length:=zaB
theorem Ri(h:b.drop p=x++r):b.drop (p+x.length)=r:=by
 rw[<-List.drop_drop,h,List.drop_left]
theorem Kr{x:Int}(hp:p<=b.length)(hn:1<=n/\n<=8)(h:b.drop p=Rh n (UInt64.ofInt x)++r)(h0:0<=x)(h1:x<9223372036854775808)(h2:x.toNat<256^n):
  IZ b p 0 n=(x,p+n,0)/\p+n<=b.length/\b.drop (p+n)=r:=by
 have hl:=Ol h hp
 rw[List.length_append,J6] at hl
 have ht:(b.drop p).take n=Rh n (UInt64.ofInt x):=by simp_all[J6]
 have hv:(yl (Rh n (UInt64.ofInt x))).toNat=x.toNat:=by simp_all[A2M,J6,WI]
 refine⟨?_,by omega,by have:=Ri h;rwa [J6] at this⟩
 unfold IZ
 grind
theorem VD(hp:p<=b.length)(h:b.drop p=x++r)(hx:x.length=n):XE b p 0 n=(x,p+n,0)/\p+n<=b.length/\b.drop (p+n)=r:=by
 have hl:=Ol h hp
 rw[List.length_append] at hl
 subst hx
 simp_all[Ri,XE,if_neg]
theorem yw{x:UInt8}{y:UInt8}(h:b.drop p=x::y::r):FK b p=x.toNat*256+y.toNat:=by
 have e0:b.getD p 0=x:=by
  have:=congrArg (fun l=>l.getD 0 0) h
  grind
 have e1:b.getD (p+1) 0=y:=by
  have:=congrArg (fun l=>l.getD 1 0) h
  grind
 rw[FK,e0,e1]
def XF(n:Nat):List UInt8:=Rh 2 (UInt64.ofInt (n:Int))
theorem WJ(n:Nat):∃ x y,XF n=[x,y]:=⟨_,_,rfl⟩
theorem Rj(n:Nat):(XF n).length=2:=J6 _ _
theorem WL(h:n<=65535){x y:UInt8}(hxy:XF n=[x,y]):x.toNat*256+y.toNat=n:=by
 have:=WI 2 (n:Int) zaa zaa zaa zar
 rw[show Rh 2 (UInt64.ofInt (n:Int))=[x,y] from hxy] at this
 simp_all[QW]
theorem oJ{most:Int}(hp:p<=b.length)(h:b.drop p=XF x.length++x++r)(hx:x.length<=65535)(hm:(x.length:Int)<=most):
  MH b p 0 most=(x,p+2+x.length,0)/\p+2+x.length<=b.length/\b.drop (p+2+x.length)=r:=by
 have hl:=Ol h hp
 rw[List.length_append,List.length_append,Rj] at hl
 obtain⟨u,v,huv⟩:=WJ x.length
 have hv:=WL hx huv
 have hL:FK b p=x.length:=by
  grind[yw]
 have h2:b.drop (p+2)=x++r:=by
  grind[Ri,Rj]
 refine⟨?_,by omega,Ri h2⟩
 unfold MH
 grind
theorem WM(hp:p<=b.length)(h:b.drop p=[]):aG b p 0=0:=by
 simp_all[aG]
theorem Om{x:Int}(hn:1<=n/\n<=8):BH b n x=b++Rh n (UInt64.ofInt x):=by
 unfold BH;grind
theorem WN(h:x.length<=65535):Gy b x=b++XF x.length++x:=by
 unfold Gy
 rw[List.take_of_length_le h,show(2:Int)=((2:Nat):Int) from rfl,Om zaa];rfl
theorem Rk{x:Int}(hn:1<=n/\n<=8):(BH b n x).length=b.length+n:=by simp_all[Om,J6]
theorem BQ(b:List UInt8)(x:Int):(BH b 1 x).length=b.length+1:=Rk (n:=1) zaa
theorem Ad(b:List UInt8)(x:Int):(BH b 2 x).length=b.length+2:=Rk (n:=2) zaa
theorem dh(b:List UInt8)(x:Int):(BH b 3 x).length=b.length+3:=Rk (n:=3) zaa
theorem DF(b:List UInt8)(x:Int):(BH b 4 x).length=b.length+4:=Rk (n:=4) zaa
theorem Bf(b:List UInt8)(x:Int):(BH b 8 x).length=b.length+8:=Rk (n:=8) zaa
theorem BO(b x:List UInt8):(Gy b x).length=b.length+2+min 65535 x.length:=by simp_all[Gy,Ad]
end Go.Ax
namespace Go.Ax
open Go Go.Eng Go.RowKit
set_option linter.unusedVariables false
set_option linter.unusedSimpArgs false
structure Att where
 key:List UInt8
 nonce:List UInt8
 resets:Int
 restarts:Int
 clock:Int
 safe:Bool
 updates:Int
 s0:Int
 s1:Int
 digest:List UInt8
def A4b:List UInt8:=[83,87,81,49]
def Jd(a:Att):List UInt8 :=
 BH (BH (BH (BH (BH (BH (BH (Gy (Gy A4b a.key) a.nonce) 8 a.resets) 8 a.restarts) 8 a.clock) 1 (bif a.safe then 1 else 0)) 8 a.updates) 2 a.s0) 2 a.s1++a.digest
structure OkA (a:Att):Prop where
 key:a.key.length=32
 nonce:a.nonce.length<=128
 resets:0<=a.resets/\a.resets<9223372036854775808
 restarts:0<=a.restarts/\a.restarts<9223372036854775808
 clock:0<=a.clock/\a.clock<9223372036854775808
 updates:0<=a.updates/\a.updates<9223372036854775808
 s0:0<=a.s0/\a.s0<65536
 s1:0<=a.s1/\a.s1<65536
 digest:a.digest.length=32
end Go.Ax
namespace Go.Ax
open Go Go.RowKit Go.Eng
set_option linter.unusedVariables false
set_option linter.unusedSimpArgs false
variable (l:List UInt8)
theorem J7{a:Int}{c:Nat}(h:c<=64):BN a c=a/2^c:=by simp_all[TM,ishr0]
theorem di{c:Int}(h:0<=c/\c<=62):Be 1 (BJ c).toNat=2^c.toNat:=by
 rw[VU,J5,NQ zaa];unfold ishl0
 rw[Nat.min_eq_left zaa,Int.one_mul]
 apply wrap64
 have h1:(2:Int)^c.toNat<=2^62:=by
  have:=Nat.pow_le_pow_right (n:=2) zaa (show c.toNat<=62 by omega)
  grind
 grind
theorem A4c{n:Nat}(h:n<=62):Be 1 (BJ (n:Int)).toNat=(2:Int)^n:=by
 grind[di]
theorem QX{α:Type}{l:List α}{n:Int}(h:0<=n/\n<=l.length):Bi l 0 n=some (l.take n.toNat):=by
 simp_all[Z8,lcut0]
theorem LL:(∀ {α:Type} (l:List α),Aw l=(l.length:Int))/\(∀ {α:Type} (l m:List α),BI l m=l++m)/\(∀ {α:Type} (n:Int) (a:α),BR n a=List.replicate n.toNat a)/\(∀ {α:Type} (l m:List α),CB l m=m.take l.length++l.drop m.length)/\(∀ {α:Type} (l:List α) (i:Int) (a:α),BL l i a=l.set i.toNat a) /\
  (∀ {α:Type} (l m:List α),(l++m).length=l.length+m.length)/\(∀ {α:Type} (i:Nat) (l:List α),(l.take i).length=min i l.length)/\(∀ {α:Type} (i:Nat) (l:List α),(l.drop i).length=l.length-i)/\(∀ {α:Type} (a:α) (l:List α),(a::l).length=l.length+1)/\(∀ {α:Type},([]:List α).length=0)/\(∀ {α:Type} (n:Nat) (a:α),(List.replicate n a).length=n)/\(∀ {α:Type} (l:List α) (i:Nat) (a:α),(l.set i a).length=l.length)/\(∀ n:Nat,((n:Int)).toNat=n) :=
 ⟨AC,Ap,FO,Za,EU,fun _ _=>List.length_append,fun _ _=>List.length_take,fun _ _=>List.length_drop,fun _ _=>List.length_cons,List.length_nil,fun _ _=>List.length_replicate,fun _ _ _=>List.length_set,Int.toNat_natCast⟩
theorem NO:(∀ {α:Type} (l:List α),Aw l=(l.length:Int))/\(∀ {α:Type} (l m:List α),BI l m=l++m)/\(∀ {α:Type} (n:Int) (a:α),BR n a=List.replicate n.toNat a)/\(∀ {α:Type} (l m:List α),CB l m=m.take l.length++l.drop m.length)/\(∀ {α:Type} (l:List α) (i:Int) (a:α),BL l i a=l.set i.toNat a) /\
  (∀ {α:Type} (l:List α),[]++l=l)/\(∀ {α:Type} (l:List α),l++[]=l)/\(∀ {α:Type} (a b c:List α),a++b++c=a++(b++c))/\(∀ {α:Type} (a:α) (b c:List α),a::b++c=a::(b++c)) :=
 ⟨AC,Ap,FO,Za,EU,List.nil_append,List.append_nil,List.append_assoc,fun _ _ _=>List.cons_append⟩
theorem Ha{a:UInt32}{c:Nat}(h:c<32):AP a c=a>>>UInt32.ofNat c:=by
 rw[aj];unfold u32shr0;rw[Nat.min_eq_left zaa]
 apply UInt32.toNat_inj.1
 rw[UInt32.toNat_shiftRight,UInt32.toNat_ofNat',UInt32.toNat_ofNat',Nat.shiftRight_eq_div_pow]
 have h1:c%2^32%32=c:=zaa
 rw[h1]
 have h2:a.toNat/2^c<=a.toNat:=Nat.div_le_self _ _
 have h3:=a.toNat_lt
 grind
theorem A6z:[Au (AP (C9 (Aw l)) (UInt64.ofNat 24).toNat),Au (AP (C9 (Aw l)) (UInt64.ofNat 16).toNat),Au (AP (C9 (Aw l)) (UInt64.ofNat 8).toNat),Au (C9 (Aw l))]=rU l:=by
 rw[Ha zac,Ha zac,Ha zac,AC,xK,Z5];rfl
theorem rf4(h:l.length<4294967296):[DT (BN (l.length:Int) (UInt64.ofNat 24).toNat),DT (BN (l.length:Int) (UInt64.ofNat 16).toNat),DT (BN (l.length:Int) (UInt64.ofNat 8).toNat),DT (l.length:Int)]=rU l:=by
 rw[J7 zac,J7 zac,J7 zac]
 simp only[EM]
 exact A6q _ h
theorem UZ(tag:Int)(ls:List (List UInt8))(i:Nat)(l:List UInt8)(h:ls[i]?=some l):Af tag (ls.take (i+1))=Af tag (ls.take i)++rU l++l:=by
 simp_all[Af,Yz]
theorem Xv(tag:Int)(ls:List (List UInt8))(i:Nat):(Af tag (ls.take i)).length<=(Af tag ls).length:=by
 grind[Af,fieldsB,List.take_append_drop]
abbrev A70:Ty:=.pair .i64 (.pair .i64 (.pair .i64 (.pair (.sl .u8) (.sl .u8))))
abbrev A71:Ty:=.pair (.sl .u8) (.pair (.sl .u8) (.sl .u8))
abbrev objT:Ty:=.pair A70 (.pair A71 .i64)
abbrev AB:Ty:=.pair .i64 (.pair .i64 (.pair .i64 (.pair .i64 (.pair (.sl .u8) (.pair (.sl .u8) (.pair .bool (.sl .u8)))))))
abbrev BP:Ty:=.pair (.sl .u8) .i64
abbrev sesT:Ty:=.pair .i64 (.pair (.sl .u8) (.pair (.sl .u8) (.pair .i64 (.pair .i64 (.pair .i64 (.pair .i64 .bool))))))
abbrev AL:Ty:=.pair .i64 (.pair (.sl .u8) (.sl .u8))
end Go.Ax
