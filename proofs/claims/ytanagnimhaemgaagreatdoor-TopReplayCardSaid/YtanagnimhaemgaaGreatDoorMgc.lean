/-
  Own texts, laid together for this claim: the rules that every walk uses, which claim nothing of any program.
-/
import Derived.Laws.BitsLemmas
import Derived.Test.YtanagnimhaemgaaGreatDoorMgb
set_option linter.all false
namespace Go.Ax
open Go Go.RowKit Go.Eng
set_option linter.unusedVariables false
set_option linter.unusedSimpArgs false
section
variable {P:Program}{I:World->Prop}{L:LX}{T:TT}{G:FT}{Q:Req->Option Rsp}{R:Type}{K:Tr->Option R}{r:R}{hk:Nat->Option Rs}{m:Nat}
theorem OE(hT:TTok P I T)(hG:QE P G)(hQ:dY P I Q)(hm:∀ k R,hk k=some R->k<m){op:Op}(h:Eh T G Q (Dc L) hk m op K=some r):∃ tr,K tr=some r/\TrOK P I L hk m op tr:=by
 unfold Eh at h
 split at h
 ·exact VA hG hQ hm h
 grind[Yp]
end
def VB:Fp->HX->HX
 | [],H=>H
 | (k,r)::F,H=>(k,some r)::VB F H
def VC:Fp->HX->HX
 | [],H=>H
 | (k,r)::F,H=>(k,none)::VC F H
def Zt(t:Tr)(H:HX):HX:=bif t.rd then H else VB t.F' (VC t.F H)
theorem U7{R:Type}:∀(F:Fp) (H:HX) (K:HX->R),Wh F H K=K (VB F H)
 | [],H,K=>rfl
 | (k,r)::F,H,K=>by simp only[Wh,JE,U7 F,VB]
theorem U8{R:Type}:∀(F:Fp) (H:HX) (K:HX->R),Wi F H K=K (VC F H)
 | [],H,K=>rfl
 | (k,r)::F,H,K=>by simp only[Wi,U8 F,VC]
theorem KU{R:Type}(d:Option Nat)(t:Tr)(m:Nat)(L:LX)(H:HX)(K:Nat->LX->HX->R):FD d t m L H K=K (m+t.nn) (N7 d t.s L) (Zt t H):=by
 obtain⟨s,F,F',rd,nn⟩:=t
 grind[FD,force_eq,Bq,U8,U7,N7,Zt]
theorem QF(k:Nat):∀(F:Fp) (H:HX),hlk k (VB F H)=match Cj k F with|some R=>some R|none=>hlk k H
 | [],H=>rfl
 | (d,r)::F,H=>by rw[VB,DK,Az,QF k F];grind
theorem QG(k:Nat):∀(F:Fp) (H:HX),hlk k (VC F H)=match Cj k F with|some R=>none|none=>hlk k H
 | [],H=>rfl
 | (d,r)::F,H=>by rw[VC,DK,Az,QG k F];grind
theorem U9{t:Tr}{H:HX}(hpre:∀ k R,Cj k t.F=some R->hlk k H=some R)(hrd:t.rd=true->t.F'=t.F)(k:Nat):hlk k (Zt t H)=upd t.F t.F' (fun k=>hlk k H) k:=by
 unfold Zt upd
 cases h:t.rd with
 | false=>simp only[cond_false,QF,QG];grind
 | true =>
  grind
section
variable {P:Program}{I:World->Prop}{n:Nat}{g:Gx}{Q:PostX}{m:Nat}{L:LX}{H:HX}{ops:Array Oper}{rest:List Oper}
theorem ed(h:(∀ k R,hlk k H=some R->k<m)->RS P I n g ops Q rest m L H):RS P I n g ops Q rest m L H:=fun a w ν S=>h (fun k R hk=>(S.res k R hk).1) a w ν S
theorem Yr{L':LX}(hL:∀ t,FZ t L'=FZ t L)(h:RS P I n g ops Q rest m L' H):RS P I n g ops Q rest m L H:=fun a w ν S=>h a w ν (S.fewer fun t s hs=>by simp_all)
theorem UA{op:Op}{ty:TypeId}{t:Tr}{K:AV->Nat->HX->Prop}(h:TrOK P I L (fun k=>hlk k H) m op t)(hm:∀ k R,hlk k H=some R->k<m)(hK:K t.s (m+t.nn) (Zt t H)):OS P I n g op ty m L H K:=by
 refine eF (h.opl ty) h.pre (fun k hk=>(h.new k hk).imp id fun e=>by omega) (fun k hk=>?_) (Nat.le_add_right _ _) (U9 h.pre h.rd) hK
 rcases h.new k hk with h1|h1
 ·obtain⟨R,h2⟩:=(Bo _ _).1 h1
  have:=hm k R (h.pre k R h2);omega
 ·exact h1.2
theorem VD{d:Nat}{s:AV}(h:FZ d L=some s)(t:Nat):FZ t ((d,s)::L)=FZ t L:=by
 simp_all[Dl]
end
section
variable {P:Program}{I:World->Prop}{n:Nat}{g:Gx}{T:TT}{G:FT}{Q:Req->Option Rsp}{r:Rsp}
theorem JQ{n d:Nat}(h:Nr n (some d)=true):d<n:=by simpa [Nr] using h
theorem XD(hT:TTok P I T)(hG:QE P G)(hQ:dY P I Q){ops:List Oper}{Φ:PostX}{K:Nat->LX->HX->Option Rsp}(hK:∀ m L H,K m L H=some r->Φ .normal m L H)(l:List Oper):∀(m:Nat) (L:LX) (H:HX),FV T G Q n ops l m L H K=some r->RS P I n g ops.toArray Φ l m L H:=by
 induction l with
 | nil=>intro m L H h;exact aY (hK _ _ _ h)
 | cons o l ih =>
  intro m L H h
  refine ed fun hm=>?_
  obtain⟨dst,op,ty,pos,af,gd⟩:=o
  rw[FV] at h
  cases gd with
  | none =>
   simp only at h
   cases hd:Nr n dst with
   | false=>simp_all
   | true =>
    rw[hd,cond_true] at h
    obtain⟨t,ht,ok⟩:=OE hT hG hQ hm h
    rw[KU] at ht
    have hn:=ih _ _ _ ht
    cases dst with
    | none=>exact lh (UA ok hm hn)
    | some d=>exact sx (UA ok hm hn) (JQ hd)
  | some p =>
   obtain⟨j,want⟩:=p
   simp only at h
   split at h
   ·rename_i d' hd'
    have hj:(ops.toArray[j]?).bind (·.dst)=some d':=zn
    split at h
    ·rename_i c hc
     cases hd:(Nr n dst&&Nat.blt d' n) with
     | false=>simp_all
     | true =>
      rw[hd,cond_true] at h
      rw[Bool.and_eq_true] at hd
      have hdn:d'<n:=zk
      refine Yr (L':=(d',.b c)::L) (VD hc) ?_
      have hb:FZ d' ((d',.b c)::L)=some (.b c):=by rw[Dl,if_pos rfl]
      have run:c=want->Eh T G Q (Dc ((d',.b c)::L)) (fun k=>hlk k H) m op (fun t=>FD dst t m ((d',.b c)::L) H fun m L H=>FV T G Q n ops l m L H K)=some r->RS P I n g ops.toArray Φ (⟨dst,op,ty,pos,af,some (j,want)⟩::l) m ((d',.b c)::L) H:=by
       clear h
       intro e1 h9
       subst e1
       obtain⟨t,ht,ok⟩:=OE hT hG hQ hm h9
       rw[KU] at ht
       have hn:=ih _ _ _ ht
       cases dst with
       | none=>exact jJ hj hb hdn (UA ok hm hn)
       | some d=>exact lm hj hb hdn (UA ok hm hn) (JQ hd.1)
      have skip:c = !want->FV T G Q n ops l m (N7 dst (AV.tup []) ((d',AV.b c)::L)) H K=some r->RS P I n g ops.toArray Φ (⟨dst,op,ty,pos,af,some (j,want)⟩::l) m ((d',.b c)::L) H:=by
       clear h run
       intro e1 h9
       have hn:=ih _ _ _ h9
       cases dst with
       | none=>exact jK hj hb e1 hn hdn
       | some d=>exact lq hj hb e1 hn (JQ hd.1) hdn
      cases c with
      | true =>
       cases want with
       | true=>grind
       | false=>exact skip rfl (by cases dst<;>exact h)
      | false =>
       cases want with
       | true=>exact skip rfl (by cases dst<;>exact h)
       | false=>grind
    ·rename_i hc
     cases hd:(Nr n dst&&Nat.blt d' n) with
     | false=>simp_all
     | true =>
      rw[hd,cond_true] at h
      rw[Bool.and_eq_true] at hd
      have hdn:d'<n:=zk
      have hn:=ih _ _ _ h
      cases dst with
      | none=>exact jL hj hc hn hdn
      | some d=>exact lu hj hc hn (JQ hd.1) hdn
    ·cases h
   ·cases h
end
end Go.Ax
namespace Go.Ax
variable {t:Tr}{k:Nat}
noncomputable section
open Go Go.RowKit Go.Eng
set_option linter.unusedVariables false
set_option linter.unusedSimpArgs false
theorem QH{lk:List Nat}{t:Nat}{s:AV}:∀ {L:LX},FZ t (Qn lk L)=some s->IU t lk=true/\FZ t L=some s
 | [],h=>zt
 | (d,v)::L,h=>by
  simp only[Qn] at h
  rw[Dl]
  cases hm:IU d lk with
  | false =>
   rw[hm] at h
   obtain⟨h1,h2⟩:=QH (L:=L) h
   grind
  | true =>
   rw[hm] at h
   simp only[cond_true] at h
   rw[Dl] at h
   by_cases e:t=d
   ·simp_all
   ·rw[if_neg e] at h ⊢;exact QH (L:=L) h
def dZ(P:Program)(I:World->Prop)(ops:Array Oper)(o:Oper)(L:LX)(t:Tr):Prop:=match o.guard with
 | none=>Ya P I (Qn (o.looksAt ops) L) t.F o.op o.type t.s t.F'
 | some (j,want)=>∃ d v,CZ ops j=some d/\FZ d L=some v/\((v=.b want/\Ya P I (Qn (o.looksAt ops) L) t.F o.op o.type t.s t.F')\/((v=.b (!want)\/v=.tup [])/\t.F=[]/\t.F'=[]/\t.s=.tup []))
abbrev RH(t:Tr)(H:HX):HX:=Zt t H
abbrev UB(d:Option Nat)(s:AV)(L:LX):LX:=N7 d s L
def stepM(t:Tr)(m:Nat):Nat:=m+t.nn
structure StepOK (P:Program) (I:World->Prop) (ops:Array Oper) (o:Oper) (t:Tr) (m:Nat) (L:LX) (H:HX):Prop where
 obl:dZ P I ops o L t
 pre:∀ k R,Cj k t.F=some R->hlk k H=some R
 new:∀ k,has k t.F'->has k t.F\/(m<=k/\k<m+t.nn)
 rd:t.rd=true->t.F'=t.F
def DRX(P:Program)(I:World->Prop)(ops:Array Oper)(fin:List Tr->Nat->LX->HX->Prop):List Oper->List Tr->Nat->LX->HX->Prop
 | [],tr,m,L,H=>fin tr m L H
 | o::r,tr,m,L,H=>∃ t,StepOK P I ops o t m L H/\DRX P I ops fin r (tr++[t]) (stepM t m) (UB o.dst t.s L) (RH t H)
def wr(t:Tr)(k:Nat):Option (Option Rs):=bif t.rd then none else match Cj k t.F' with
 | some R=>some (some R)
 | none=>(match Cj k t.F with|some _=>some none|none=>none)
def touches(t:Tr)(k:Nat):Bool:=(Cj k t.F).isSome||(Cj k t.F').isSome
def Kz(D:Nat->Bool)(ops:Array Oper)(T:List Tr)(t:Nat)(v:Option AV):Nat->Option AV
 | 0=>v
 | n+1=>bif D n then(match CZ ops n,T[n]? with
  | some d,some tr=>if d=t then some tr.s else Kz D ops T t v n
  | _,_=>Kz D ops T t v n) else Kz D ops T t v n
def hvn(D:Nat->Bool)(T:List Tr)(k:Nat)(v:Option Rs):Nat->Option Rs
 | 0=>v
 | n+1=>bif D n then(match(T[n]?).bind (wr · k) with|some x=>x|none=>hvn D T k v n) else hvn D T k v n
def Ii(T:List Tr)(m:Nat):Nat->Nat
 | 0=>m
 | n+1=>match T[n]? with|some t=>stepM t (Ii T m n)|none=>Ii T m n
theorem XE(t:Tr)(H:HX)(k:Nat):hlk k (RH t H)=match wr t k with|some x=>x|none=>hlk k H:=by
 unfold RH Zt wr
 cases t.rd
 ·simp only[cond_false,QF,QG]
  grind
 ·rfl
theorem bK(t:Tr)(hk:Nat->Option Rs)(k:Nat)(hr:t.rd=false):upd t.F t.F' hk k=match wr t k with|some x=>x|none=>hk k:=by
 unfold upd wr
 grind
theorem H8{x:Option Rs}(h:wr t k=some x):touches t k=true/\t.rd=false:=by
 unfold wr at h
 cases hr:t.rd with
 | true=>simp_all
 | false =>
  rw[hr] at h
  simp only[cond_false] at h
  refine⟨?_,rfl⟩
  grind[touches]
theorem Yt{R:Rs}(h:wr t k=some (some R)):has k t.F':=by
 unfold wr at h
 cases hr:t.rd with
 | true=>simp_all
 | false =>
  rw[hr] at h
  simp only[cond_false] at h
  grind[has]
theorem JR{D D':Nat->Bool}{T:List Tr}{k:Nat}{v:Option Rs}:∀ {n:Nat},(∀ i,i<n->∀ t x,T[i]?=some t->wr t k=some x->D i=D' i)->hvn D T k v n=hvn D' T k v n
 | 0,_=>rfl
 | n+1,h=>by
  have ih:=JR (D:=D) (D':=D') (T:=T) (k:=k) (v:=v) (n:=n) fun i hi=>h i zf
  grind[hvn]
theorem KW{D:Nat->Bool}{T:List Tr}{k:Nat}{v:Option Rs}{j:Nat}:∀ {n:Nat},j<=n->(∀ i,j<=i->i<n->∀ t x,T[i]?=some t->wr t k=some x->D i=false)->hvn D T k v n=hvn D T k v j
 | 0,hj,_=>zk
 | n+1,hj,h=>by
  by_cases e:j=n+1
  ·rw[e]
  ·rw[<-KW (n:=n) zf fun i hi hi'=>h i hi zf]
   grind[hvn]
theorem JS{D D':Nat->Bool}{ops:Array Oper}{T:List Tr}{t:Nat}{v:Option AV}:∀ {n:Nat},(∀ i,i<n->CZ ops i=some t->D i=D' i)->Kz D ops T t v n=Kz D' ops T t v n
 | 0,_=>rfl
 | n+1,h=>by
  have ih:=JS (D:=D) (D':=D') (ops:=ops) (T:=T) (t:=t) (v:=v) (n:=n) fun i hi=>h i zf
  simp only[Kz]
  grind
theorem KX{D:Nat->Bool}{ops:Array Oper}{T:List Tr}{t:Nat}{v:Option AV}{j:Nat}:∀ {n:Nat},j<=n->(∀ i,j<=i->i<n->CZ ops i=some t->D i=false)->Kz D ops T t v n=Kz D ops T t v j
 | 0,hj,_=>zk
 | n+1,hj,h=>by
  by_cases e:j=n+1
  ·rw[e]
  ·rw[<-KX (n:=n) zf fun i hi hi'=>h i hi zf]
   simp only[Kz]
   grind
def keysOf(F:Fp):List Nat:=F.map (·.1)
theorem RI{F:Fp}(h:has k F):k∈keysOf F:=by
 induction F with
 | nil=>simp[has] at h
 | cons p F ih =>
  obtain⟨d,v⟩:=p
  unfold has at h
  rw[Az] at h
  by_cases e:k=d
  ·simp[keysOf,e]
  ·rw[if_neg e] at h;exact List.mem_cons_of_mem _ (ih h)
def MP(ops:Array Oper)(i j:Nat)(ti tj:Tr):Bool :=
 (match CZ ops i,ops[j]? with|some d,some o=>(o.looksAt ops).contains d|_,_=>false) ||
 (match CZ ops j,ops[i]? with|some d,some o=>(o.looksAt ops).contains d|_,_=>false) ||
 (bif ti.rd&&tj.rd then false else(keysOf ti.F++keysOf ti.F').any fun k=>touches tj k)
def drawChk0(n:Nat)(ops:Array Oper)(T:List Tr):Bool :=
 let ms:=masks ops.toList []
 (Nat.beq T.length ops.size&&allB ops.size fun j=>match ops[j]? with
  | none=>false
  | some o=>o.after.toList.all (fun e => !Region.binds .any e||Nat.blt e.on j)&&(match o.dst with|some d=>Nat.blt d n|none=>true)&&(match o.op with|.select .. => false|_=>true)) &&
 allB ops.size fun j=>allB j fun i=>(match CZ ops i,CZ ops j with|some d,some d' => !Nat.beq d d'|_,_=>true)&&(match T[i]?,T[j]? with
  | some ti,some tj => !MP ops i j ti tj||Uf ms j i
  | _,_=>false)
structure Chk (n:Nat) (ops:Array Oper) (T:List Tr):Prop where
 len:T.length=ops.size
 edge:∀(j:Nat) (o:Oper),ops[j]?=some o->∀ e∈o.after,Region.binds .any e=true->e.on<j
 dstn:∀(j:Nat) (o:Oper) (d:Nat),ops[j]?=some o->o.dst=some d->d<n
 sel:∀(j:Nat) (o:Oper),ops[j]?=some o->∀ cs b,o.op≠.select cs b
 uniq:∀ i j d:Nat,i<j->j<ops.size->CZ ops i=some d->CZ ops j≠some d
 conf:∀(i j:Nat) (ti tj:Tr),i<j->j<ops.size->T[i]?=some ti->T[j]?=some tj->MP ops i j ti tj=true->Anc ops j i
theorem QI{n:Nat}{ops:Array Oper}{T:List Tr}(h:drawChk0 n ops T=true):Chk n ops T:=by
 simp only[drawChk0,Bool.and_eq_true] at h
 obtain⟨⟨hl,h1⟩,h2⟩:=h
 have h1:=FK h1
 have h2:=FK h2
 have hlt:∀ j (o:Oper),ops[j]?=some o->j<ops.size:=fun j o ho=>(Array.getElem?_eq_some_iff.1 ho).1
 have edge:∀ j (o:Oper),ops[j]?=some o->∀ e∈o.after,Region.binds .any e=true->e.on<j:=by
  intro j o ho e he hbd
  have:=h1 j (hlt j o ho)
  rw[ho] at this
  simp only[Bool.and_eq_true,List.all_eq_true] at this
  have h3:=this.1.1 e (Array.mem_toList_iff.2 he)
  simp_all
 have hm:Pe ops (masks ops.toList []):=Qa ops _ _ zB edge (fun j i hj=>by simp at hj)
 have hml:(masks ops.toList []).length=ops.size:=by
  have:∀(l:List Oper) acc,(masks l acc).length=l.length+acc.length:=by
   intro l
   induction l with
   | nil|cons o r ih=>grind[masks]
  grind
 have hanc:∀ j i,j<ops.size->Uf (masks ops.toList []) j i=true->Anc ops j i:=fun j i hj hb=>hm j i zf hb
 refine⟨by simpa using hl,edge,?_,?_,?_,?_⟩
 ·intro j o d ho hd
  have:=h1 j (hlt j o ho)
  rw[ho] at this
  simp_all
 ·grind
 ·intro i j d hij hj hdi hdj
  have:=FK (h2 j hj) i hij
  simp_all
 ·intro i j ti tj hij hj hti htj hc
  have:=FK (h2 j hj) i hij
  simp_all
structure Steps (P:Program) (I:World->Prop) (ops:Array Oper) (T:List Tr) (m0:Nat) (L0:LX) (H0:HX):Prop where
 at':∀(j:Nat) (o:Oper),ops[j]?=some o->∃ t m L H,T[j]?=some t/\StepOK P I ops o t m L H/\m=Ii T m0 j/\(∀ x,FZ x L=Kz (fun _=>true) ops T x (FZ x L0) j)/\(∀ k,hlk k H=hvn (fun _=>true) T k (hlk k H0) j)
theorem QJ{D:Nat->Bool}{ops:Array Oper}{T T':List Tr}{t:Nat}{v:Option AV}:∀ {n:Nat},n<=T.length->Kz D ops (T++T') t v n=Kz D ops T t v n
 | 0,_=>rfl
 | n+1,h=>by simp only[Kz,QJ (n:=n) (show n<=T.length by omega),List.getElem?_append_left (show n<T.length by omega)]
theorem QK{D:Nat->Bool}{T T':List Tr}{k:Nat}{v:Option Rs}:∀ {n:Nat},n<=T.length->hvn D (T++T') k v n=hvn D T k v n
 | 0,_=>rfl
 | n+1,h=>by simp only[hvn,QK (n:=n) (show n<=T.length by omega),List.getElem?_append_left (show n<T.length by omega)]
theorem QL{T T':List Tr}{m:Nat}:∀ {n:Nat},n<=T.length->Ii (T++T') m n=Ii T m n
 | 0,_=>rfl
 | n+1,h=>by simp only[Ii,QL (n:=n) (show n<=T.length by omega),List.getElem?_append_left (show n<T.length by omega)]
theorem DRX.steps{P:Program}{I:World->Prop}{ops:Array Oper}{fin:List Tr->Nat->LX->HX->Prop}{m0:Nat}{L0:LX}{H0:HX}:∀(l:List Oper) (tr:List Tr) (m:Nat) (L:LX) (H:HX),DRX P I ops fin l tr m L H->(∀ i,i<l.length->l[i]?=ops[tr.length+i]?) ->
  m=Ii tr m0 tr.length->(∀ x,FZ x L=Kz (fun _=>true) ops tr x (FZ x L0) tr.length)->(∀ k,hlk k H=hvn (fun _=>true) tr k (hlk k H0) tr.length) ->
  ∃ T m' L' H',T.length=tr.length+l.length/\(∀ i,i<tr.length->T[i]?=tr[i]?)/\fin T m' L' H'/\m'=Ii T m0 T.length/\(∀ x,FZ x L'=Kz (fun _=>true) ops T x (FZ x L0) T.length)/\(∀ k,hlk k H'=hvn (fun _=>true) T k (hlk k H0) T.length) /\
   ∀(j:Nat) (o:Oper),tr.length<=j->j<T.length->ops[j]?=some o->∃ t m L H,T[j]?=some t/\StepOK P I ops o t m L H/\m=Ii T m0 j/\(∀ x,FZ x L=Kz (fun _=>true) ops T x (FZ x L0) j)/\(∀ k,hlk k H=hvn (fun _=>true) T k (hlk k H0) j)
 | [],tr,m,L,H,h,_,hm,hL,hH=>⟨tr,m,L,H,by simp,fun _ _=>rfl,h,hm,hL,hH,fun j o h1 h2=>by omega⟩
 | o::r,tr,m,L,H,h,hl,hm,hL,hH=>by
  obtain⟨t,hs,hr⟩:=h
  have ho:ops[tr.length]?=some o:=by have:=hl 0 zB;simp_all
  have hlast:(tr++[t])[tr.length]?=some t:=zB
  obtain⟨T,m',L',H',g1,g2,g3,g4,g5,g6,g7⟩:=DRX.steps (m0:=m0) (L0:=L0) (H0:=H0) r (tr++[t]) _ _ _ hr (fun i hi=>by
    have:=hl (i+1) zx
    grind) (by
    simp_all[Ii,QL]) (fun x=>by
    rw[show(tr++[t]).length=tr.length+1 from by simp]
    simp only[Kz,hlast,QJ (Nat.le_refl _),cond_true,CZ,ho,Option.bind_some]
    unfold UB
    cases o.dst with
    | none=>exact hL x
    | some d =>
     simp only[N7,Dl]
     grind) (fun k=>by
    simp_all[hvn,QK,XE])
  have hT:∀ i,i<=tr.length->T[i]?=(tr++[t])[i]?:=fun i hi=>g2 i zx
  have hpre:∃ T2,T=(tr++[t])++T2:=⟨T.drop (tr.length+1),by
   apply List.ext_getElem?
   intro i
   rcases Nat.lt_or_ge i (tr.length+1) with hi|hi
   ·grind
   ·rw[List.getElem?_append_right zx,List.getElem?_drop];simp_all⟩
  obtain⟨T2,rfl⟩:=hpre
  refine⟨_,m',L',H',by grind,fun i hi=>by grind,g3,g4,g5,g6,fun j o' h1 h2 ho'=>?_⟩
  rcases Nat.lt_or_ge j (tr++[t]).length with hj|hj
  ·have hj':j=tr.length:=zn
   subst hj'
   rw[ho] at ho';obtain rfl:=Option.some.inj ho'
   have hle:tr.length<=(tr++[t]).length:=zB
   exact⟨t,m,L,H,by simp_all,hs,by simp_all[QL],fun x=>by simp_all[QJ],fun k=>by simp_all[QK]⟩
  ·exact g7 j o' hj h2 ho'
section
variable {P:Program}{I:World->Prop}{n:Nat}{g:Gx}{ops:Array Oper}{T:List Tr}{m0:Nat}{L0:LX}{H0:HX}
theorem XF(t:Tr)(m:Nat):m<=stepM t m:=Nat.le_add_right _ _
theorem Gf {j : Nat} : ∀ {i : Nat}, j <= i -> Ii T m0 j <= Ii T m0 i
  | 0, h => by have : j = 0 := by omega
               rw [this]; exact Nat.le_refl _
  | i + 1, h => by
    by_cases e : j = i + 1
    · rw [e]; exact Nat.le_refl _
    · refine Nat.le_trans (Gf (i := i) zf) ?_
      simp only [Ii]
      split
      · exact XF _ _
      · exact Nat.le_refl _
theorem Steps.names(St:Steps P I ops T m0 L0 H0)(hT:T.length=ops.size)(h0:∀ k R,hlk k H0=some R->k<m0):∀(j:Nat),j<=ops.size->∀ k R,hvn (fun _=>true) T k (hlk k H0) j=some R->k<Ii T m0 j
 | 0,_,k,R,h=>h0 k R h
 | j+1,hj,k,R,h=>by
  obtain⟨t,m,L,H,h1,h2,h3,h4,h5⟩:=St.at' j ops[j] (Array.getElem?_eq_getElem zf)
  simp only[hvn,h1,Option.bind_some,cond_true] at h
  have hle:Ii T m0 j<=Ii T m0 (j+1):=Gf zf
  cases hw:wr t k with
  | none=>rw[hw] at h;exact Nat.lt_of_lt_of_le (St.names hT h0 j zf k R h) hle
  | some x =>
   rw[hw] at h
   simp only at h
   subst h
   rcases h2.new k (Yt hw) with hF|hF
   ·obtain⟨R0,hF⟩:=(Bo _ _).1 hF
    have:=h2.pre k R0 hF
    rw[h5] at this
    exact Nat.lt_of_lt_of_le (St.names hT h0 j zf k R0 this) hle
   simp_all[Ii,stepM]
def Yu(T:List Tr)(m0:Nat)(D:Nat->Bool)(k:Nat):Prop:=k<m0\/∃ i t,D i=true/\T[i]?=some t/\has k t.F'
structure InvX (P:Program) (I:World->Prop) (n:Nat) (g:Gx) (ops:Array Oper) (T:List Tr) (m0:Nat) (L0:LX) (H0:HX) (listed:Array Bool) (a:Act) (w:World):Prop where
 len:listed.size=ops.size
 closed:∀ j (o:Oper),ops[j]?=some o->DJ listed j->∀ e∈o.after,Region.binds .any e=true->DJ listed e.on
 sat:∃ ν,Sat I n g (Yu T m0 (listed.getD · false)) (fun t=>Kz (listed.getD · false) ops T t (FZ t L0) ops.size) (fun k=>hvn (listed.getD · false) T k (hlk k H0) ops.size) a w ν
theorem VE(C:Chk n ops T)(St:Steps P I ops T m0 L0 H0)(h0:∀ k R,hlk k H0=some R->k<m0){Q:Exit->Act->World->Prop}
  (hfin:∀ a w ν,Sat I n g (· < Ii T m0 ops.size) (fun t=>Kz (fun _=>true) ops T t (FZ t L0) ops.size) (fun k=>hvn (fun _=>true) T k (hlk k H0) ops.size) a w ν->Q .normal a w) :
  ∀(fuel:Nat) (listed:Array Bool) (a:Act) (w:World),InvX P I n g ops T m0 L0 H0 listed a w->Vf listed ops.size=fuel->wpAny P .any ops Q fuel listed a w:=by
 have hTget:∀ i,i<ops.size->∃ t,T[i]?=some t:=fun i hi=>⟨T[i]'(by rw[C.len];exact hi),List.getElem?_eq_getElem _⟩
 have hTlt:∀ i t,T[i]?=some t->i<ops.size:=fun i t h=>by rw[<-C.len];grind
 intro fuel
 induction fuel with
 | zero =>
  intro listed a w hI hf
  have hall:=NV.1 hf
  have hr:Region.ready .any ops listed=[]:=by
   cases hr:Region.ready .any ops listed with
   | nil=>rfl
   | cons i r =>
    obtain⟨h0',o,ho,_⟩:=mem_ready.1 (show i∈Region.ready .any ops listed by rw[hr];simp)
    grind[DJ]
  refine⟨hr,?_⟩
  obtain⟨ν,S⟩:=hI.sat
  refine hfin a w ν ?_
  have e1:(fun t=>Kz (listed.getD · false) ops T t (FZ t L0) ops.size)=fun t=>Kz (fun _=>true) ops T t (FZ t L0) ops.size:=funext fun t=>JS fun i hi _=>hall i hi
  have e2:(fun k=>hvn (listed.getD · false) T k (hlk k H0) ops.size)=fun k=>hvn (fun _=>true) T k (hlk k H0) ops.size:=funext fun k=>JR fun i hi _ _ _ _=>hall i hi
  rw[<-e1,<-e2]
  refine S.moreN fun k hk=>?_
  rcases hk with h|⟨i,t,hi,ht,hF'⟩
  ·exact Nat.lt_of_lt_of_le h (Gf (j:=0) (Nat.zero_le _))
  ·have hilt:=hTlt i t ht
   obtain⟨t',m,L,H,h1,h2,h3,h4,h5⟩:=St.at' i ops[i] (Array.getElem?_eq_getElem hilt)
   rw[ht] at h1;obtain rfl:=Option.some.inj h1
   have hle:Ii T m0 (i+1)<=Ii T m0 ops.size:=Gf zf
   rcases h2.new k hF' with hF|hF
   ·obtain⟨R0,hF⟩:=(Bo _ _).1 hF
    have:=h2.pre k R0 hF
    rw[h5] at this
    exact Nat.lt_of_lt_of_le (St.names C.len h0 i zf k R0 this) (Gf zf)
   ·have e:Ii T m0 (i+1)=stepM t (Ii T m0 i):=by grind[Ii]
    show k<Ii T m0 ops.size
    have e2:stepM t (Ii T m0 i)=Ii T m0 i+t.nn:=rfl
    omega
 | succ fuel ih =>
  intro listed a w hI hf
  have hunl:∀ i,i<ops.size->(listed.getD i true=false↔¬DJ listed i):=by
   intro i hi
   have:=hI.len
   simp_all[DJ]
  refine⟨fun hr0=>?_,fun j hj=>?_⟩
  ·exfalso
   have hex:∃ i,i<ops.size/\¬DJ listed i:=by
    rcases Classical.em (∃ i,i<ops.size/\¬DJ listed i) with h|h
    ·exact h
    ·have:=NV.2 fun i hi=>Classical.byContradiction fun hn=>h ⟨i,hi,hn⟩
     omega
   obtain⟨i,⟨hik,hin⟩,hmin⟩:=exists_least (p:=fun i=>i<ops.size/\¬DJ listed i) hex
   have ho:ops[i]?=some ops[i]:=Array.getElem?_eq_getElem hik
   have:i∈Region.ready .any ops listed:=by
    rw[mem_ready]
    refine⟨(hunl i hik).2 hin,_,ho,fun e he hb=>?_⟩
    have hlt:=C.edge i _ ho e he hb
    grind
   simp_all
  ·obtain⟨h0',o,ho,hedge⟩:=mem_ready.1 hj
   have hjlt:=(Array.getElem?_eq_some_iff.1 ho).1
   have hjn:¬DJ listed j:=(hunl j hjlt).1 h0'
   have hDj:listed.getD j false=false:=zn
   have hrd:∀ o',ops[j]?=some o'->∀ e∈o'.after,Region.binds .any e=true->DJ listed e.on:=fun o' ho' e he hb=>by
    rw[ho] at ho';obtain rfl:=Option.some.inj ho';exact hedge e he hb
   obtain⟨t,m,L,H,hTj,hst,hm,hL,hH⟩:=St.at' j o ho
   obtain⟨ν,S⟩:=hI.sat
   -- what is forced
   have before:∀ i ti,i<j->T[i]?=some ti->MP ops i j ti t=true->listed.getD i false=true:=fun i ti hi hti hc=>(C.conf i j ti t hi hjlt hti hTj hc).ready hI.closed hrd
   have after:∀ i ti,j<i->T[i]?=some ti->MP ops j i t ti=true->listed.getD i false=false:=fun i ti hi hti hc=>by
    cases hb:listed.getD i false with
    | false=>rfl
    | true=>exact absurd ((C.conf j i t ti hi (hTlt i ti hti) hTj hti hc).listed hI.closed hb) hjn
   have slotB:∀ i d,i<j->CZ ops i=some d->(o.looksAt ops).contains d=true->listed.getD i false=true:=fun i d hi hd hc=>by
    grind[MP]
   have slotA:∀ i d,j<i->CZ ops i=some d->(o.looksAt ops).contains d=true->listed.getD i false=false:=fun i d hi hd hc=>by
    grind[CZ,MP]
   have keyin:∀(q:Tr) k,touches q k=true->k∈keysOf q.F++keysOf q.F':=fun q k h=>by
    unfold touches at h
    rw[Bool.or_eq_true] at h
    exact List.mem_append.2 (h.imp RI RI)
   have cf:∀(i1 i2:Nat) (t1 t2:Tr) (k:Nat),touches t1 k=true->touches t2 k=true->(t1.rd=false\/t2.rd=false)->MP ops i1 i2 t1 t2=true:=fun i1 i2 t1 t2 k h1 h2 h3=>by
    unfold MP
    grind
   have resB:∀ i ti k x,i<j->T[i]?=some ti->wr ti k=some x->touches t k=true->listed.getD i false=true:=fun i ti k x hi hti hw hk =>
    before i ti hi hti (cf i j ti t k (H8 hw).1 hk (.inl (H8 hw).2))
   have resA:∀ i ti k x,j<i->T[i]?=some ti->wr ti k=some x->touches t k=true->listed.getD i false=false:=fun i ti k x hi hti hw hk =>
    after i ti hi hti (cf j i t ti k hk (H8 hw).1 (.inr (H8 hw).2))
   -- what is looked at
   have hlook:∀ x s,IU x (o.looksAt ops)=true->FZ x L=some s->Rep ⟨Yu T m0 (listed.getD · false),ν,D9 g.Oa (fun k=>hvn (listed.getD · false) T k (hlk k H0) ops.size) ν,w⟩ s (a.tmps.getD x undef):=fun x s hx hs=>by
    have hc:(o.looksAt ops).contains x=true:=by grind[H5]
    refine S.slots x s ?_
    show Kz (listed.getD · false) ops T x (FZ x L0) ops.size=some s
    rw[KX (j:=j) zf (fun i hi _ hd=>by
     grind),JS (D':=fun _=>true) (fun i hi hd=>slotB i x hi hd hc),<-hL]
    exact hs
   have hval:LC ⟨Yu T m0 (listed.getD · false),ν,D9 g.Oa (fun k=>hvn (listed.getD · false) T k (hlk k H0) ops.size) ν,w⟩ (Qn (o.looksAt ops) L) a.eval:=by
    intro x s hx
    cases x with
    | tmp q=>obtain⟨h1,h2⟩:=QH hx;exact hlook q s h1 h2
    | const c=>simp only[Dc,Option.some.injEq] at hx;subst hx;exact AV.of_rep _ c
    | global g=>simp only[Dc,Option.some.injEq] at hx;subst hx;simp only[Rep];rfl
    | func g=>simp only[Dc,Option.some.injEq] at hx;subst hx;simp only[Rep,AA];exact⟨[],[],rfl,rfl,rfl⟩
   have hpre:∀ k R,Cj k t.F=some R->hvn (listed.getD · false) T k (hlk k H0) ops.size=some R:=fun k R hF=>by
    have htk:touches t k=true:=by simp[touches,hF]
    rw[KW (j:=j) zf (fun i hi _ ti x hti hw=>by
     grind),JR (D':=fun _=>true) (fun i hi ti x hti hw=>resB i ti k x hi hti hw htk),<-hH]
    exact hst.pre k R hF
   have hnew:∀ k,has k t.F'->has k t.F\/¬Yu T m0 (listed.getD · false) k:=fun k hF'=>by
    have htk:touches t k=true:=by grind[has,touches]
    rcases hst.new k hF' with h|h
    ·exact .inl h
    ·by_cases hF:has k t.F
     ·exact .inl hF
     ·right
      have hrdj:t.rd=false:=by
       cases hr:t.rd with
       | false=>rfl
       | true=>exact absurd (by rw[<-hst.rd hr];exact hF') hF
      have ej:Ii T m0 (j+1)=Ii T m0 j+t.nn:=by grind[Ii,stepM]
      rintro(hlt|⟨i,ti,hDi,hti,hFi⟩)
      ·have:m0<=Ii T m0 j:=Gf (j:=0) (Nat.zero_le _)
       omega
      ·have hDi:listed.getD i false=true:=hDi
       have hij:i≠j:=fun e=>zn
       have htik:touches ti k=true:=by grind[has,touches]
       have hilt:=hTlt i ti hti
       obtain⟨t',m',L',H',g1,g2,g3,g4,g5⟩:=St.at' i ops[i] (Array.getElem?_eq_getElem hilt)
       rw[hti] at g1;obtain rfl:=Option.some.inj g1
       rcases Nat.lt_or_gt_of_ne hij with hlt|hgt
       ·rcases g2.new k hFi with hFi2|hFi2
        ·obtain⟨R0,hq⟩:=(Bo _ _).1 hFi2
         have:=g2.pre k R0 hq
         rw[g5] at this
         have:=St.names C.len h0 i zf k R0 this
         have hmm:Ii T m0 i<=Ii T m0 j:=Gf zf
         omega
        ·have ei:Ii T m0 (i+1)=Ii T m0 i+ti.nn:=by grind[Ii,stepM]
         have hmm:Ii T m0 (i+1)<=Ii T m0 j:=Gf zf
         omega
       grind
   -- what follows
   have hls:∀ i,DJ (listed.setIfInBounds j true) i↔i=j\/DJ listed i:=fun i=>NT zn
   have hD':∀ i,i≠j->(listed.setIfInBounds j true).getD i false=listed.getD i false:=fun i hi=>getD_set_ne false (fun e=>hi e.symm)
   have hD'j:(listed.setIfInBounds j true).getD j false=true:=by have:=hI.len;simp[show j<listed.size by omega]
   have hlen':(listed.setIfInBounds j true).size=ops.size:=by simp[hI.len]
   have hcl':∀ i (o:Oper),ops[i]?=some o->DJ (listed.setIfInBounds j true) i->∀ e∈o.after,Region.binds .any e=true->DJ (listed.setIfInBounds j true) e.on:=fun i o' ho' h e he hb=>(hls _).2 (by
    rcases(hls i).1 h with rfl|h
    ·grind
    ·exact .inr (hI.closed i o' ho' h e he hb))
   have hunl':Vf (listed.setIfInBounds j true) ops.size=fuel:=by grind[Tn]
   have hN:∀ k,Yu T m0 ((listed.setIfInBounds j true).getD · false) k↔Yu T m0 (listed.getD · false) k\/has k t.F':=fun k=>by
    constructor
    ·rintro(h|⟨i,ti,h1,h2,h3⟩)
     ·exact .inl (.inl h)
     ·by_cases e:i=j
      ·grind
      ·have h1:(listed.setIfInBounds j true).getD i false=true:=h1
       rw[hD' i e] at h1;exact .inl (.inr ⟨i,ti,h1,h2,h3⟩)
    ·rintro((h|⟨i,ti,h1,h2,h3⟩)|h)
     ·exact .inl h
     ·have h1:listed.getD i false=true:=h1
      by_cases e:i=j
      ·grind
      ·exact .inr ⟨i,ti,by grind,h2,h3⟩
     ·exact .inr ⟨j,t,hD'j,hTj,h⟩
   have hkq:∀ k,hvn ((listed.setIfInBounds j true).getD · false) T k (hlk k H0) ops.size=upd t.F t.F' (fun k=>hvn (listed.getD · false) T k (hlk k H0) ops.size) k:=fun k=>by
    have same:wr t k=none->hvn ((listed.setIfInBounds j true).getD · false) T k (hlk k H0) ops.size=hvn (listed.getD · false) T k (hlk k H0) ops.size:=fun hw=>JR fun i _ ti x hti hwi=>by
     grind
    cases hr:t.rd with
    | true =>
     have hw:wr t k=none:=by grind[wr]
     rw[same hw]
     have hFF:=hst.rd hr
     grind[upd]
    | false =>
     rw[bK t _ k hr]
     cases hw:wr t k with
     | none=>exact same hw
     | some x =>
      have htk:=(H8 hw).1
      rw[KW (j:=j+1) zf (fun i hi _ ti x hti hwi=>by
       grind)]
      simp only[hvn,hTj,Option.bind_some,hw,hD'j,cond_true]
   have hlq:∀ x,Kz ((listed.setIfInBounds j true).getD · false) ops T x (FZ x L0) ops.size=if o.dst=some x then some t.s else Kz (listed.getD · false) ops T x (FZ x L0) ops.size:=fun x=>by
    have hdj:CZ ops j=o.dst:=by simp[CZ,ho]
    by_cases e:o.dst=some x
    ·rw[if_pos e,KX (j:=j+1) zf (fun i hi hi2 hd=>absurd hd (C.uniq j i x zf hi2 zn))]
     simp only[Kz,hdj,e,hTj,hD'j,cond_true,if_true]
    ·rw[if_neg e]
     grind[JS]
   have next:∀(v:Value) (w':World) (ν':Nat->Value),Ok ⟨Yu T m0 (listed.getD · false),ν,D9 g.Oa (fun k=>hvn (listed.getD · false) T k (hlk k H0) ops.size) ν,w⟩ t.F t.F' t.s v w' ν'->wpAny P .any ops Q fuel (listed.setIfInBounds j true) (a.put o.dst v) w':=by
    intro v w' ν' ok
    obtain⟨S',hr⟩:=S.step (N':=Yu T m0 ((listed.setIfInBounds j true).getD · false)) (hk':=fun k=>hvn ((listed.setIfInBounds j true).getD · false) T k (hlk k H0) ops.size) hpre ok hN hkq
    refine ih _ _ _ ⟨hlen',hcl',ν',?_⟩ hunl'
    cases hd:o.dst with
    | none =>
     have e1:(fun x=>Kz ((listed.setIfInBounds j true).getD · false) ops T x (FZ x L0) ops.size)=fun x=>Kz (listed.getD · false) ops T x (FZ x L0) ops.size:=funext fun x=>zn
     rw[e1]
     exact S'
    | some d =>
     exact S'.put (C.dstn j o d ho hd) hr fun x=>by
      grind
   unfold wpOp
   rw[ho]
   show if _ then _ else _
   have hobl:=hst.obl
   unfold dZ at hobl
   cases hg:o.guard with
   | none =>
    rw[hg] at hobl
    rw[if_pos (by simp[Region.wanted,hg])]
    refine .inl (FH (EW (hobl _ a.eval (S.good) hval ⟨fun k R hF=>?_,fun k k' R R' b h h'=>S.dist k k' R R' b (hpre k R h) (hpre k' R' h'),hnew⟩) ?_))
    ·obtain⟨r0,r1,r2⟩:=S.res k R (hpre k R hF)
     exact⟨r0,r1,fun b hb=>.inr ⟨k,R,hpre k R hF,hb⟩⟩
    grind
   | some p =>
    obtain⟨gi,want⟩:=p
    rw[hg] at hobl
    obtain⟨d',vd,hd',hb,hcase⟩:=hobl
    have hlkd:IU d' (o.looksAt ops)=true:=by
     refine H5.2 (List.mem_append_right _ ?_)
     have:(ops[gi]?).bind (·.dst)=some d':=hd'
     grind
    have hvb:=hlook d' _ hlkd hb
    have hgl:∃ og,ops[gi]?=some og/\og.dst=some d':=by
     have:(ops[gi]?).bind (·.dst)=some d':=hd'
     cases hog:ops[gi]? with
     | none|some og=>grind
    obtain⟨og,hog,hogd⟩:=hgl
    have hdn':=C.dstn gi og d' hog hogd
    have hyb:∀ b,vd=.b b->yielded ops a.tmps gi=some b:=by
     rintro b rfl
     simp only[Rep] at hvb
     simp only[yielded,hog,Option.bind_some,hogd]
     rw[Array.getD_eq_getD_getElem?] at hvb
     have hlt:d'<a.tmps.size:=by rw[S.size];exact hdn'
     grind
    have hyu:vd=.tup []->yielded ops a.tmps gi=none:=by
     rintro rfl
     simp only[Rep,AA] at hvb
     obtain⟨us,hvb,rfl⟩:=hvb
     simp only[yielded,hog,Option.bind_some,hogd]
     rw[Array.getD_eq_getD_getElem?] at hvb
     grind
    rcases hcase with⟨hv,hy⟩|⟨hv,e1,e2,e3⟩
    ·rw[if_pos (by grind[Region.wanted])]
     refine .inl (FH (EW (hy _ a.eval (S.good) hval ⟨fun k R hF=>?_,fun k k' R R' b h h'=>S.dist k k' R R' b (hpre k R h) (hpre k' R' h'),hnew⟩) ?_))
     ·obtain⟨r0,r1,r2⟩:=S.res k R (hpre k R hF)
      exact⟨r0,r1,fun b hb=>.inr ⟨k,R,hpre k R hF,hb⟩⟩
     grind
    ·rw[if_neg (by
      grind[Region.wanted])]
     have:=Ok.pure (c:=⟨Yu T m0 (listed.getD · false),ν,D9 g.Oa (fun k=>hvn (listed.getD · false) T k (hlk k H0) ops.size) ν,w⟩) (s:=.tup []) (v:=undef) (w':=w) zJ (Stp.refl _ _)
     grind
theorem Yv{Q:PostX}{id:Nat}{l:List Oper}{m:Nat}{L:LX}{H:HX}(hm:P.follows .mixedOrders=true)(h:DRX P I l.toArray (fun tr m' L' H'=>drawChk0 n l.toArray tr=true/\Q .normal m' L' H') l [] m L H):Wc P I n g (.region id l.toArray true) Q m L H:=by
 intro a w ν S
 obtain⟨T,m',L',H',g1,g2,⟨g3,g3'⟩,g4,g5,g6,g7⟩:=h.steps (m0:=m) (L0:=L) (H0:=H) l [] m L H (fun i hi=>by simp) rfl (fun x=>rfl) (fun k=>rfl)
 have C:=QI g3
 have hTl:T.length=l.toArray.size:=zn
 have St:Steps P I l.toArray T m L H:=⟨fun j o ho=>g7 j o (Nat.zero_le _) zn ho⟩
 refine wp_region_any hm ?_
 have hno:∀ j,(Array.replicate l.toArray.size false).getD j false=false:=fun j=>by
  simp only[Array.getD_eq_getD_getElem?,Array.getElem?_replicate]
  split<;>rfl
 have hu:Vf (Array.replicate l.toArray.size false) l.toArray.size=l.toArray.size:=by
  have:=L6 (listed:=Array.replicate l.toArray.size false) (m:=0) l.toArray.size (fun i hi=>by
   simp_all[DJ])
  omega
 have S1:En I n g m L H a {w with drawn:=w.drawn+1} ν:=by
  have hst:Stp No w {w with drawn:=w.drawn+1}:=⟨rfl,rfl,rfl,Nat.le_refl _,fun _ _ _=>rfl⟩
  have hle:Cx.Le none ⟨(· < m),ν,D9 g.Oa (fun k=>hlk k H) ν,w⟩ ⟨(· < m),ν,D9 g.Oa (fun k=>hlk k H) ν,{w with drawn:=w.drawn+1}⟩:=⟨fun _ _ h=>⟨h,rfl⟩,fun w'' hs=>hst.then hs (fun i _ h=>h.elim) fun i _ h=>h⟩
  refine⟨S.size,S.defers,S.stp.then hst (fun i _ h=>h) (fun i _ h=>h.elim),S.amb,fun w' hs=>S.inv w' (hle.st w' hs),S.pin,fun t s hs=>Rep.le hle s _ (Dz s) (S.slots t s hs),fun k R hR=>?_,S.dist⟩
  obtain⟨r0,r1,r2⟩:=S.res k R hR
  exact⟨r0,Holds.le hle (Bj _) rfl (fun b hb=>⟨(r2 b hb).1,rfl⟩) r1,r2⟩
 refine VE (g:=g) C St (fun k R hk=>(S.res k R hk).1) (Q:=Qh I n g Q) ?_ _ _ a _ ⟨by simp,(fun j o _ h=>by simp_all[DJ]),ν,?_⟩ hu
 ·intro a' w' ν' S'
  refine⟨m',L',H',ν',g3',?_⟩
  grind
 ·have e1:(fun t=>Kz ((Array.replicate l.toArray.size false).getD · false) l.toArray T t (FZ t L) l.toArray.size)=fun t=>FZ t L:=funext fun t=>KX (j:=0) (Nat.zero_le _) fun i _ _ _=>hno i
  have e2:(fun k=>hvn ((Array.replicate l.toArray.size false).getD · false) T k (hlk k H) l.toArray.size)=fun k=>hlk k H:=funext fun k=>KW (j:=0) (Nat.zero_le _) fun i _ _ _ _ _ _=>hno i
  rw[e1,e2]
  exact S1.moreN fun k hk=>.inl hk
end
def A8:Nat->Array Oper->List Tr->Bool:=A7 drawChk0
theorem PO:A8=drawChk0:=AY _
theorem drw{n:Nat}{ops:Array Oper}{tr:List Tr}(h:drawChk0 n ops tr=true):A8 n ops tr=true:=by rw[PO];exact h
def Fh{R:Type}:LX->(LX->R)->R
 | [],K=>K []
 | (t,s)::L,K=>force s fun s=>Fh L fun L=>K ((t,s)::L)
theorem CU{R:Type}:∀(l:LX) (K:LX->R),Fh l K=K l
 | [],K=>rfl
 | (t,s)::r,K=>by simp only[Fh,force_eq,CU r]
def Ej{R:Type}(T:TT)(G:FT)(Q:Req->Option Rsp)(ops:List Oper):List Oper->List Tr->Nat->LX->HX->(List Tr->Nat->LX->HX->Option R)->Option R
 | [],tr,m,L,H,K=>K tr m L H
 | o::r,tr,m,L,H,K=>match o.guard with
  | none=>FN (o.looksAt ops.toArray) fun lk=>Fh (Qn lk L) fun L'=>Eh T G Q (Dc L') (fun k=>hlk k H) m o.op fun t=>FD o.dst t m L H fun m L H=>Ej T G Q ops r (tr++[t]) m L H K
  | some (j,want)=>(match(ops[j]?).bind (·.dst) with
   | some d'=>(match FZ d' L with
    | some (.b c)=>bif c then
      bif want then FN (o.looksAt ops.toArray) fun lk=>Fh (Qn lk L) fun L'=>Eh T G Q (Dc L') (fun k=>hlk k H) m o.op fun t=>FD o.dst t m L H fun m L H=>Ej T G Q ops r (tr++[t]) m L H K
      else Ej T G Q ops r (tr++[⟨.tup [],[],[],true,0⟩]) m (N7 o.dst (.tup []) L) H K
     else
      bif want then Ej T G Q ops r (tr++[⟨.tup [],[],[],true,0⟩]) m (N7 o.dst (.tup []) L) H K
      else FN (o.looksAt ops.toArray) fun lk=>Fh (Qn lk L) fun L'=>Eh T G Q (Dc L') (fun k=>hlk k H) m o.op fun t=>FD o.dst t m L H fun m L H=>Ej T G Q ops r (tr++[t]) m L H K
    | some (.tup [])=>Ej T G Q ops r (tr++[⟨.tup [],[],[],true,0⟩]) m (N7 o.dst (.tup []) L) H K
    | _=>none)
   | none=>none)
theorem Yw{m:Nat}{H:HX}(hm:∀ k R,hlk k H=some R->k<m)(hpre:∀ k R,Cj k t.F=some R->hlk k H=some R)(hnew:∀ k,has k t.F'->has k t.F\/(m<=k/\k<m+t.nn))(hrd:t.rd=true->t.F'=t.F):∀ k R,hlk k (Zt t H)=some R->k<m+t.nn:=by
 intro k R h
 rw[U9 hpre hrd] at h
 rcases Ox h with h|⟨h,_,_⟩
 ·rcases hnew k ((Bo _ _).2 ⟨R,h⟩) with h1|h1
  ·obtain⟨R0,h2⟩:=(Bo _ _).1 h1
   have:=hm k R0 (hpre k R0 h2);omega
  ·exact h1.2
 ·have:=hm k R h;omega
section
variable {P:Program}{I:World->Prop}{n:Nat}{g:Gx}{T:TT}{G:FT}{Q:Req->Option Rsp}{α:Type}{r:α}
theorem XG(hT:TTok P I T)(hG:QE P G)(hQ:dY P I Q){ops:List Oper}{fin:List Tr->Nat->LX->HX->Prop}{K:List Tr->Nat->LX->HX->Option α}(hK:∀ tr m L H,K tr m L H=some r->fin tr m L H)(l:List Oper):∀(tr:List Tr) (m:Nat) (L:LX) (H:HX),(∀ k R,hlk k H=some R->k<m)->Ej T G Q ops l tr m L H K=some r->DRX P I ops.toArray fin l tr m L H:=by
 induction l with
 | nil=>intro tr m L H _ h;exact hK _ _ _ _ h
 | cons o l ih =>
  intro tr m L H hm h
  rw[Ej] at h
  have run:∀ lk,lk=o.looksAt ops.toArray->Eh T G Q (Dc (Qn lk L)) (fun k=>hlk k H) m o.op (fun t=>FD o.dst t m L H fun m L H=>Ej T G Q ops l (tr++[t]) m L H K)=some r->∃ t,(Ya P I (Qn (o.looksAt ops.toArray) L) t.F o.op o.type t.s t.F')/\(∀ k R,Cj k t.F=some R->hlk k H=some R)/\(∀ k,has k t.F'->has k t.F\/(m<=k/\k<m+t.nn))/\(t.rd=true->t.F'=t.F)/\DRX P I ops.toArray fin l (tr++[t]) (stepM t m) (UB o.dst t.s L) (RH t H):=by
   clear h
   rintro lk rfl h9
   obtain⟨t,ht,ok⟩:=OE hT hG hQ hm h9
   rw[KU] at ht
   exact⟨t,ok.opl _,ok.pre,ok.new,ok.rd,ih _ _ _ _ (Yw hm ok.pre ok.new ok.rd) ht⟩
  have skip:Ej T G Q ops l (tr++[⟨.tup [],[],[],true,0⟩]) m (N7 o.dst (.tup []) L) H K=some r->DRX P I ops.toArray fin l (tr++[⟨.tup [],[],[],true,0⟩]) (stepM ⟨.tup [],[],[],true,0⟩ m) (UB o.dst (.tup []) L) (RH ⟨.tup [],[],[],true,0⟩ H):=fun h=>ih _ _ _ _ hm h
  have hnil:∀ k R,Cj k ([]:Fp)=some R->hlk k H=some R:=fun k R h=>zt
  have hnil2:∀ k,has k ([]:Fp)->has k ([]:Fp)\/(m<=k/\k<m+0):=fun k h=>absurd h (ET k)
  split at h
  ·rename_i hg
   rw[CO,CU] at h
   obtain⟨t,h1,h2,h3,h4,h5⟩:=run _ rfl h
   exact⟨t,⟨by simp_all[dZ],h2,h3,h4⟩,h5⟩
  ·rename_i j want hg
   split at h
   ·rename_i d' hd'
    have hj:CZ ops.toArray j=some d':=by grind[CZ]
    split at h
    ·rename_i c hc
     have run2:c=want->Eh T G Q (Dc (Qn (o.looksAt ops.toArray) L)) (fun k=>hlk k H) m o.op (fun t=>FD o.dst t m L H fun m L H=>Ej T G Q ops l (tr++[t]) m L H K)=some r->DRX P I ops.toArray fin (o::l) tr m L H:=by
      intro e h9
      obtain⟨t,h1,h2,h3,h4,h5⟩:=run _ rfl h9
      exact⟨t,⟨by simp_all[dZ],h2,h3,h4⟩,h5⟩
     have skip2:c = !want->Ej T G Q ops l (tr++[⟨.tup [],[],[],true,0⟩]) m (N7 o.dst (.tup []) L) H K=some r->DRX P I ops.toArray fin (o::l) tr m L H:=by
      intro e h9
      exact⟨⟨.tup [],[],[],true,0⟩,⟨by unfold dZ;simp_all,hnil,hnil2,fun _=>rfl⟩,skip h9⟩
     cases c with
     | true =>
      cases want with
      | true=>simp only[cond_true,CO,CU] at h;simp_all
      | false=>simp_all
     | false =>
      cases want with
      | true=>simp_all
      | false=>simp only[cond_false,CO,CU] at h;simp_all
    ·rename_i hc
     exact⟨⟨.tup [],[],[],true,0⟩,⟨by unfold dZ;simp_all,hnil,hnil2,fun _=>rfl⟩,skip h⟩
    ·cases h
   ·cases h
end
end
end Go.Ax
namespace Go.Ax
noncomputable section
open Go Go.RowKit Go.Eng
set_option linter.unusedVariables false
set_option linter.unusedSimpArgs false
def OG(keep:List Nat)(L:LX):LX:=match keep with
 | []=>[]
 | t::r=>(match FZ t L with|some s=>(t,s)::OG r L|none=>OG r L)
def Jo:LX->List Nat
 | []=>[]
 | (_,s)::L=>names s++Jo L
def Yx(ρ:Nat->Nat):LX->LX
 | []=>[]
 | (t,s)::L=>(t,ren ρ s)::Yx ρ L
def upto(n:Nat):List Nat:=List.range n
def hIn(ρ:Nat->Nat)(hk:Nat->Option Rs):Nat->List Nat->HX
 | _,[]=>[]
 | i,k::r=>match hk k with
  | some R=>(i,some (Ee ρ R))::hIn ρ hk (i+1) r
  | none=>hIn ρ hk (i+1) r
variable {R:Type}
def Hu:HX->(HX->R)->R
 | [],K=>K []
 | (k,some r)::H,K=>LD r fun r=>Hu H fun H=>K ((k,some r)::H)
 | (k,none)::H,K=>Hu H fun H=>K ((k,none)::H)
theorem EZ:∀(l:HX) (K:HX->R),Hu l K=K l
 | [],K=>rfl
 | (k,some r)::H,K=>by simp only[Hu,JE,EZ H]
 | (k,none)::H,K=>by simp only[Hu,EZ H]
def preB:Nat->Nat->List Nat->Bool
 | 0,_,_=>true
 | n+1,i,k::r=>Nat.beq k i&&preB n (i+1) r
 | _+1,_,[]=>false
def Jp(hk:Nat->Option Rs)(ks:List Nat):List Nat->Bool
 | []=>true
 | k::r=>(match hk k with|some R=>allIn ks (Ht R)|none=>true)&&Jp hk ks r
def canon(keep:List Nat)(n0:Nat)(L:LX)(H:HX)(K:Nat->LX->HX->Option R):Option R :=
 Fh (OG keep L) fun L1=>FN (close (fun k=>hlk k H) 60 [] (upto n0++Jo L1)) fun ks =>
  bif nodupB ks&&preB n0 0 ks&&allIn ks (Jo L1)&&Jp (fun k=>hlk k H) ks ks then
   Fh (Yx (fun k=>idx k ks) L1) fun L=>Hu (hIn (fun k=>idx k ks) (fun k=>hlk k H) 0 ks) fun H=>addN 0 ks.length fun m=>K m L H
  else none
theorem XH{keep:List Nat}{L:LX}{t:Nat}{s:AV}(h:FZ t (OG keep L)=some s):FZ t L=some s:=by
 induction keep with
 | nil=>cases h
 | cons d r ih =>
  grind[OG,Dl]
theorem RJ{ρ:Nat->Nat}{t:Nat}{s:AV}:∀ {L:LX},FZ t (Yx ρ L)=some s->∃ s1,FZ t L=some s1/\s=ren ρ s1
 | [],h=>zt
 | (d,v)::L,h=>by
  simp only[Yx] at h
  rw[Dl] at h ⊢
  split at h
  ·simp_all
  ·rename_i e;rw[if_neg e];exact RJ h
theorem OH{t:Nat}{s:AV}{k:Nat}(hk:k∈names s):∀ {L:LX},FZ t L=some s->k∈Jo L
 | [],h=>zt
 | (d,v)::L,h=>by
  rw[Dl] at h
  simp only[Jo]
  split at h
  ·simp_all
  ·exact List.mem_append.2 (.inr (OH hk h))
theorem J5{ρ:Nat->Nat}{hk:Nat->Option Rs}{R:Rs}{j:Nat}:∀ {ks:List Nat} {i:Nat},hlk j (hIn ρ hk i ks)=some R->∃ q k R1,ks[q]?=some k/\j=i+q/\hk k=some R1/\R=Ee ρ R1
 | [],i,h=>zt
 | k::ks,i,h=>by
  simp only[hIn] at h
  split at h
  ·rename_i R1 h1
   rw[DK] at h
   split at h
   ·rename_i e;exact⟨0,k,R1,rfl,by simpa using e,h1,(Option.some.inj h).symm⟩
   ·obtain⟨q,k',R',g1,g2,g3,g4⟩:=J5 h
    exact⟨q+1,k',R',by grind,by omega,g3,g4⟩
  ·obtain⟨q,k',R',g1,g2,g3,g4⟩:=J5 h
   exact⟨q+1,k',R',by grind,by omega,g3,g4⟩
theorem OI:∀ {n i:Nat} {ks:List Nat} {j:Nat},preB n i ks=true->j<n->ks[j]?=some (i+j)
 | 0,i,ks,j,_,hj=>zf
 | n+1,i,[],j,h,_=>zt
 | n+1,i,k::r,0,h,_=>by simp_all[preB]
 | n+1,i,k::r,j+1,h,hj=>by
  simp only[preB,Bool.and_eq_true] at h
  have:=OI (j:=j) h.2 zf
  grind
theorem Jq{hk:Nat->Option Rs}{ks:List Nat}:∀ {l:List Nat} {k:Nat} {R:Rs},Jp hk ks l=true->k∈l->hk k=some R->∀ q∈Ht R,q∈ks
 | a::l,k,R,h,hm,hR=>by
  simp only[Jp,Bool.and_eq_true] at h
  rcases List.mem_cons.1 hm with rfl|hm
  ·simp_all[Gt]
  ·exact Jq h.2 hm hR
theorem XI{keep:List Nat}{n0:Nat}{L:LX}{H:HX}{K:Nat->LX->HX->Option R}{r:R}(h:canon keep n0 L H K=some r):∃(m':Nat) (L':LX) (H':HX) (ρ:Nat->Nat),K m' L' H'=some r /\
  ∀ {I:World->Prop} {n:Nat} {g:Gx} {m:Nat} {a:Act} {w:World} {ν:Nat->Value},g.n0=n0->En I n g m L H a w ν->En I n g m' L' H' a w (fun k=>ν (ρ k)):=by
 unfold canon at h
 rw[CU,CO] at h
 generalize hks:close (fun k=>hlk k H) 60 [] (upto n0++Jo (OG keep L))=ks at h
 cases hc:(nodupB ks&&preB n0 0 ks&&allIn ks (Jo (OG keep L))&&Jp (fun k=>hlk k H) ks ks) with
 | false=>simp_all
 | true =>
  rw[hc] at h
  simp only[cond_true,CU,EZ,Bq,Nat.zero_add] at h
  simp only[Bool.and_eq_true,IZ,Gt] at hc
  obtain⟨⟨⟨hnd,hpre⟩,hin⟩,hinH⟩:=hc
  refine⟨_,_,_,nth ks,h,fun {I n g m a w ν} hg S=>?_⟩
  refine S.cut (nth ks) (fun k hk=>?_) (fun t s hs=>?_) (fun k R hR=>?_) (fun k k' R R' h1 h2 e=>?_)
  ·rw[hg] at hk
   have:=OI hpre hk
   rw[Nat.zero_add] at this
   grind[Fg]
  ·obtain⟨s1,h1,rfl⟩:=RJ hs
   grind[RG,OH,XH]
  ·obtain⟨q,k',R1,h1,h2,h3,rfl⟩:=J5 hR
   rw[Nat.zero_add] at h2
   subst h2
   obtain⟨h4,h5⟩:=Lp (R:=R1) (Jq hinH (List.mem_of_getElem? h1) h3)
   grind[Fg]
  ·obtain⟨q,k1,R1,g1,g2,_,_⟩:=J5 h1
   obtain⟨q',k2,R2,f1,f2,_,_⟩:=J5 h2
   rw[Nat.zero_add] at g2 f2
   grind[Fg,List.getElem?_inj]
def one1(k e:Nat)(t:Ty)(l:List (El t)):Nat->Option Rs:=fun j=>bif Nat.beq j k then some (.row e t l) else none
def Zu(hk:Nat->Option Rs):LX->LX
 | []=>[]
 | (t,s)::L=>(t,vw hk s)::Zu hk L
def bM(hk:Nat->Option Rs):Rs->Rs
 | .var l=>.var (Ql hk l)
 | .rowA e s n l=>.rowA e s n (Ql hk l)
 | R=>R
def Vg(hk:Nat->Option Rs):HX->HX
 | []=>[]
 | (k,some R)::H=>(k,some (bM hk R))::Vg hk H
 | (k,none)::H=>(k,none)::Vg hk H
theorem UC(hk:Nat->Option Rs)(t:Nat):∀(L:LX),FZ t (Zu hk L)=(FZ t L).map (vw hk)
 | []=>rfl
 | (d,s)::L=>by rw[Zu,Dl,Dl,UC hk t L];split<;>rfl
theorem UD(hk:Nat->Option Rs)(k:Nat):∀(H:HX),hlk k (Vg hk H)=(hlk k H).map (bM hk)
 | []=>rfl
 | (d,some R)::H|(d,none)::H=>by rw[Vg,DK,DK,UD hk k H];split<;>rfl
theorem Sat.giveUp{I:World->Prop}{n:Nat}{g:Gx}{m:Nat}{L:LX}{H:HX}{a:Act}{w:World}{ν:Nat->Value}(S:En I n g m L H a w ν){k e:Nat}{t:Ty}{l:List (El t)}(hkk:hlk k H=some (.row e t l)):
  En I n g m (Zu (one1 k e t l) L) ((k,none)::Vg (one1 k e t l) H) a w ν:=by
 have hG:∀ q R,Cj q [(k,Rs.row e t l)]=some R->q=k/\R=.row e t l:=fun q R h=>by
  rw[Az] at h
  simp_all
 have hres:∀ q R,Cj q [(k,Rs.row e t l)]=some R->q<m/\Holds ⟨(· < m),ν,D9 g.Oa (fun k=>hlk k H) ν,w⟩ q R/\∀ b,blk (ν q)=some b->D9 g.Oa (fun k=>hlk k H) ν b:=fun q R h=>by
  obtain⟨rfl,rfl⟩:=hG q R h
  obtain⟨r0,r1,r2⟩:=S.res _ _ hkk
  exact⟨r0,r1,fun b hb=>.inr ⟨_,_,hkk,hb⟩⟩
 have hin:∀ q,∀ e' t' l',one1 k e t l q=some (.row e' t' l')->Cj q [(k,Rs.row e t l)]=some (.row e' t' l'):=fun q e' t' l' h=>by
  unfold one1 at h
  cases hb:Nat.beq q k with
  | false=>simp_all
  | true =>
   simp_all[Az]
 have hk':∀ q R,hlk q ((k,none)::Vg (one1 k e t l) H)=some R->q≠k/\∃ R0,hlk q H=some R0/\R=bM (one1 k e t l) R0:=fun q R h=>by
  grind[DK,UD,Option.map_eq_some_iff]
 have hfb:∀ b,CE ν [(k,Rs.row e t l)] b↔blk (ν k)=some b:=fun b=>by
  constructor
  ·rintro⟨q,R,h,hb⟩;grind
  ·intro hb;exact⟨k,_,by rw[Az,if_pos rfl],hb⟩
 have hown:∀ b,D9 g.Oa (fun q=>hlk q ((k,none)::Vg (one1 k e t l) H)) ν b->D9 g.Oa (fun k=>hlk k H) ν b/\¬CE ν [(k,Rs.row e t l)] b:=by
  rintro b (hb|⟨q,R,hq,hb⟩)
  ·refine⟨.inl hb,fun hf=>?_⟩
   have h1:=S.amb b hb
   have h2:=((S.res _ _ hkk).2.2 b ((hfb b).1 hf)).2
   grind
  ·obtain⟨hne,R0,h1,_⟩:=hk' q R hq
   refine⟨.inr ⟨q,R0,h1,hb⟩,fun hf=>?_⟩
   exact S.dist q k R0 _ b h1 hkk hne hb ((hfb b).1 hf)
 have hle:Cx.Le none (Cx.less ⟨(· < m),ν,D9 g.Oa (fun k=>hlk k H) ν,w⟩ [(k,Rs.row e t l)]) ⟨(· < m),ν,D9 g.Oa (fun q=>hlk q ((k,none)::Vg (one1 k e t l) H)) ν,w⟩ :=
  ⟨fun k _ h=>⟨h,rfl⟩,fun w'' hs=>hs.mono fun i _ h=>hown i h⟩
 refine⟨S.size,S.defers,S.stp,S.amb,fun w'' hs=>S.inv w'' (hs.mono fun i _ h=>(hown i h).1),S.pin,fun d s hs=>?_,fun q R hR=>?_,fun q q' R R' b h h' hne=>?_⟩
 ·rw[UC] at hs
  obtain⟨s0,h1,rfl⟩:=Option.map_eq_some_iff.1 hs
  exact Rep.le hle _ _ (Dz _) (Zr hres s0 _ (fun q _ e' t' l' h=>hin q e' t' l' h) (S.slots d s0 h1))
 ·obtain⟨hne,R0,h1,rfl⟩:=hk' q R hR
  obtain⟨r0,r1,r2⟩:=S.res q R0 h1
  refine⟨r0,Holds.le hle (Bj _) rfl (fun b hb=>⟨(r2 b hb).1,rfl⟩) ?_,r2⟩
  cases R0 with
  | var l0 =>
   obtain⟨b,us,g1,g2,g3,g4⟩:=r1
   exact⟨b,us,g1,g2,H7 hres l0 us (fun q _ e' t' l' h=>hin q e' t' l' h) g3,g4⟩
  | row e0 t0 l0=>exact Holds.le (Cx.less_le _ _) (Bj _) rfl (fun b hb=>⟨(r2 b hb).1,rfl⟩) r1
  | rowA e0 s0 n0 l0 =>
   obtain⟨us,g1,g2,g3⟩:=r1
   exact⟨us,g1,H7 hres l0 us (fun q _ e' t' l' h=>hin q e' t' l' h) g2,g3⟩
 ·obtain⟨_,R0,h1,_⟩:=hk' q R h
  obtain⟨_,R1,h2,_⟩:=hk' q' R' h'
  exact S.dist q q' R0 R1 b h1 h2 hne
def Lr(L0:LX):LX->List Nat
 | []=>[]
 | (t,.nm k)::L=>(match FZ t L0 with|some (.nm j)=>bif Nat.beq j k then k::Lr L0 L else Lr L0 L|_=>Lr L0 L)
 | _::L=>Lr L0 L
def heldBy(L:LX):List Nat->List Nat
 | []=>[]
 | t::r=>(match FZ t L with|some s=>names s++heldBy L r|none=>heldBy L r)
def NK:HX->List Nat
 | []=>[]
 | (_,some R)::H=>Ht R++NK H
 | (_,none)::H=>NK H
def QM(ks:List Nat):List Nat->List Nat
 | []=>[]
 | k::r=>bif IU k ks then QM ks r else k::QM ks r
def Gg:List Nat->LX->HX->(LX->HX->R)->R
 | [],L,H,K=>K L H
 | k::r,L,H,K=>(match hlk k H with
  | some (.row e t l)=>Fh (Zu (one1 k e t l) L) fun L=>Hu ((k,none)::Vg (one1 k e t l) H) fun H=>Gg r L H K
  | _=>Gg r L H K)
def UE(sz n:Nat)(cells:List AV):Option (List (El (.sl (.sl .u8)))):=bif Nat.beq sz 1 then SK (.sl (.sl .u8)) n cells else none
def EN:List Nat->LX->HX->(LX->HX->R)->R
 | [],L,H,K=>K L H
 | k::r,L,H,K=>(match hlk k H with
  | some (.row e t l)=>Fh (Zu (one1 k e t l) L) fun L=>Hu ((k,none)::Vg (one1 k e t l) H) fun H=>EN r L H K
  | some (.rowA _ _ _ cells)=>Gg (Dq cells) L H fun L H=>(match hlk k H with
   | some (.rowA e sz n cells)=>(match UE sz n cells with
    | some l=>Fh (Zu (one1 k e (.sl (.sl .u8)) l) L) fun L=>Hu ((k,none)::Vg (one1 k e (.sl (.sl .u8)) l) ((k,some (.row e (.sl (.sl .u8)) l))::H)) fun H=>EN r L H K
    | none=>EN r L H K)
   | _=>EN r L H K)
  | _=>EN r L H K)
def OJ(need:Option (List Nat))(n0:Nat)(L:LX)(H:HX)(K:LX->HX->R):R:=match need with
 | none=>K L H
 | some need=>FN (bif IU 999999 need then QM (upto n0++heldBy L need) (YQ [] (Lr L L++NK H)) else QM (upto n0++heldBy L need++NK H) (YQ [] (Lr L L))) fun ks=>EN ks L H K
theorem Sat.conv{I:World->Prop}{n:Nat}{g:Gx}{m:Nat}{L:LX}{H:HX}{a:Act}{w:World}{ν:Nat->Value}(S:En I n g m L H a w ν){k:Nat}{R R':Rs}(hkk:hlk k H=some R)(hR:∀ c,Holds c k R->Holds c k R'):
  En I n g m L ((k,some R')::H) a w ν:=by
 have hk':∀ q Q,hlk q ((k,some R')::H)=some Q->∃ Q0,hlk q H=some Q0/\∀ c,Holds c q Q0->Holds c q Q:=fun q Q h=>by
  rw[DK] at h
  grind
 have hown:D9 g.Oa (fun q=>hlk q ((k,some R')::H)) ν=D9 g.Oa (fun q=>hlk q H) ν:=by
  funext b
  refine propext (or_congr Iff.rfl ⟨fun⟨q,Q,h1,h2⟩=>?_,fun⟨q,Q,h1,h2⟩=>?_⟩)
  ·grind
  ·by_cases e:q=k
   ·subst e;exact⟨q,R',(DK q q (some R') H).trans (if_pos rfl),h2⟩
   ·exact⟨q,Q,((DK q k (some R') H).trans (if_neg e)).trans h1,h2⟩
 refine⟨S.size,S.defers,S.stp,S.amb,?_,S.pin,?_,fun q Q h=>?_,fun q q' Q Q' b h h' hne=>?_⟩
 ·rw[hown];exact S.inv
 ·rw[hown];exact S.slots
 ·obtain⟨Q0,h1,h2⟩:=hk' q Q h
  obtain⟨r0,r1,r2⟩:=S.res q Q0 h1
  simp_all
 ·obtain⟨Q0,h1,_⟩:=hk' q Q h
  obtain⟨Q1,h2,_⟩:=hk' q' Q' h'
  exact S.dist q q' Q0 Q1 b h1 h2 hne
theorem XJ{e sz n k:Nat}{cells:List AV}{l:List (El (.sl (.sl .u8)))}(h:UE sz n cells=some l)(c:Cx)(hh:Holds c k (.rowA e sz n cells)):Holds c k (.row e (.sl (.sl .u8)) l):=by
 unfold UE at h
 cases hb:Nat.beq sz 1 with
 | false=>simp_all
 | true =>
  rw[hb,cond_true] at h
  obtain rfl:sz=1:=by simpa using hb
  obtain⟨vs,h1,h2,h3⟩:=hh
  obtain⟨h4,h5⟩:=QA h h2
  exact⟨vs,by rw[h5];exact h1,h4,h3⟩
theorem J6{I:World->Prop}{n:Nat}{g:Gx}{m:Nat}{a:Act}{w:World}{ν:Nat->Value}:∀(ks:List Nat) {L:LX} {H:HX} {K:LX->HX->R},En I n g m L H a w ν->∃ L' H',Gg ks L H K=K L' H'/\En I n g m L' H' a w ν
 | [],L,H,K,S=>⟨L,H,rfl,S⟩
 | k::r,L,H,K,S=>by
  unfold Gg
  split
  ·rename_i e t l hkk
   simp only[CU,EZ]
   exact J6 r (Sat.giveUp S hkk)
  ·exact J6 r S
theorem Fz{I:World->Prop}{n:Nat}{g:Gx}{m:Nat}{a:Act}{w:World}{ν:Nat->Value}:∀(ks:List Nat) {L:LX} {H:HX} {K:LX->HX->R},En I n g m L H a w ν->∃ L' H',EN ks L H K=K L' H'/\En I n g m L' H' a w ν
 | [],L,H,K,S=>⟨L,H,rfl,S⟩
 | k::r,L,H,K,S=>by
  unfold EN
  split
  ·rename_i e t l hkk
   simp only[CU,EZ]
   exact Fz r (Sat.giveUp S hkk)
  ·rename_i cells hkk
   obtain⟨L',H',h1,S'⟩:=J6 (K:=fun L H=>(match hlk k H with
    | some (.rowA e sz n cells)=>(match UE sz n cells with
     | some l=>Fh (Zu (one1 k e (.sl (.sl .u8)) l) L) fun L=>Hu ((k,none)::Vg (one1 k e (.sl (.sl .u8)) l) ((k,some (.row e (.sl (.sl .u8)) l))::H)) fun H=>EN r L H K
     | none=>EN r L H K)
    | _=>EN r L H K)) (Dq cells) S
   rw[h1]
   split
   ·rename_i e sz n' cells' hkk'
    split
    ·rename_i l hl
     simp only[CU,EZ]
     exact Fz r (Sat.giveUp (Sat.conv S' hkk' (R':=.row e (.sl (.sl .u8)) l) (XJ hl)) (by rw[DK,if_pos rfl]))
    ·exact Fz r S'
   ·exact Fz r S'
  ·exact Fz r S
theorem XK{I:World->Prop}{n:Nat}{g:Gx}{m:Nat}{a:Act}{w:World}{ν:Nat->Value}{need:Option (List Nat)}{n0:Nat}{L:LX}{H:HX}{K:LX->HX->R}(S:En I n g m L H a w ν):∃ L' H',OJ need n0 L H K=K L' H'/\En I n g m L' H' a w ν:=by
 unfold OJ
 split
 ·grind
 ·rw[CO];exact Fz _ S
theorem Jr:∀(ks:List Nat) {L:LX} {H:HX} {R':Type} {K:LX->HX->R} {K':LX->HX->R'} {Z:R->R'->Prop},(∀ L H,Z (K L H) (K' L H))->Z (Gg ks L H K) (Gg ks L H K')
 | [],L,H,R',K,K',Z,h=>h L H
 | k::r,L,H,R',K,K',Z,h=>by
  unfold Gg
  split
  ·simp only[CU,EZ];exact Jr r h
  ·exact Jr r h
theorem GK:∀(ks:List Nat) {L:LX} {H:HX} {R':Type} {K:LX->HX->R} {K':LX->HX->R'} {Z:R->R'->Prop},(∀ L H,Z (K L H) (K' L H))->Z (EN ks L H K) (EN ks L H K')
 | [],L,H,R',K,K',Z,h=>h L H
 | k::r,L,H,R',K,K',Z,h=>by
  unfold EN
  split
  ·simp only[CU,EZ];exact GK r h
  ·refine Jr _ fun L H=>?_
   split
   ·split
    ·simp only[CU,EZ];exact GK r h
    ·exact GK r h
   ·exact GK r h
  ·exact GK r h
theorem Yy{need:Option (List Nat)}{n0:Nat}{L:LX}{H:HX}{R':Type}{K:LX->HX->R}{K':LX->HX->R'}{Z:R->R'->Prop}(h:∀ L H,Z (K L H) (K' L H)):Z (OJ need n0 L H K) (OJ need n0 L H K'):=by
 unfold OJ
 split
 ·exact h L H
 ·simp only[CO];exact GK _ h
def N8:List (Nat×Nat×Ty)->Nat->LX->HX->(Nat->LX->HX->R)->R
 | [],m,L,H,K=>K m L H
 | (t,e,τ)::r,m,L,H,K=>bif Nat.ble 1000000 t then(match FZ ((t-1000000)/1000) L with
   | some (.pa k o)=>(match hlk k H with
    | some (.var cells)=>(match cells[o+(t-1000000)%1000]? with
     | some .nil=>addN 1 m fun m'=>N8 r m' L ((k,some (.var (cells.set (o+(t-1000000)%1000) (.nm m))))::(m,some (.row e τ []))::H) K
     | _=>N8 r m L H K)
    | _=>N8 r m L H K)
   | _=>N8 r m L H K)
  else(match FZ t L with
  | some .nil=>addN 1 m fun m'=>N8 r m' ((t,.nm m)::L) ((m,some (.row e τ []))::H) K
  | _=>N8 r m L H K)
theorem Sat.nilName{I:World->Prop}{n:Nat}{g:Gx}{m:Nat}{L:LX}{H:HX}{a:Act}{w:World}{ν:Nat->Value}(S:En I n g m L H a w ν)(e:Nat)(τ:Ty):
  En I n g (m+1) L ((m,some (.row e τ []))::H) a w (fun q=>if q=m then .slice none 0 0 else ν q)/\Rep ⟨(· < m+1),(fun q=>if q=m then Value.slice none 0 0 else ν q),D9 g.Oa (fun k=>hlk k ((m,some (.row e τ []))::H)) (fun q=>if q=m then .slice none 0 0 else ν q),w⟩ (.nm m) (.slice none 0 0):=by
 have hO:∀ b,D9 g.Oa (fun k=>hlk k H) ν b->b<w.heap.size:=by
  rintro b (h|⟨k,R,h1,h2⟩)
  ·exact Nat.lt_of_lt_of_le (S.amb b h).1 S.stp.size
  ·exact((S.res k R h1).2.2 b h2).1
 have ok:Ok ⟨(· < m),ν,D9 g.Oa (fun k=>hlk k H) ν,w⟩ [] [(m,.row e τ [])] (.nm m) (.slice none 0 0) w (fun q=>if q=m then .slice none 0 0 else ν q) :=
  Ok.newM (sz:=τ.n) (n:=0) (e:=e) (cells:=[]) (vs:=[]) (Nat.lt_irrefl m) hO (Stp.refl _ _) (World.ownsG_nil w 0 e τ.n) (fun b h=>by cases h) (by simp only[AA]) (fun u hu=>by cases hu) (fun c' hh=>hh)
 have hh:∀ k,has k [(m,Rs.row e τ [])]↔k=m:=fun k=>by
  unfold has
  rw[Az]
  by_cases h:k=m
  ·simp[h]
  ·simp[h]
 exact Sat.step S (N':=(· < m+1)) (hk':=fun k=>hlk k ((m,some (.row e τ []))::H)) (fun k R h=>by cases h) ok (fun k=>by rw[hh];omega) (fun k=>by
  unfold upd
  rw[DK,Az]
  by_cases h:k=m
  ·simp[h]
  ·simp[h])
theorem Sat.nilRow{I:World->Prop}{n:Nat}{g:Gx}{m:Nat}{L:LX}{H:HX}{a:Act}{w:World}{ν:Nat->Value}(S:En I n g m L H a w ν){t e:Nat}{τ:Ty}(ht:FZ t L=some .nil):
  En I n g (m+1) ((t,.nm m)::L) ((m,some (.row e τ []))::H) a w (fun q=>if q=m then .slice none 0 0 else ν q):=by
 have hv:=S.slots t _ ht
 simp only[Rep] at hv
 obtain⟨S1,hr⟩:=Sat.nilName S e τ
 refine⟨S1.size,S1.defers,S1.stp,S1.amb,S1.inv,S1.pin,fun d s hs=>?_,S1.res,S1.dist⟩
 rw[Dl] at hs
 split at hs
 ·rename_i he
  obtain rfl:=Option.some.inj hs
  subst he
  rw[hv];exact hr
 ·exact S1.slots d s hs
theorem AA.setv{c:Cx}:∀ {l:List AV} {us:List Value} {i:Nat} {s:AV},AA c l us->(∀ u,us[i]?=some u->Rep c s u)->AA c (l.set i s) us
 | [],us,i,s,h,hs=>zA
 | a::r,us,i,s,h,hs=>by
  simp only[AA] at h
  obtain⟨u,t,rfl,h1,h2⟩:=h
  cases i with
  | zero=>simp only[List.set_cons_zero,AA];exact⟨u,t,rfl,hs u rfl,h2⟩
  | succ i=>simp only[List.set_cons_succ,AA];exact⟨u,t,rfl,h1,AA.setv h2 fun v hv=>hs v (by simpa using hv)⟩
theorem Sat.vcell{I:World->Prop}{n:Nat}{g:Gx}{m:Nat}{L:LX}{H:HX}{a:Act}{w:World}{ν:Nat->Value}(S:En I n g m L H a w ν){k i p:Nat}{cells:List AV}(hk:hlk k H=some (.var cells))(hi:cells[i]?=some .nil)(hp:Rep ⟨(· < m),ν,D9 g.Oa (fun k=>hlk k H) ν,w⟩ (.nm p) (.slice none 0 0)):
  En I n g m L ((k,some (.var (cells.set i (.nm p))))::H) a w ν:=by
 have hown:D9 g.Oa (fun q=>hlk q ((k,some (.var (cells.set i (.nm p))))::H)) ν=D9 g.Oa (fun q=>hlk q H) ν:=by
  funext b
  refine propext ⟨?_,?_⟩
  ·rintro(h|⟨q,R,h1,h2⟩)
   ·exact .inl h
   ·simp only[DK] at h1
    by_cases e:q=k
    ·subst e;exact .inr ⟨q,_,hk,h2⟩
    ·rw[if_neg e] at h1;exact .inr ⟨q,R,h1,h2⟩
  ·rintro(h|⟨q,R,h1,h2⟩)
   ·exact .inl h
   ·by_cases e:q=k
    ·subst e;exact .inr ⟨q,.var (cells.set i (.nm p)),by simp only[DK,if_pos],h2⟩
    ·exact .inr ⟨q,R,by simp only[DK,if_neg e];exact h1,h2⟩
 refine⟨S.size,S.defers,S.stp,S.amb,?_,S.pin,?_,?_,?_⟩
 ·rw[hown];exact S.inv
 ·rw[hown];exact S.slots
 ·rw[hown]
  intro q R hq
  simp only[DK] at hq
  by_cases e:q=k
  ·subst e
   rw[if_pos rfl] at hq
   obtain rfl:=Option.some.inj hq
   obtain⟨h1,⟨b,us,h2,h3,h4,h5⟩,h6⟩:=S.res q _ hk
   refine⟨h1,⟨b,us,h2,h3,AA.setv h4 fun u hu=>?_,h5⟩,h6⟩
   obtain⟨u',hu',hr⟩:=h4.get hi
   simp only[Rep] at hr
   rw[hu'] at hu
   obtain rfl:=Option.some.inj hu
   rw[hr];exact hp
  ·rw[if_neg e] at hq;exact S.res q R hq
 ·intro q q' R R' b h1 h2
  have get:∀ {q R},hlk q ((k,some (.var (cells.set i (.nm p))))::H)=some R->∃ R0,hlk q H=some R0:=by
   intro q R h
   simp only[DK] at h
   by_cases e:q=k
   ·subst e;exact⟨_,hk⟩
   ·rw[if_neg e] at h;exact⟨R,h⟩
  obtain⟨R0,g0⟩:=get h1
  obtain⟨R1,g1⟩:=get h2
  exact S.dist q q' R0 R1 b g0 g1
theorem Ia{I:World->Prop}{n:Nat}{g:Gx}{a:Act}{w:World}:∀(l:List (Nat×Nat×Ty)) {m:Nat} {ν:Nat->Value} {L:LX} {H:HX} {K:Nat->LX->HX->R},En I n g m L H a w ν->∃ m' L' H' ν',N8 l m L H K=K m' L' H'/\En I n g m' L' H' a w ν'
 | [],m,ν,L,H,K,S=>⟨m,L,H,ν,rfl,S⟩
 | (t,e,τ)::r,m,ν,L,H,K,S=>by
  unfold N8
  cases Nat.ble 1000000 t with
  | true =>
   rw[cond_true]
   split
   ·rename_i k o hl
    split
    ·rename_i cells hk
     split
     ·rename_i hi
      rw[Bq,Nat.add_comm 1 m]
      obtain⟨S1,hr⟩:=Sat.nilName S e τ
      have hkm:k<m:=(S.res k _ hk).1
      have hk':hlk k ((m,some (.row e τ []))::H)=some (.var cells):=by rw[DK,if_neg zf];exact hk
      exact Ia r (Sat.vcell S1 hk' hi hr)
     ·exact Ia r S
    ·exact Ia r S
   ·exact Ia r S
  | false =>
   rw[cond_false]
   split
   ·rename_i h
    rw[Bq,Nat.add_comm 1 m]
    exact Ia r (Sat.nilRow S h)
   ·exact Ia r S
theorem Js:∀(l:List (Nat×Nat×Ty)) {m:Nat} {L:LX} {H:HX} {R':Type} {K:Nat->LX->HX->R} {K':Nat->LX->HX->R'} {Z:R->R'->Prop},(∀ m L H,Z (K m L H) (K' m L H))->Z (N8 l m L H K) (N8 l m L H K')
 | [],m,L,H,R',K,K',Z,h=>h m L H
 | (t,e,τ)::r,m,L,H,R',K,K',Z,h=>by
  unfold N8
  cases Nat.ble 1000000 t with
  | true =>
   rw[cond_true,cond_true]
   split
   ·split
    ·split
     ·simp only[Bq];exact Js r h
     ·exact Js r h
    ·exact Js r h
   ·exact Js r h
  | false =>
   rw[cond_false,cond_false]
   split
   ·simp only[Bq];exact Js r h
   ·exact Js r h
def Hw(E:Plc)(n0 m:Nat)(L:LX)(H:HX)(K:Nat->LX->HX->Option R):Option R:=N8 E.nils m L H fun m L H=>OJ E.need n0 L H fun L H=>match E.keep with
 | some keep=>canon keep n0 L H K
 | none=>K m L H
theorem JU{E:Plc}{n0 m:Nat}{L:LX}{H:HX}{K:Nat->LX->HX->Option R}{r:R}{I:World->Prop}{n:Nat}{g:Gx}{a:Act}{w:World}{ν:Nat->Value}(hg:g.n0=n0)(S:En I n g m L H a w ν)(h:Hw E n0 m L H K=some r):
  ∃ m' L' H' ν',K m' L' H'=some r/\En I n g m' L' H' a w ν':=by
 unfold Hw at h
 obtain⟨m1,L1,H1,ν1,h1,S1⟩:=Ia E.nils (K:=fun m L H=>OJ E.need n0 L H fun L H=>match E.keep with|some keep=>canon keep n0 L H K|none=>K m L H) S
 rw[h1] at h
 obtain⟨L2,H2,h2,S2⟩:=XK (need:=E.need) (n0:=n0) (K:=fun L H=>match E.keep with|some keep=>canon keep n0 L H K|none=>K m1 L H) S1
 rw[h2] at h
 revert h
 cases E.keep with
 | none=>grind
 | some keep =>
  intro h
  obtain⟨m',L',H',ρ,h3,h4⟩:=XI h
  exact⟨_,_,_,_,h3,h4 hg S2⟩
def MQ(G:FT)(f id:Nat):Plc:=match Me f G with
 | some fi=>(match fi.give with
  | []=>{}
  | l=>(match l.find? fun p=>Nat.beq p.1 id with|some p=>p.2|none=>{}))
 | none=>{}
theorem QN(a j:Nat):Nat.blt (a+j) a=false:=by
 simp_all[Bool.eq_false_iff]
def Bl:Code->Nat
 | .seq a b|.cond _ a b=>Bl a+Bl b
 | .block _ c=>Bl c
 | .loop c=>Bl c+1
 | _=>0
def DD:Code->Nat->Option Code
 | .seq a b,k|.cond _ a b,k=>bif Nat.blt k (Bl a) then DD a k else DD b (k-Bl a)
 | .block _ c,k=>DD c k
 | .loop c,k=>bif Nat.beq k 0 then some c else DD c (k-1)
 | _,_=>none
def Ih(T:TT)(G:FT)(Q:Req->Option Rsp)(n f n0:Nat)(keep:List (Plc×Plc)):Code->Nat->Nat->LX->HX->(Exit->Nat->LX->HX->Option Rsp)->Option Rsp
 | .skip,k,m,L,H,K|.label _,k,m,L,H,K=>K .normal m L H
 | .seq a b,k,m,L,H,K=>Ih T G Q n f n0 keep a k m L H fun e m L H=>match e with
  | .normal=>Ih T G Q n f n0 keep b (k+Bl a) m L H K
  | e=>K e m L H
 | .cond c a b,k,m,L,H,K=>(match Dc L c with
  | some (.b t)=>bif t then Ih T G Q n f n0 keep a k m L H K else Ih T G Q n f n0 keep b (k+Bl a) m L H K
  | _=>none)
 | .block id c,k,m,L,H,K=>Ih T G Q n f n0 keep c k m L H fun e m L H=>match e with
  | .exit id'=>bif Nat.beq id' id then K .normal m L H else K (.exit id') m L H
  | e=>K e m L H
 | .exit id,k,m,L,H,K=>K (.exit id) m L H
 | .ret,k,m,L,H,K=>K .ret m L H
 | .region id ops false,k,m,L,H,K=>Hw (MQ G f id) n0 m L H fun m L H=>FV T G Q n ops.toList ops.toList m L H fun m L H=>K .normal m L H
 | .region id ops true,k,m,L,H,K=>Hw (MQ G f id) n0 m L H fun m L H=>Ej T G Q ops.toList ops.toList [] m L H fun tr m L H=>bif A8 n ops.toList.toArray tr then K .normal m L H else none
 | .loop c,k,m,L,H,K=>addN 0 k fun k=>(match keep[k]? with
  | some kp=>Hw kp.1 n0 m L H fun m L H=>(Q (.loop f k n0 m L H)).bind fun r=>match r with
   | .fin e m L H=>K e m L H
   | _=>none
  | none=>none)
 | _,_,_,_,_,_=>none
def Jc(P:Program)(c:Code)(Q:Exit->Act->World->Prop)(a:Act)(w:World):Prop:=∀ b k cs,∃ e a' w',Q e a' w'/\Arrives P (lone (b.at a (.code c::.inLoop c::k)) cs w) b k cs e a' w'
theorem Jc.wp{P:Program}{c:Code}{Q:Exit->Act->World->Prop}{a:Act}{w:World}(h:Jc P c Q a w):(Code.loop c).wp P Q a w:=by
 intro b k cs
 obtain⟨e,a',w',hq,harr⟩:=h b k cs
 exact⟨e,a',w',hq,.of_steps (.one step_loop) harr⟩
theorem Jc.mono{P:Program}{c:Code}{Q Q':Exit->Act->World->Prop}{a:Act}{w:World}(h:Jc P c Q a w)(hq:∀ e a w,Q e a w->Q' e a w):Jc P c Q' a w:=by
 intro b k cs
 obtain⟨e,a',w',h1,harr⟩:=h b k cs
 grind
theorem Jc.unroll{P:Program}{c:Code}{Q:Exit->Act->World->Prop}{a:Act}{w:World}(h:c.wp P (Exit.then (fun a w=>Jc P c Q a w) Q) a w):Jc P c Q a w:=by
 intro b k cs
 obtain⟨e,a₁,w₁,hq,harr⟩:=h b (.inLoop c::k) cs
 cases e with
 | normal =>
  obtain⟨e₂,a₂,w₂,hq₂,harr₂⟩:=hq b k cs
  exact⟨e₂,a₂,w₂,hq₂,.of_steps (Steps.trans harr (.one step_inLoop)) harr₂⟩
 | exit id|goto l|ret|panic ch|outgrown=>exact⟨_,a₁,w₁,hq,.pass (x:=.inLoop c) rfl (fun _ _=>.inl zB) harr⟩
def eu(P:Program)(I:World->Prop)(n:Nat)(c:Code)(n0 m:Nat)(L:LX)(H:HX)(e:Exit)(m':Nat)(L':LX)(H':HX):Prop :=
 ∀ g:Gx,g.n0=n0->∀ a w ν,En I n g m L H a w ν->Jc P c (Qh I n g fun e1 m1 L1 H1=>e1=e/\m1=m'/\L1=L'/\H1=H') a w
section
variable {P:Program}{I:World->Prop}{n f n0:Nat}{g:Gx}{T:TT}{G:FT}{Q:Req->Option Rsp}{r:Rsp}{keep:List (Plc×Plc)}{tab:Nat->Option Code}
theorem XL(hT:TTok P I T)(hG:QE P G)(hQ:dY P I Q)(hx:P.follows .mixedOrders=true)(hg:g.n0=n0)(hL:∀ k c m L H e m' L' H',tab k=some c->Q (.loop f k n0 m L H)=some (.fin e m' L' H')->eu P I n c n0 m L H e m' L' H'):
  ∀(c:Code) (k m:Nat) (L:LX) (H:HX) (K:Exit->Nat->LX->HX->Option Rsp) (Φ:PostX),(∀ j c',DD c j=some c'->j<Bl c->tab (k+j)=some c')->Ih T G Q n f n0 keep c k m L H K=some r->(∀ e m L H,K e m L H=some r->Φ e m L H)->Wc P I n g c Φ m L H:=by
 intro c
 induction c with
 | skip=>intro k m L H K Φ hk h hK;exact YX (hK _ _ _ _ h)
 | label l=>intro k m L H K Φ hk h hK;exact Vx (hK _ _ _ _ h)
 | exit id=>intro k m L H K Φ hk h hK;exact YY (hK _ _ _ _ h)
 | ret=>intro k m L H K Φ hk h hK;exact aX (hK _ _ _ _ h)
 | seq a b iha ihb =>
  intro k m L H K Φ hk h hK
  rw[Ih] at h
  refine aW (fun e m L H=>(match e with|.normal=>Ih T G Q n f n0 keep b (k+Bl a) m L H K|e=>K e m L H)=some r) (iha k m L H _ _ (fun j c' hj hlt=>hk j c' ?_ ?_) h fun e m L H h=>h) (fun m L H h=>ihb _ _ _ _ _ _ (fun j c' hj hlt=>?_) h hK) (fun e m L H he h=>hK e m L H ?_)
  ·simp only[DD];rw[show Nat.blt j (Bl a)=true from by simpa using hlt];exact hj
  ·grind[Bl]
  ·simp_all[Nat.add_assoc,Bl,DD,QN]
  simp_all
 | cond x a b iha ihb =>
  intro k m L H K Φ hk h hK
  rw[Ih] at h
  split at h
  ·rename_i t ht
   refine YZ ht ?_
   cases t with
   | true =>
    refine iha k m L H _ _ (fun j c' hj hlt=>hk j c' ?_ ?_) h hK
    ·simp only[DD];rw[show Nat.blt j (Bl a)=true from by simpa using hlt];exact hj
    grind[Bl]
   | false =>
    refine ihb _ m L H _ _ (fun j c' hj hlt=>?_) h hK
    simp_all[Nat.add_assoc,Bl,DD,QN]
  ·cases h
 | block id c ih =>
  intro k m L H K Φ hk h hK
  rw[Ih] at h
  refine Vz (fun e m L H=>(match e with|.exit id'=>bif Nat.beq id' id then K .normal m L H else K (.exit id') m L H|e=>K e m L H)=some r) (ih k m L H _ _ (fun j c' hj hlt=>hk j c' hj hlt) h fun e m L H h=>h) (fun m L H h=>hK _ _ _ _ ?_) (fun e m L H he h=>hK e m L H ?_)
  ·simp_all
  ·cases e with
   | exit id' =>
    have:Nat.beq id' id=false:=by simp_all[Bool.eq_false_iff]
    simp_all
   | _=>exact h
 | region id ops b =>
  intro k m L H K Φ hk h hK
  obtain⟨l⟩:=ops
  cases b with
  | false =>
   rw[Ih] at h
   intro a w ν S
   obtain⟨m',L',H',ν',h2,S'⟩:=JU hg S h
   exact Ui (XD hT hG hQ (fun m L H h=>hK _ _ _ _ h) l m' L' H' h2) a w ν' S'
  | true =>
   rw[Ih] at h
   intro a w ν S
   obtain⟨m',L',H',ν',h,S'⟩:=JU hg S h
   refine Yv (n:=n) hx (XG (fin:=fun tr m L H=>drawChk0 n l.toArray tr=true/\Φ .normal m L H) hT hG hQ (fun tr m L H h=>?_) l [] m' L' H' (fun k R hk=>(S'.res k R hk).1) h) a w ν' S'
   grind[PO]
 | loop c ih =>
  intro k m L H K Φ hk h hK
  rw[Ih,Bq,Nat.zero_add] at h
  split at h
  ·rename_i kp hkp
   intro a w ν S
   obtain⟨m',L',H',ν',h1,S'⟩:=JU hg S h
   obtain⟨rr,h3,h4⟩:=Option.bind_eq_some_iff.1 h1
   split at h4
   ·rename_i e m2 L2 H2
    have hs:=hL k c m' L' H' e m2 L2 H2 (by have:=hk 0 c (by simp[DD]) (by simp[Bl]);omega) h3 g hg
    exact wp_mono (hs a w _ S').wp fun e' a' w' ⟨m3,L3,H3,ν3,q,S3⟩=>by
     obtain⟨rfl,rfl,rfl,rfl⟩:=q
     exact⟨_,_,_,ν3,hK _ _ _ _ h4,S3⟩
   ·cases h4
  ·cases h
 | _=>simp_all[Ih]
end
end
end Go.Ax
namespace Go.Ax
variable {fn:Func}
noncomputable section
open Go Go.RowKit Go.Eng
set_option linter.unusedVariables false
set_option linter.unusedSimpArgs false
def argX(k:Nat):List AV->LX
 | []=>[]
 | v::r=>(k,v)::argX (k+1) r
theorem Yz(vs:List AV):∀(k t:Nat) (s:AV),FZ t (argX k vs)=some s->k<=t/\vs[t-k]?=some s:=by
 induction vs with
 | nil=>intro k t s h;cases h
 | cons v r ih =>
  intro k t s h
  rw[argX,Dl] at h
  by_cases e:t=k
  ·simp_all
  grind
def bP(k:Nat):List Rs->HX
 | []=>[]
 | r::l=>(k,some r)::bP (k+1) l
theorem NL:∀(l:List Rs) (i k:Nat),hlk k (bP i l)=Cj k (Gn i l)
 | [],i,k=>rfl
 | R::l,i,k=>by rw[bP,Gn,DK,Az,NL l]
def rv(tmps:Array Value)(r:ResultVar):Sem Value:=match r with|.tmp t=>pure (tmps.getD t undef)|.cell x t=>do loadVar t (<-asAddr (tmps.getD x undef))
theorem Sj(fn:Func)(tmps:Array Value):results fn tmps=(do let vs<-fn.results.mapM (rv tmps);pure (if h:vs.size=1 then vs[0] else .tuple vs)):=rfl
def RN(T:TT)(L:LX)(H:HX):List ResultVar->Option (List AV)
 | []=>some []
 | .tmp t::r=>(match FZ t L,RN T L H r with|some s,some l=>some (s::l)|_,_=>none)
 | .cell t ty::r=>(match FZ t L,Ha ty T,RN T L H r with
  | some (.pa k o),some i,some l=>(match hlk k H with
   | some (.var cells)=>(match Eg (scalar i.u) i.size (cells.drop o) with|some s=>some (s::l)|none=>none)
   | _=>none)
  | _,_,_=>none)
def Z4(l:List AV):AV:=match l with|[s]=>s|l=>.tup l
def Z5(us:List Value):Value:=match us with|[u]=>u|us=>.tuple us.toArray
variable {R:Type}
def JV:List (Option Rs)->(List (Option Rs)->R)->R
 | [],K=>K []
 | some s::r,K=>LD s fun s=>JV r fun r=>K (some s::r)
 | none::r,K=>JV r fun r=>K (none::r)
theorem Jt:∀(l:List (Option Rs)) (K:List (Option Rs)->R),JV l K=K l
 | [],K=>rfl
 | some s::r,K=>by simp only[JV,JE,Jt]
 | none::r,K=>by simp only[JV,Jt]
def hrw(n0:Nat)(hk:Nat->Option Rs)(k:Nat):Option Rs:=bif Nat.blt k n0 then none else hk k
def hvw(n0:Nat)(hk:Nat->Option Rs)(k:Nat):Option Rs:=match hk k with
 | some (.var l)=>some (.var (Ql (hrw n0 hk) l))
 | some (.rowA e s n l)=>some (.rowA e s n (Ql (hrw n0 hk) l))
 | R=>R
def OL(hk:Nat->Option Rs):List Nat->List Nat
 | []=>[]
 | k::r=>(match hk k with|some R=>Ht R|none=>[])++OL hk r
def XM(T:TT)(fi:FI)(n0:Nat)(rs:List ResultVar)(L:LX)(H:HX):Option Rsp:=match RN T L H rs with
 | some l=>FX (MJ fi.rs (bif fi.own then l else Ql (hrw n0 fun k=>hlk k H) l)) fun l'=>FN (close (bif fi.own then(fun k=>hlk k H) else hvw n0 fun k=>hlk k H) 60 [] (upto n0++Dq l')) fun ks =>
   JV (ks.map fun k=>((bif fi.own then(fun k=>hlk k H) else hvw n0 fun k=>hlk k H) k).map (Ee fun k=>idx k ks)) fun Hout =>
    bif nodupB ks&&preB n0 0 ks&&allIn ks (Dq l')&&Jp (bif fi.own then(fun k=>hlk k H) else hvw n0 fun k=>hlk k H) ks ks&&Iu n0 Hout&&bI ks (bif fi.own then [] else rowsOf (hrw n0 fun k=>hlk k H) (YQ [] (Dq l++OL (fun k=>hlk k H) ks)))&&Nat.ble n0 ks.length then
     FX (Ed (fun k=>idx k ks) l') fun l=>force (Z4 l) fun s=>some (.ret s Hout)
    else none
 | none=>none
def bQ(T:TT)(fi:FI)(n0:Nat)(rs:List ResultVar)(m:Nat)(L:LX)(H:HX):Option Rsp:=Hw fi.fin n0 m L H fun _ L H=>XM T fi n0 rs L H
section
variable {P:Program}{I:World->Prop}{n:Nat}{g:Gx}{m:Nat}{L:LX}{H:HX}{a:Act}{w:World}{ν:Nat->Value}{T:TT}
theorem XN(hT:TTok P I T)(S:En I n g m L H a w ν):∀ {rs:List ResultVar} {l:List AV},RN T L H rs=some l->∃ us,(rs.mapM (rv a.tmps)).run P w=.ok us w/\AA ⟨(· < m),ν,D9 g.Oa (fun k=>hlk k H) ν,w⟩ l us
 | [],l,h=>by simp_all[RN,AA]
 | .tmp t::rs,l,h=>by
  simp only[RN] at h
  split at h
  ·rename_i s l' h1 h2
   obtain rfl:=Option.some.inj h
   obtain⟨us,h3,h4⟩:=XN hT S h2
   refine⟨a.tmps.getD t undef::us,?_,by simp only[AA];exact⟨_,us,rfl,S.slots _ _ h1,h4⟩⟩
   simp_all[rv]
  ·cases h
 | .cell t ty::rs,l,h=>by
  simp only[RN] at h
  split at h
  ·rename_i k o i l' h1 hi h2
   split at h
   ·rename_i cells hk
    split at h
    ·rename_i s hs
     obtain rfl:=Option.some.inj h
     obtain⟨us,h3,h4⟩:=XN hT S h2
     obtain⟨_,⟨b,vs,e1,e2,e3,e4⟩,_⟩:=S.res k _ hk
     have hp:=Wq (S.slots _ _ h1) e1
     obtain⟨v,hv,hr⟩:=Lh (w:=w) (hT _ _ hi) hs (e3.drop o) (fun u hu=>e4 u (List.mem_of_mem_drop hu)) (e2.cs o)
     refine⟨v::us,?_,by simp only[AA];grind⟩
     simp_all[rv,asAddr]
    ·cases h
   ·cases h
  ·cases h
theorem Sm(hT:TTok P I T)(S:En I n g m L H a w ν){rs:List ResultVar}(hrs:fn.results.toList=rs){l:List AV}(h:RN T L H rs=some l):
  ∃ us,(results fn a.tmps).run P w=.ok (Z5 us) w/\AA ⟨(· < m),ν,D9 g.Oa (fun k=>hlk k H) ν,w⟩ l us:=by
 obtain⟨us,h1,h2⟩:=XN hT S h
 refine⟨us,?_,h2⟩
 rw[Sj]
 have h3:(fn.results.mapM (rv a.tmps)).run P w=.ok us.toArray w:=by
  rw[show fn.results=rs.toArray from by rw[<-hrs]]
  simp_all
 simp only[Sem.run_bind,h3,Result.andThen_ok,Sem.run_pure]
 match us with
 | []|[u]=>rfl
 | u::v::r=>simp;rfl
theorem XO{c:Cx}:∀ {l:List AV} {us:List Value},AA c l us->Rep c (Z4 l) (Z5 us)
 | [s],us,h=>by obtain⟨u,rfl,hr⟩:=AA.un1 h;exact hr
 | [],us,h=>by
  have h':=h
  simp only[AA] at h
  subst h
  simp only[Z4,Z5,Rep];simp_all
 | s::s'::l,us,h=>by
  have h':=h
  simp only[AA] at h
  obtain⟨u,t,rfl,h1,u',t',rfl,h2,h3⟩:=h
  simp only[Z4,Z5,Rep];simp_all
theorem XP{hk:Nat->Option Rs}{ks:List Nat}{k:Nat}{R:Rs}(h:Cj k (EO id 0 (ks.map fun k=>(hk k).map (Ee fun k=>idx k ks)))=some R):∃ q R1,ks[k]?=some q/\hk q=some R1/\R=Ee (fun k=>idx k ks) R1:=by
 have:=OB h
 grind[Option.map_eq_some_iff]
theorem OM{hk:Nat->Option Rs}{k:Nat}{R:Rs}{q:Nat}(hR:hk k=some R)(hq:q∈Ht R):∀ {ks:List Nat},k∈ks->q∈OL hk ks
 | a::ks,h=>by
  simp only[OL]
  rcases List.mem_cons.1 h with rfl|h
  ·simp_all
  ·exact List.mem_append.2 (.inr (OM hR hq h))
theorem XQ{n0:Nat}{hk:Nat->Option Rs}{k:Nat}{R:Rs}(h:hrw n0 hk k=some R):hk k=some R:=by
 grind[hrw]
theorem XR{n0:Nat}{hk:Nat->Option Rs}{k:Nat}{R:Rs}(h:hvw n0 hk k=some R):∃ R0,hk k=some R0/\(R=R0\/(∃ l,R0=.var l/\R=.var (Ql (hrw n0 hk) l))\/∃ e s n l,R0=.rowA e s n l/\R=.rowA e s n (Ql (hrw n0 hk) l)):=by
 unfold hvw at h
 grind
theorem XT(hT:TTok P I T){fi:FI}{n0:Nat}{rs:List ResultVar}{r:Rsp}{w0:World}{O:Nat->Prop}{F:Fp}{ν0:Nat->Value}(hrs:fn.results.toList=rs)(hO:∀ b,CE ν0 F b->O b)(S:En I n ⟨w0,CE ν0 F,fun b=>O b/\¬CE ν0 F b,n0,ν0⟩ m L H a w ν)(h:XM T fi n0 rs L H=some r):
  ∃ s Hout v ν',r=.ret s Hout/\(results fn a.tmps).run P w=.ok v w/\Ok ⟨(· < n0),ν0,O,w0⟩ F (EO id 0 Hout) s v w ν':=by
 unfold XM at h
 split at h
 ·rename_i l hl
  obtain⟨us,hrun,hreps⟩:=Sm hT S hrs hl
  rw[EY,CO,Jt] at h
  generalize hl':MJ fi.rs (bif fi.own then l else Ql (hrw n0 fun k=>hlk k H) l)=l' at h
  generalize hhv:(bif fi.own then(fun k=>hlk k H) else hvw n0 fun k=>hlk k H)=hv at h
  generalize hks:close hv 60 [] (upto n0++Dq l')=ks at h
  generalize hvs:(bif fi.own then [] else rowsOf (hrw n0 fun k=>hlk k H) (YQ [] (Dq l++OL (fun k=>hlk k H) ks)))=vs at h
  cases hc:(nodupB ks&&preB n0 0 ks&&allIn ks (Dq l')&&Jp hv ks ks&&Iu n0 (ks.map fun k=>(hv k).map (Ee fun k=>idx k ks))&&bI ks vs&&Nat.ble n0 ks.length) with
  | false=>simp_all
  | true =>
   rw[hc] at h
   simp only[cond_true,EY,force_eq,Option.some.injEq] at h
   simp only[Bool.and_eq_true,IZ,Gt] at hc
   obtain⟨⟨⟨⟨⟨⟨hnd,hpre⟩,hin⟩,hinH⟩,hnew⟩,hdj⟩,hn0⟩:=hc
   have hn0:n0<=ks.length:=by simpa using hn0
   have hdj:=QD hdj
   have hvH:∀ k R,Cj k vs=some R->hlk k H=some R:=by
    intro k R hk
    rw[<-hvs] at hk
    cases ho:fi.own with
    | true=>simp_all
    | false=>rw[ho] at hk;exact XQ (Hm hk).1
   have hresG:∀ k R,Cj k vs=some R->k<m/\Holds ⟨(· < m),ν,D9 (fun b=>O b/\¬CE ν0 F b) (fun k=>hlk k H) ν,w⟩ k R/\∀ b,blk (ν k)=some b->D9 (fun b=>O b/\¬CE ν0 F b) (fun k=>hlk k H) ν b:=fun k R hk=>by
    obtain⟨r0,r1,r2⟩:=S.res k R (hvH k R hk)
    exact⟨r0,r1,fun b hb=>.inr ⟨k,R,hvH k R hk,hb⟩⟩
   -- the values, without the rows that are read from now on
   have hr1:AA (Cx.less ⟨(· < m),ν,D9 (fun b=>O b/\¬CE ν0 F b) (fun k=>hlk k H) ν,w⟩ vs) l' us:=by
    grind[KR,AA.le,Cx.less_le,Bj,H7,H6,KQ]
   -- the things
   have hthing:∀ k R,k∈ks->hv k=some R->∃ R0,hlk k H=some R0/\Holds (Cx.less ⟨(· < m),ν,D9 (fun b=>O b/\¬CE ν0 F b) (fun k=>hlk k H) ν,w⟩ vs) k R:=by
    intro k R hkk hR
    rw[<-hhv] at hR
    have same:∀ R,hlk k H=some R->Holds (Cx.less ⟨(· < m),ν,D9 (fun b=>O b/\¬CE ν0 F b) (fun k=>hlk k H) ν,w⟩ vs) k R:=fun R hR=>by
     obtain⟨r0,r1,r2⟩:=S.res k R hR
     exact Holds.le (Cx.less_le _ _) (Bj _) rfl (fun b hb=>⟨(r2 b hb).1,rfl⟩) r1
    cases ho:fi.own with
    | true=>grind
    | false =>
     rw[ho] at hR
     have hvw:∀ R0,hlk k H=some R0->∀ q∈Ht R0,∀ e t l,hrw n0 (fun k=>hlk k H) q=some (.row e t l)->Cj q vs=some (.row e t l):=fun R0 h0 q hq e t l0 hh=>by
      grind[H6,KQ,OM]
     obtain⟨R0,h0,h1⟩:=XR (n0:=n0) (hk:=fun k=>hlk k H) hR
     refine⟨R0,h0,?_⟩
     rcases h1 with rfl|⟨l0,rfl,rfl⟩|⟨e,sz,n1,l0,rfl,rfl⟩
     ·grind
     ·obtain⟨_,⟨b,vs1,g1,g2,g3,g4⟩,_⟩:=S.res k _ h0
      exact⟨b,vs1,g1,g2,H7 hresG l0 vs1 (hvw _ h0) g3,g4⟩
     ·obtain⟨_,⟨vs1,g1,g2,g3⟩,_⟩:=S.res k _ h0
      exact⟨vs1,g1,H7 hresG l0 vs1 (hvw _ h0) g2,g3⟩
   obtain⟨hback,hlt⟩:=Fv l' hin
   have hHout:=fun {k R} h=>XP (hk:=hv) (ks:=ks) (k:=k) (R:=R) h
   have hOb:∀ b,((O b/\¬CE ν0 F b)\/CE (fun k=>ν (nth ks k)) (EO id 0 (ks.map fun k=>(hv k).map (Ee fun k=>idx k ks))) b)->D9 (fun b=>O b/\¬CE ν0 F b) (fun k=>hlk k H) ν b/\¬CE ν vs b:=by
    rintro b (hb|⟨k,R,hk,hb⟩)
    ·refine⟨.inl hb,?_⟩
     rintro⟨q,R1,hq,hqb⟩
     obtain⟨_,_,r2⟩:=S.res q R1 (hvH q R1 hq)
     have:=S.amb b hb
     grind
    ·obtain⟨q,R1,h1,h2,rfl⟩:=hHout hk
     have hb:blk (ν (nth ks k))=some b:=hb
     rw[Fg h1] at hb
     obtain⟨R0,h0,_⟩:=hthing q R1 (List.mem_of_getElem? h1) h2
     refine⟨.inr ⟨q,R0,h0,hb⟩,?_⟩
     rintro⟨q',R2,hq',hqb⟩
     refine S.dist q q' R0 R2 b h0 (hvH q' R2 hq') ?_ hb hqb
     rintro rfl
     grind[Bo]
   have hN:∀ k,k<ks.length->nth ks k<m->(k<n0\/has k (EO id 0 (ks.map fun k=>(hv k).map (Ee fun k=>idx k ks))))/\(fun k=>ν (nth ks k)) k=ν (nth ks k):=by
    intro k hk _
    refine⟨?_,rfl⟩
    grind[IG,RF]
   have hpin:∀ k,k<n0->nth ks k=k:=fun k hk=>by
    have:=OI hpre hk
    simp_all[Fg]
   refine⟨_,_,_,fun k=>ν (nth ks k),h.symm,hrun,fun k hk=>?_,?_,fun k R hk=>?_,fun k k' R R' b hk hk' hne hb=>?_,S.stp⟩
   ·show ν (nth ks k)=ν0 k
    rw[hpin k hk];exact(S.pin k hk).2
   ·refine XO ?_
    exact AA.ren (ρ:=nth ks) (N:=(· < m)) (ν:=ν) (m:=ks.length) hN (fun w'' hs=>hs.mono fun i _ hi=>hOb i hi) _ us hlt (by rw[hback];exact hr1)
   ·obtain⟨q,R1,h1,h2,rfl⟩:=hHout hk
    have hkl:k<ks.length:=(List.getElem?_eq_some_iff.1 h1).1
    obtain⟨R0,h0,hold⟩:=hthing q R1 (List.mem_of_getElem? h1) h2
    obtain⟨r0,r1,r2⟩:=S.res q R0 h0
    obtain⟨b1,b2⟩:=Lp (R:=R1) (Jq hinH (List.mem_of_getElem? h1) h2)
    refine⟨?_,fun b hb=>?_⟩
    ·refine Holds.ren (ρ:=nth ks) (N:=(· < m)) (ν:=ν) (O:=fun b=>D9 (fun b=>O b/\¬CE ν0 F b) (fun k=>hlk k H) ν b/\¬CE ν vs b) (m:=ks.length) hN (fun w'' hs=>hs.mono fun i _ hi=>hOb i hi) rfl b2 ?_
     rw[b1,Fg h1];exact hold
    simp_all[Fg]
   ·obtain⟨q,R1,h1,h2,rfl⟩:=hHout hk
    obtain⟨q',R2,h3,h4,rfl⟩:=hHout hk'
    have hb:blk (ν (nth ks k))=some b:=hb
    show blk (ν (nth ks k'))≠some b
    rw[Fg h1] at hb
    rw[Fg h3]
    obtain⟨R0,h0,_⟩:=hthing q R1 (List.mem_of_getElem? h1) h2
    obtain⟨R0',h0',_⟩:=hthing q' R2 (List.mem_of_getElem? h3) h4
    refine S.dist q q' R0 R0' b h0 h0' ?_ hb
    rintro rfl
    grind[List.getElem?_inj]
 ·cases h
theorem Z7{f:FuncId}{c:Code}{fi:FI}{ins:List AV}{Hin:List Rs}{s:AV}{Hout:List (Option Rs)}(hT:TTok P I T)(hf:P.funcs[f]?=some fn)(hb:fn.body=some c)(hlen:Nat.ble ins.length fn.ntmps=true)(h:∀ g:Gx,g.n0=Hin.length->Wc P I fn.ntmps g c (fun e m L H=>(e=.normal\/e=.ret)/\bQ T fi Hin.length fn.results.toList m L H=some (.ret s Hout)) Hin.length (argX 0 ins) (bP 0 Hin)):Og P I f ins Hin s Hout:=by
 intro ν O w args hG hin hP
 have hlen:ins.length<=fn.ntmps:=zk
 have hl:=hin.len
 refine calls_of_wp hf hb ?_
 have hsz:(args.toArray++Array.replicate (fn.ntmps-args.toArray.size) undef).size=fn.ntmps:=zx
 have hF:(fun k=>hlk k (bP 0 Hin))=fun k=>Cj k (Gn 0 Hin):=funext fun k=>NL Hin 0 k
 have hO:∀ b,CE ν (Gn 0 Hin) b->O b:=by rintro b ⟨k,R,hk,hb⟩;exact(hP.res k R hk).2.2 b hb
 have hown:D9 (fun b=>O b/\¬CE ν (Gn 0 Hin) b) (fun k=>Cj k (Gn 0 Hin)) ν=O:=by
  funext b
  refine propext ⟨fun hb=>hb.elim (·.1) fun⟨k,R,hk,h⟩=>hO b ⟨k,R,hk,h⟩,fun hb=>?_⟩
  rcases Classical.em (CE ν (Gn 0 Hin) b) with h|h
  ·exact .inr h
  ·exact .inl ⟨hb,h⟩
 refine wp_mono (h ⟨w,CE ν (Gn 0 Hin),fun b=>O b/\¬CE ν (Gn 0 Hin) b,Hin.length,ν⟩ rfl _ w ν ⟨hsz,rfl,Stp.refl _ _,fun b hb=>⟨hG.lt b hb.1,hb.2⟩,fun w' hs=>hG.inv w' zk,fun k hk=>⟨hk,rfl⟩,?_,?_,?_⟩) ?_
 ·intro t s hs
  rw[hF,hown]
  obtain⟨_,hv⟩:=Yz _ _ _ _ hs
  simp only[Nat.sub_zero] at hv
  obtain⟨u,hu,hr⟩:=hin.get hv
  have hlt:t<args.length:=(List.getElem?_eq_some_iff.1 hu).1
  simp_all[Array.getElem?_append_left]
 ·intro k R hk
  rw[hF,hown]
  rw[NL] at hk
  obtain⟨h1,h2,h3⟩:=hP.res k R hk
  exact⟨h1,h2,fun b hb=>⟨hG.lt b (h3 b hb),.inr ⟨k,R,hk,hb⟩⟩⟩
 ·intro k k' R R' b h1 h2
  rw[NL] at h1 h2
  exact hP.dist k k' R R' b h1 h2
 ·rintro e a w' ⟨m',L',H',ν',⟨he,q⟩,S'⟩
  obtain⟨m',L',H',ν',q,S'⟩:=JU rfl S' q
  obtain⟨s1,H1,v,ν2,e1,hrun,ok⟩:=XT hT rfl hO S' q
  simp only[Rsp.ret.injEq] at e1
  obtain⟨rfl,rfl⟩:=e1
  rcases he with rfl|rfl
  ·exact⟨S'.defers,v,hrun,ν2,ok⟩
  ·exact⟨S'.defers,v,hrun,ν2,ok⟩
end
end
end Go.Ax
namespace Go.Ax
open Go Go.RowKit Go.Eng
set_option linter.unusedVariables false
set_option linter.unusedSimpArgs false
variable {t:TypeId}{a x:Option AV}{lo:Int}{b:Option (AV×Fp)}
section
variable {R:Type}{r:R}{T:TT}{hk:Nat->Option Rs}{m:Nat}
def Le{α:Type}(K K':α->Option R)(r:R):Prop:=∀ x,K x=some r->K' x=some r
theorem EX{K K':AV->Option R}(hK:Le K K' r):Uj a K=some r->Uj a K'=some r:=by
 unfold Uj;intro h;split at h
 ·exact hK _ h
 ·cases h
theorem bind_mono{α:Type}{a:Option α}{K K':α->Option R}(hK:Le K K' r):a.bind K=some r->a.bind K'=some r:=by
 intro h
 obtain⟨x,h1,h2⟩:=Option.bind_eq_some_iff.1 h
 rw[h1];exact hK _ h2
theorem AX{c:Bool}{a a' b b':Option R}(h1:a=some r->a'=some r)(h2:b=some r->b'=some r):(bif c then a else b)=some r->(bif c then a' else b')=some r:=by
 grind
theorem KY{y:AV}{K K':Nat->Option R}(hK:Le K K' r):IR y K=some r->IR y K'=some r:=by
 unfold IR
 split
 ·exact AX id (hK _)
 all_goals first|exact hK _|exact id
theorem RP{op:BinOp}{a b:UInt8}{K K':AV->Option R}(hK:Le K K' r):LG op a b K=some r->LG op a b K'=some r:=by
 unfold LG;split
 ·exact AX id (hK _)
 ·exact id
theorem Sr{bt e2:Bool}{en:Nat}{bs:Bool}{op:BinOp}{x y:AV}{K K':AV->Option R}(hK:Le K K' r):P5 bt e2 en bs op x y K=some r->P5 bt e2 en bs op x y K'=some r:=by
 unfold P5
 split
 ·refine KY fun c=>?_
  split<;>first|exact hK _|exact id
 ·refine KY fun c=>?_
  split<;>first|exact hK _|exact id
 ·repeat' split
  all_goals first|exact hK _|exact id|exact AX id (hK _)|exact AX (hK _) id|exact AX (hK _) (AX (hK _) id)|exact AX (hK _) (AX (hK _) (RP hK))|exact AX (AX id (hK _)) id|skip
  all_goals refine AX ?_ id;split<;>first|exact hK _|exact id
theorem RQ{d:Und}{x:AV}{K K':AV->Option R}(hK:Le K K' r):Ir d x K=some r->Ir d x K'=some r:=by
 unfold Ir;split<;>first|exact hK _|exact id
theorem RU{K K':Tr->Option R}(hK:Le K K' r):LH T hk t x K=some r->LH T hk t x K'=some r:=by
 unfold LH
 repeat' split
 all_goals first|exact hK _|exact id|skip
 all_goals refine AX (bind_mono fun x=>?_) id
 all_goals split<;>first|exact hK _|exact id
theorem QO{y:Option (List AV)}{K K':Tr->Option R}(hK:Le K K' r):JF T hk t x y K=some r->JF T hk t x y K'=some r:=by
 unfold JF
 repeat' split
 all_goals first|exact hK _|exact id|skip
 all_goals repeat'(first|exact hK _|exact id|exact EX (fun x=>hK _)|exact bind_mono (fun x=>hK _)|refine AX ?_ ?_|refine bind_mono fun x=>?_|split)
theorem RV{f:Nat}{K K':Tr->Option R}(hK:Le K K' r):LJ T t x f K=some r->LJ T t x f K'=some r:=by
 unfold LJ
 repeat' split
 all_goals first|exact hK _|exact id|skip
 all_goals repeat'(first|exact hK _|exact id|exact EX (fun x=>hK _)|exact bind_mono (fun x=>hK _)|refine AX ?_ ?_|refine bind_mono fun x=>?_|split)
theorem RX{ev:Operand->Option AV}{n:Nat}{ps:List (Nat×Operand)}{K K':Tr->Option R}(hK:Le K K' r):LK T ev hk m t n ps K=some r->LK T ev hk m t n ps K'=some r:=by
 unfold LK
 repeat' split
 all_goals first|exact hK _|exact id|skip
 all_goals repeat'(first|exact hK _|exact id|exact EX (fun x=>hK _)|exact bind_mono (fun x=>hK _)|refine AX ?_ ?_|refine bind_mono fun x=>?_|split)
theorem VF{l c:Option AV}{K K':Tr->Option R}(hK:Le K K' r):Uk T m t l c K=some r->Uk T m t l c K'=some r:=by
 unfold Uk
 simp only[KG]
 repeat' split
 all_goals first|exact hK _|exact id|skip
 all_goals repeat'(first|exact hK _|exact id|exact EX (fun x=>hK _)|exact bind_mono (fun x=>hK _)|refine AX ?_ ?_|refine bind_mono fun x=>?_|split)
theorem Su{j:Option Int}{K K':Tr->Option R}(hK:Le K K' r):P6 T hk t x j K=some r->P6 T hk t x j K'=some r:=by
 unfold P6 bD bF
 repeat' split
 all_goals first|exact hK _|exact id|skip
 all_goals repeat'(first|exact hK _|exact id|exact EX (fun x=>hK _)|exact bind_mono (fun x=>hK _)|refine AX ?_ ?_|refine bind_mono fun x=>?_|split)
theorem VG{j:Option Int}{K K':Tr->Option R}(hK:Le K K' r):Ul T t x j K=some r->Ul T t x j K'=some r:=by
 unfold Ul
 repeat' split
 all_goals first|exact hK _|exact id|skip
 all_goals repeat'(first|exact hK _|exact id|exact EX (fun x=>hK _)|exact bind_mono (fun x=>hK _)|refine AX ?_ ?_|refine bind_mono fun x=>?_|split)
theorem Sv{x:AV}{F:Fp}{hi mx:Option (Option Int)}{K K':Tr->Option R}(hK:Le K K' r):P7 T t x F lo hi mx K=some r->P7 T t x F lo hi mx K'=some r:=by
 unfold P7
 repeat' split
 all_goals first|exact hK _|exact id|skip
 all_goals repeat'(first|exact hK _|exact id|exact EX (fun x=>hK _)|exact bind_mono (fun x=>hK _)|refine AX ?_ ?_|refine bind_mono fun x=>?_|split)
theorem Sz{K K':Tr->Option R}(hK:Le K K' r):P8 T t hk x K=some r->P8 T t hk x K'=some r:=by
 unfold P8
 repeat' split
 all_goals first|exact hK _|exact id|skip
 all_goals repeat'(first|exact hK _|exact id|exact EX (fun x=>hK _)|exact bind_mono (fun x=>hK _)|refine AX ?_ ?_|refine bind_mono fun x=>?_|split)
theorem TA{K K':Tr->Option R}(hK:Le K K' r):P9 T hk m t a b K=some r->P9 T hk m t a b K'=some r:=by
 unfold P9
 simp only[KG]
 repeat' split
 all_goals first|exact hK _|exact id|skip
 all_goals repeat'(first|exact hK _|exact id|exact EX (fun x=>hK _)|exact bind_mono (fun x=>hK _)|refine AX ?_ ?_|refine bind_mono fun x=>?_|split)
theorem RY{b:Option AV}{K K':Tr->Option R}(hK:Le K K' r):LU T hk m t a b K=some r->LU T hk m t a b K'=some r:=by
 unfold LU
 simp only[Bq]
 repeat' split
 all_goals first|exact hK _|exact id|skip
 all_goals repeat'(first|exact hK _|exact id|refine AX ?_ ?_|split)
theorem RZ{K K':Tr->Option R}(hK:Le K K' r):LM T t x K=some r->LM T t x K'=some r:=by
 unfold LM
 repeat' split
 all_goals first|exact hK _|exact id|skip
 all_goals repeat'(first|exact hK _|exact id|refine AX ?_ ?_|split)
theorem Rf{K K':Tr->Option R}(hK:Le K K' r):LP T hk t x K=some r->LP T hk t x K'=some r:=by
 unfold LP
 repeat' split
 all_goals first|exact hK _|exact id|skip
 all_goals repeat'(first|exact hK _|exact id|refine AX ?_ ?_|split)
theorem Rh{hi:Option (Option Int)}{K K':Tr->Option R}(hK:Le K K' r):LQ T hk t x lo hi K=some r->LQ T hk t x lo hi K'=some r:=by
 unfold LQ
 repeat' split
 all_goals first|exact hK _|exact id|skip
 all_goals repeat'(first|exact hK _|exact id|refine AX ?_ ?_|split)
theorem Ri{t':TypeId}{b:Option AV}{K K':Tr->Option R}(hK:Le K K' r):LV T hk m t t' a b K=some r->LV T hk m t t' a b K'=some r:=by
 unfold LV
 repeat' split
 all_goals first|exact hK _|exact id|skip
 all_goals repeat'(first|exact hK _|exact id|refine AX ?_ ?_|split)
theorem Rj{t':TypeId}{b:Option AV}{K K':Tr->Option R}(hK:Le K K' r):LW T hk m t t' a b K=some r->LW T hk m t t' a b K'=some r:=by
 unfold LW
 repeat' split
 all_goals first|exact hK _|exact id|skip
 all_goals repeat'(first|exact hK _|exact id|refine AX ?_ ?_|split)
theorem TB{K K':Tr->Option R}(hK:Le K K' r):PD T hk t a b K=some r->PD T hk t a b K'=some r:=by
 unfold PD
 repeat' split
 all_goals first|exact hK _|exact id|skip
 all_goals repeat'(first|exact hK _|exact id|exact EX (fun x=>hK _)|exact bind_mono (fun x=>hK _)|refine AX ?_ ?_|refine bind_mono fun x=>?_|split)
theorem Rk{K K':Tr->Option R}(hK:Le K K' r):LY T hk t a b K=some r->LY T hk t a b K'=some r:=by
 unfold LY
 repeat' split
 all_goals first|exact hK _|exact id|skip
 all_goals repeat'(first|exact hK _|exact id|refine AX ?_ ?_|split)
theorem TC{K K':Tr->Option R}(hK:Le K K' r):PE T hk t a K=some r->PE T hk t a K'=some r:=by
 unfold PE
 repeat' split
 all_goals first|exact hK _|exact id|skip
 all_goals repeat'(first|exact hK _|exact id|refine AX ?_ ?_|split)
theorem TD{K K':Tr->Option R}(hK:Le K K' r):PG T hk t a lo K=some r->PG T hk t a lo K'=some r:=by
 unfold PG
 repeat' split
 all_goals first|exact hK _|exact id|skip
 all_goals repeat'(first|exact hK _|exact id|refine AX ?_ ?_|split)
theorem VH{ev:Operand->Option AV}{op:Op}{K K':Tr->Option R}(hK:Le K K' r):Um T ev hk m op K=some r->Um T ev hk m op K'=some r:=by
 unfold Um
 split
 all_goals first|exact RU hK|exact QO hK|exact RV hK|exact RX hK|exact VF hK|exact Su hK|exact VG hK|exact EX (fun x=>hK _)|skip
 all_goals repeat'(first|exact hK _|exact id|exact EX (fun x=>hK _)|exact Sz hK|exact RZ hK|exact Rf hK|exact TA hK|exact RY hK|exact Ri hK|exact Rj hK|exact Rh hK|exact TD hK|exact TC hK|exact Rk hK|exact TB hK|exact Sv hK|exact Sr (fun x=>hK _)|exact RQ (fun x=>hK _)|refine AX ?_ ?_|split)
end
end Go.Ax
namespace Go.Ax
noncomputable section
open Go Go.RowKit Go.Eng
set_option linter.unusedVariables false
set_option linter.unusedSimpArgs false
abbrev Orc:=Req->Option Rsp
def PP(Q Q':Orc):Prop:=∀ q r,Q q=some r->Q' q=some r
section
variable {R:Type}{r:R}{T:TT}{G:FT}{hk:Nat->Option Rs}{m:Nat}{Q Q':Orc}
theorem KZ(hQ:PP Q Q'){ro:Bool}{f:Nat}{vs:Fp}{al:List AV}{ks:List Nat}{K K':Tr->Option R}(hK:Le K K' r):KH ro Q hk m f vs al ks K=some r->KH ro Q' hk m f vs al ks K'=some r:=by
 unfold KH
 split
 ·refine AX ?_ id
  simp only[EY,Jn]
  intro h
  obtain⟨x,h1,h2⟩:=Option.bind_eq_some_iff.1 h
  rw[hQ _ _ h1]
  simp only[Option.bind_some]
  revert h2
  split
  ·exact AX (AX (AX (hK _) id) (AX (hK _) (hK _))) id
  ·exact id
 ·exact id
theorem Rn(hQ:PP Q Q'){fx:Option AV}{args:Option (List AV)}{K K':Tr->Option R}(hK:Le K K' r):La G Q hk m fx args K=some r->La G Q' hk m fx args K'=some r:=by
 unfold La
 split
 ·split
  ·simp only[EY,KI,CO]
   exact AX (KZ hQ hK) (KZ hQ hK)
  ·exact id
 ·exact id
theorem C9(hQ:PP Q Q'){ev:Operand->Option AV}{op:Op}{K K':Tr->Option R}(hK:Le K K' r):Eh T G Q ev hk m op K=some r->Eh T G Q' ev hk m op K'=some r:=by
 unfold Eh
 grind[Rn,VH]
theorem CB{d:Option Nat}{t:Tr}{L:LX}{H:HX}{K K':Nat->LX->HX->Option R}(hK:∀ m L H,K m L H=some r->K' m L H=some r):FD d t m L H K=some r->FD d t m L H K'=some r:=by
 simp_all[KU]
theorem TE(hQ:PP Q Q'){n:Nat}{ops:List Oper}{r:Rsp}:∀(l:List Oper) {m:Nat} {L:LX} {H:HX} {K K':Nat->LX->HX->Option Rsp},(∀ m L H,K m L H=some r->K' m L H=some r)->FV T G Q n ops l m L H K=some r->FV T G Q' n ops l m L H K'=some r:=by
 intro l
 induction l with
 | nil=>intro m L H K K' hK;exact hK _ _ _
 | cons o l ih =>
  intro m L H K K' hK
  rw[FV,FV]
  split
  ·exact AX (C9 hQ fun t=>CB fun m L H=>ih hK) id
  ·split
   ·split
    ·refine AX (AX (AX (C9 hQ fun t=>CB fun m L H=>ih hK) (ih hK)) (AX (ih hK) (C9 hQ fun t=>CB fun m L H=>ih hK))) id
    ·exact AX (ih hK) id
    ·exact id
   ·exact id
theorem TF(hQ:PP Q Q'){ops:List Oper}:∀(l:List Oper) {tr:List Tr} {m:Nat} {L:LX} {H:HX} {K K':List Tr->Nat->LX->HX->Option R},(∀ tr m L H,K tr m L H=some r->K' tr m L H=some r)->Ej T G Q ops l tr m L H K=some r->Ej T G Q' ops l tr m L H K'=some r:=by
 intro l
 induction l with
 | nil=>intro tr m L H K K' hK;exact hK _ _ _ _
 | cons o l ih =>
  intro tr m L H K K' hK
  rw[Ej,Ej]
  simp only[CO,CU]
  split
  ·exact C9 hQ fun t=>CB fun m L H=>ih hK
  ·split
   ·split
    ·refine AX (AX (C9 hQ fun t=>CB fun m L H=>ih hK) (ih hK)) (AX (ih hK) (C9 hQ fun t=>CB fun m L H=>ih hK))
    ·exact ih hK
    ·exact id
   ·exact id
theorem TG{keep:List Nat}{n0:Nat}{L:LX}{H:HX}{K K':Nat->LX->HX->Option R}(hK:∀ m L H,K m L H=some r->K' m L H=some r):canon keep n0 L H K=some r->canon keep n0 L H K'=some r:=by
 unfold canon
 simp only[CU,CO,EZ,Bq]
 grind
theorem E8{E:Plc}{n0 m:Nat}{L:LX}{H:HX}{K K':Nat->LX->HX->Option R}(hK:∀ m L H,K m L H=some r->K' m L H=some r):Hw E n0 m L H K=some r->Hw E n0 m L H K'=some r:=by
 unfold Hw
 refine Js (Z:=fun a b=>a=some r->b=some r) E.nils fun m L H=>Yy (Z:=fun a b=>a=some r->b=some r) fun L H=>?_
 grind[TG]
theorem II(hQ:PP Q Q'){n f n0:Nat}{keep:List (Plc×Plc)}{r:Rsp}:∀(c:Code) {k m:Nat} {L:LX} {H:HX} {K K':Exit->Nat->LX->HX->Option Rsp},(∀ e m L H,K e m L H=some r->K' e m L H=some r)->Ih T G Q n f n0 keep c k m L H K=some r->Ih T G Q' n f n0 keep c k m L H K'=some r:=by
 intro c
 induction c with
 | skip|label l|exit id|ret=>intro k m L H K K' hK;exact hK _ _ _ _
 | seq a b iha ihb =>
  grind[Ih]
 | cond x a b iha ihb =>
  intro k m L H K K' hK
  rw[Ih,Ih]
  grind
 | block id c ih =>
  intro k m L H K K' hK
  rw[Ih,Ih]
  grind
 | region id ops b =>
  intro k m L H K K' hK
  cases b with
  | false=>grind[Ih,E8,TE]
  | true=>rw[Ih,Ih];exact E8 fun m L H=>TF hQ _ fun tr m L H=>AX (hK _ _ _ _) _root_.id
 | loop c ih =>
  intro k m L H K K' hK
  rw[Ih,Ih,Bq,Bq,Nat.zero_add]
  split
  ·refine E8 fun m L H h=>?_
   obtain⟨x,h1,h2⟩:=Option.bind_eq_some_iff.1 h
   rw[hQ _ _ h1]
   grind
  ·exact id
 | _=>simp_all[Ih]
end
abbrev CT:=List (Nat×Func)
def Vh(k:Nat):CT->Option Func
 | []=>none
 | (d,v)::H=>bif Nat.beq k d then some v else Vh k H
structure Env where
 T:TT
 G:FT
 C:CT
 ov:Orc
 vw:List Nat:=[]   -- functions in which a part of a row stays a row
def Env.tt(E:Env)(f:Nat):TT:=bif IU f E.vw then E.T++E.T.take 1 else E.T
theorem UF:∀(A B:TT) (t:Nat) (i:TI),Ha t (A++B)=some i->Ha t A=some i\/Ha t B=some i
 | [],B,t,i,h=>.inr h
 | (d,v)::A,B,t,i,h=>by
  simp only[List.cons_append,Ha] at h ⊢
  cases hb:Nat.beq t d with
  | true=>rw[hb] at h;exact .inl h
  | false=>rw[hb] at h;exact UF A B t i h
theorem Z8:∀(A:TT) (t:Nat) (i:TI),Ha t (A.take 1)=some i->Ha t A=some i
 | [],t,i,h=>zt
 | (d,v)::A,t,i,h=>by
  simp only[List.take_succ_cons,List.take_zero,Ha] at h ⊢
  cases hb:Nat.beq t d with
  | true=>rw[hb] at h;exact h
  | false=>rw[hb] at h;cases h
theorem TTok.tt{P:Program}{I:World->Prop}{E:Env}(h:TTok P I E.T)(f:Nat):TTok P I (E.tt f):=by
 unfold Env.tt
 cases IU f E.vw with
 | false=>exact h
 | true =>
  have hl:∀ t i,Ha t (E.T++E.T.take 1)=some i->Ha t E.T=some i:=fun t i hi=>(UF _ _ t i hi).elim id (Z8 _ t i)
  exact⟨fun t i hi=>h.tok t i (hl t i hi),fun t i g l hi=>h.gl t i g l (hl t i hi),fun t i g us hi=>h.ga t i g us (hl t i hi)⟩
def J7(E:Env)(Q:Orc)(q:Req):Option Rsp:=match E.ov q with
 | some r=>some r
 | none=>match q with
  | .call f args H=>(match Vh f E.C,Me f E.G with
   | some fn,some fi=>(match fn.body with
    | some c=>bif Nat.ble args.length fn.ntmps then addN 0 H.length fun n0=>Ih (E.tt f) E.G Q fn.ntmps f n0 fi.keep c 0 n0 (argX 0 args) (bP 0 H) fun e m L H'=>(match e with
      | .normal|.ret=>bQ E.T fi n0 fn.results.toList m L H'
      | _=>none)
     else none
    | none=>none)
   | _,_=>none)
  | .loop f k n0 m L H=>(match Vh f E.C,Me f E.G with
   | some fn,some fi=>(match fn.body,fi.keep[k]? with
    | some c,some kp=>(match DD c k with
     | some b=>Ih (E.tt f) E.G Q fn.ntmps f n0 fi.keep b (k+1) m L H fun e m L H=>(match e with
      | .normal=>Hw kp.1 n0 m L H fun m L H=>Q (.loop f k n0 m L H)
      | e=>Hw kp.2 n0 m L H fun m L H=>some (.fin e m L H))
     | none=>none)
    | _,_=>none)
   | _,_=>none)
theorem TJ(E:Env){Q Q':Orc}(hQ:PP Q Q'):PP (J7 E Q) (J7 E Q'):=by
 intro q r
 unfold J7
 split
 ·exact id
 ·split
  ·split
   ·split
    ·simp only[Bq]
     refine AX (II hQ _ fun e m L H=>?_) id
     exact id
    ·exact id
   ·exact id
  ·split
   ·split
    ·split
     ·refine II hQ _ fun e m L H=>?_
      cases e<;>first|exact E8 fun m L H=>hQ _ _|exact id
     ·exact id
    ·exact id
   ·exact id
def F(E:Env)(q:Req):Option Rsp:=J7 E (F E) q
partial_fixpoint monotonicity by
 intro F1 F2 h q
 have hQ:PP F1 F2:=fun q r hq=>by
  have hr:=h q
  generalize F2 q=z at hr ⊢
  generalize F1 q=y at hr hq
  subst hq
  cases hr
  rfl
 have hm:=TJ E hQ q
 dsimp only
 generalize J7 E F2 q=z at hm ⊢
 generalize J7 E F1 q=y at hm ⊢
 cases y with
 | none=>exact .bot
 | some r=>grind
def Z9(P:Program)(I:World->Prop)(E:Env)(q:Req)(r:Rsp):Prop:=match q,r with
 | .call f args Hin,.ret s H=>Og P I f args Hin s H
 | .loop f k n0 m L H,.fin e m' L' H'=>∀ fn c b,Vh f E.C=some fn->fn.body=some c->DD c k=some b->eu P I fn.ntmps b n0 m L H e m' L' H'
 | _,_=>True
structure EnvOK (P:Program) (I:World->Prop) (E:Env):Prop where
 hT:TTok P I E.T
 hG:QE P E.G
 hC:∀ f fn,Vh f E.C=some fn->P.funcs[f]?=some fn
 hx:P.follows .mixedOrders=true
 ov:∀ q r,E.ov q=some r->Z9 P I E q r
theorem PQ:∀(c:Code) {k:Nat} {b:Code},DD c k=some b->k<Bl c:=by
 intro c
 induction c with
 | seq x y ihx ihy =>
  grind[DD,Bl]
 | cond t x y ihx ihy =>
  grind[DD,Bl]
 | block id x ih=>intro k b h;exact ih h
 | loop x ih =>
  grind[DD,Bl,DL]
 | _=>intro k b h;cases h
theorem VI:∀(c:Code) {k:Nat} {b:Code},DD c k=some b->∀ j c',DD b j=some c'->DD c (k+1+j)=some c':=by
 intro c
 induction c with
 | seq x y ihx ihy =>
  intro k b h j c' hj
  simp only[DD] at h ⊢
  cases hb:Nat.blt k (Bl x) with
  | true =>
   rw[hb] at h
   have h1:=ihx h j c' hj
   have:Nat.blt (k+1+j) (Bl x)=true:=by simpa using PQ x h1
   grind
  | false =>
   rw[hb] at h
   have hk:Bl x<=k:=by
    rcases Nat.lt_or_ge k (Bl x) with h1|h1
    ·have:Nat.blt k (Bl x)=true:=by simpa using h1
     simp_all
    ·exact h1
   have:Nat.blt (k+1+j) (Bl x)=false:=zH
   rw[this]
   have h1:=ihy h j c' hj
   rw[show k+1+j-Bl x=k-Bl x+1+j from by omega];exact h1
 | cond t x y ihx ihy =>
  intro k b h j c' hj
  simp only[DD] at h ⊢
  cases hb:Nat.blt k (Bl x) with
  | true =>
   rw[hb] at h
   have h1:=ihx h j c' hj
   have:Nat.blt (k+1+j) (Bl x)=true:=by simpa using PQ x h1
   grind
  | false =>
   rw[hb] at h
   have hk:Bl x<=k:=by
    rcases Nat.lt_or_ge k (Bl x) with h1|h1
    ·have:Nat.blt k (Bl x)=true:=by simpa using h1
     simp_all
    ·exact h1
   have:Nat.blt (k+1+j) (Bl x)=false:=zH
   rw[this]
   have h1:=ihy h j c' hj
   rw[show k+1+j-Bl x=k-Bl x+1+j from by omega];exact h1
 | block id x ih=>intro k b h j c' hj;exact ih h j c' hj
 | loop x ih =>
  intro k b h j c' hj
  simp only[DD] at h ⊢
  have h0:Nat.beq (k+1+j) 0=false:=by simp_all[Bool.eq_false_iff]
  rw[h0]
  cases hb:Nat.beq k 0 with
  | true =>
   simp_all
  | false =>
   rw[hb] at h
   have hk:k≠0:=fun e=>zk
   have:=ih h j c' hj
   rw[show k+1+j-1=k-1+1+j from by omega];exact this
 | _=>intro k b h;cases h
section
variable {P:Program}{I:World->Prop}{E:Env}
theorem jO(h:EnvOK P I E):∀ q r,F E q=some r->Z9 P I E q r:=by
 refine F.partial_correctness E _ fun Q hQ q r hr=>?_
 have hq:dY P I Q:=fun f args Hin s H h=>hQ _ _ h
 cases ho:E.ov q with
 | some r' =>
  simp only[J7,ho] at hr
  obtain rfl:=Option.some.inj hr
  exact h.ov _ _ ho
 | none =>
  cases q with
  | call f args H =>
   simp only[J7,ho] at hr
   split at hr
   ·rename_i fn fi hc hfi
    split at hr
    ·rename_i c hb
     cases hlen:Nat.ble args.length fn.ntmps with
     | false=>simp_all
     | true =>
      rw[hlen] at hr
      simp only[cond_true,Bq,Nat.zero_add] at hr
      have hS:∀ s Hout,r=.ret s Hout->Og P I f args H s Hout:=by
       rintro s Hout rfl
       refine Z7 (fi:=fi) h.hT (h.hC _ _ hc) hb hlen fun g hg=>?_
       refine XL (tab:=fun j=>DD c j) (h.hT.tt _) h.hG hq h.hx hg (fun k b m L H' e m' L' H'' hk hl=>?_) c 0 _ _ _ _ _ (fun j c' hj _=>by simp_all) hr (fun e m L H' hK=>?_)
       ·exact hQ _ _ hl fn c b hc hb hk
       grind
      cases r with
      | ret s Hout=>exact hS s Hout rfl
      | fin e m L H=>trivial
    ·cases hr
   ·cases hr
  | loop f k n0 m L H =>
   simp only[J7,ho] at hr
   split at hr
   ·rename_i fn fi hc hfi
    split at hr
    ·rename_i c kp hb hkp
     split at hr
     ·rename_i b hk
      cases r with
      | ret s Hout=>trivial
      | fin e m' L' H' =>
       intro fn' c' b' hc' hb' hk'
       rw[hc] at hc';obtain rfl:=Option.some.inj hc'
       rw[hb] at hb';obtain rfl:=Option.some.inj hb'
       rw[hk] at hk';obtain rfl:=Option.some.inj hk'
       intro g hg a w ν S
       refine Jc.unroll ?_
       have hfs:=XL (n:=fn.ntmps) (f:=f) (keep:=fi.keep) (tab:=fun j=>DD c j) (Φ:=fun e1 m1 L1 H1=>(match e1 with
        | .normal=>Hw kp.1 n0 m1 L1 H1 fun m L H=>Q (.loop f k n0 m L H)
        | e=>Hw kp.2 n0 m1 L1 H1 fun m L H=>some (Rsp.fin e m L H))=some (Rsp.fin e m' L' H')) (h.hT.tt _) h.hG hq h.hx hg (fun k b m L H' e m' L' H'' hk hl=>hQ _ _ hl fn c b hc hb hk) b (k+1) m L H _ (fun j c' hj _=>VI c hk j c' hj) hr (fun e m L H' hK=>hK) a w ν S
       have out:∀(e1:Exit) m1 L1 H1 a1 w1 ν1,(Hw kp.2 n0 m1 L1 H1 fun m L H=>some (Rsp.fin e1 m L H))=some (Rsp.fin e m' L' H')->En I fn.ntmps g m1 L1 H1 a1 w1 ν1->Qh I fn.ntmps g (fun e1 m1 L1 H1=>e1=e/\m1=m'/\L1=L'/\H1=H') e1 a1 w1:=by
        intro e1 m1 L1 H1 a1 w1 ν1 hc1 S1
        obtain⟨m2,L2,H2,ν2,g1,g2⟩:=JU hg S1 hc1
        simp only[Option.some.injEq,Rsp.fin.injEq] at g1
        obtain⟨rfl,rfl,rfl,rfl⟩:=g1
        exact⟨_,_,_,_,⟨rfl,rfl,rfl,rfl⟩,g2⟩
       refine wp_mono hfs ?_
       rintro e1 a1 w1 ⟨m1,L1,H1,ν1,q,S1⟩
       cases e1 with
       | normal =>
        obtain⟨m2,L2,H2,ν2,g1,g2⟩:=JU hg S1 q
        exact hQ _ _ g1 fn c b hc hb hk g hg a1 w1 _ g2
       | _=>exact out _ _ _ _ _ _ _ q S1
     ·cases hr
    ·cases hr
   ·cases hr
theorem bT(h:EnvOK P I E){f:FuncId}{args:List AV}{Hin:List Rs}{s:AV}{Hout:List (Option Rs)}(hF:F E (.call f args Hin)=some (.ret s Hout)):Og P I f args Hin s Hout:=jO h _ _ hF
end
end
end Go.Ax
namespace Go.Ax
open Go Go.RowKit Go.Eng
set_option linter.unusedVariables false
set_option linter.unusedSimpArgs false
variable {P:Program}
def bU:AV->AV->Bool
 | .un,.un=>true
 | .b x,.b y=>x==y
 | .i x,.i y|.u8 x,.u8 y|.u32 x,.u32 y|.u64 x,.u64 y|.str x,.str y=>decide (x=y)
 | .nil,.nil=>true
 | _,_=>false
theorem ZA{a b:AV}(h:bU a b=true):a=b:=by
 unfold bU at h
 grind
def UG:List AV->List AV->Bool
 | [],[]=>true
 | a::l,b::m=>bU a b&&UG l m
 | _,_=>false
theorem Ro:∀ {a b:List AV},UG a b=true->a=b
 | [],[],_=>rfl
 | a::l,b::m,h=>by simp only[UG,Bool.and_eq_true] at h;rw[ZA h.1,Ro h.2]
 | [],_::_,h|_::_,[],h=>zt
def fA(P:Program)(t:TypeId)(i:TI):Bool:=match i.u,P.underlying t with
 | .bool,some .bool|.i64,some (.int .i64)|.u8,some (.int .u8)|.u32,some (.int .u32)|.u64,some (.int .u64)|.str,some .string=>true
 | .sl e,some (.slice e')=>Nat.beq e e'
 | .fld pl sc,some (.struct _)=>(match Nu P t,Uo P t with|some pl',some sc'=>decide (pl'=pl)&&decide (sc'=sc)|_,_=>false)
 | .arr n e,some (.array n' e')=>Nat.beq n n'&&Nat.beq e e'
 | .ptr e,some (.pointer e')=>Nat.beq e e'
 | .oth,some d=>Hq d
 | _,_=>false
def fB(P:Program)(t:TypeId)(i:TI):Bool:=match P.info? t with
 | some ti=>(match ti.zero with
  | some z=>UG (z.cells.toList.map AV.of) i.zero&&Nat.beq z.cells.size i.size&&z.cells.toList.all (·.oneCell')
  | none=>false)&&Nat.beq ti.size i.size&&Nat.beq ti.bytes i.bytes&&Nat.blt 0 i.bytes
 | none=>false
def fC(P:Program)(t:TypeId):Bool:=match P.underlying t with
 | some (.array n e)=>Nat.beq n 2&&(match P.underlying e with|some (.int .i64)=>true|_=>false)&&(match P.info? e with|some i=>Nat.beq i.size 1|none=>false) && !P.eqGuardType P.depth t
 | _=>false
def bV(P:Program)(t:TypeId)(n:Nat):Bool:=match P.underlying t with
 | some (.struct fs) => !P.stoodInHeld t&&fs.toList.all (fun f=>(match decEq f.name "_" with|isTrue _=>false|isFalse _=>true)&&(match P.underlying f.type with|some (.int .i64)=>true|_=>false))&&decide (fs.toList.map (·.offset)=List.range' 0 n) && !P.eqGuardType P.depth t
 | _=>false
theorem ZB{t:TypeId}{n:Nat}(h:bV P t n=true):E6 P t n:=by
 unfold bV at h
 split at h
 ·rename_i fs hu
  simp only[Bool.and_eq_true,Bool.not_eq_true',decide_eq_true_eq,List.all_eq_true] at h
  obtain⟨⟨⟨h1,h2⟩,h3⟩,h4⟩:=h
  have hfs:P.fieldsOf t=fs:=by unfold Program.fieldsOf;rw[hu]
  refine⟨by rw[hfs];exact hu,h1,fun f hf=>?_,by rw[hfs];exact h3,h4⟩
  rw[hfs] at hf
  obtain⟨h5,h6⟩:=h2 f hf
  refine⟨?_,?_⟩
  ·split at h5
   ·cases h5
   ·assumption
  ·split at h6
   ·assumption
   ·cases h6
 ·cases h
def bW(P:Program)(t:TypeId)(i:TI):Bool:=fA P t i&&fB P t i&&(match i.ty with|some τ=>Nat.beq τ.n i.size|none=>true)&&(!i.eq2||fC P t)&&(!Nat.blt 0 i.eqn||bV P t i.eqn)
theorem ZC{t:TypeId}{i:TI}(h:bW P t i=true):TOK P t i:=by
 simp only[bW,Bool.and_eq_true] at h
 obtain⟨⟨⟨⟨h1,h2⟩,h3⟩,h4⟩,hq⟩:=h
 have hq:0<i.eqn->E6 P t i.eqn:=fun h0=>by
  have h0:Nat.blt 0 i.eqn=true:=by simpa using h0
  rw[h0] at hq
  exact ZB (by simpa using hq)
 have hu:(match i.u with
  | .bool=>P.underlying t=some .bool
  | .i64=>P.underlying t=some (.int .i64)
  | .u8=>P.underlying t=some (.int .u8)
  | .u32=>P.underlying t=some (.int .u32)
  | .u64=>P.underlying t=some (.int .u64)
  | .str=>P.underlying t=some .string
  | .sl el=>P.underlying t=some (.slice el)
  | .fld pl sc=>Nu P t=some pl/\Uo P t=some sc
  | .arr n el=>P.underlying t=some (.array n el)
  | .ptr el=>P.underlying t=some (.pointer el)
  | .oth=>∃ d,P.underlying t=some d/\Hq d=true):=by
  unfold fA at h1
  split at h1
  case _ hu hp=>rw[hu];exact hp
  case _ hu hp=>rw[hu];exact hp
  case _ hu hp=>rw[hu];exact hp
  case _ hu hp=>rw[hu];exact hp
  case _ hu hp=>rw[hu];exact hp
  case _ hu hp=>rw[hu];exact hp
  case _ hu hp=>rw[hu];simp only;rw[DL h1];exact hp
  case _ hu hp =>
   rw[hu]
   simp only
   split at h1
   ·rename_i pl' sc' e1 e2
    simp only[Bool.and_eq_true,decide_eq_true_eq] at h1
    exact⟨e1.trans (by rw[h1.1]),e2.trans (by rw[h1.2])⟩
   ·cases h1
  case _ hu hp =>
   rw[hu]
   simp only
   simp only[Bool.and_eq_true] at h1
   rw[DL h1.1,DL h1.2];exact hp
  case _ hu hp=>rw[hu];simp only;rw[DL h1];exact hp
  case _ hu hp=>rw[hu];exact⟨_,hp,h1⟩
  case _=>cases h1
 unfold fB at h2
 split at h2
 ·rename_i ti hi
  simp only[Bool.and_eq_true] at h2
  obtain⟨⟨⟨h5,h6⟩,h7⟩,h8⟩:=h2
  split at h5
  ·rename_i z hz
   simp only[Bool.and_eq_true] at h5
   obtain⟨⟨h9,h10⟩,h11⟩:=h5
   refine⟨hu,by rw[hi];simp only[Option.map_some,DL h6],⟨z,?_,Ro h9,DL h10,h11,by simpa using h8⟩,fun τ hτ=>?_,fun he=>?_,hq⟩
   ·rw[hi];simp only[Option.map_some,hz,DL h6,DL h7]
   ·rw[hτ] at h3;exact DL h3
   ·rw[he] at h4
    simp only[Bool.not_true,Bool.false_or] at h4
    unfold fC at h4
    split at h4
    ·rename_i n e hp
     simp only[Bool.and_eq_true,Bool.not_eq_true'] at h4
     obtain⟨⟨⟨g1,g2⟩,g3⟩,g4⟩:=h4
     split at g2
     ·rename_i g2'
      split at g3
      ·rename_i ie g3'
       have hs:=DL g3
       refine⟨e,by rw[hp,DL g1],g2',by rw[g3'];simp only[Option.map_some,hs],by simp[Program.cellsOf,g3',hs],g4⟩
      ·cases g3
     ·cases g2
    ·cases h4
  ·cases h5
 ·cases h2
def jP(P:Program):TT->Bool
 | []=>true
 | (t,i)::r=>bW P t i&&jP P r
theorem XU{P:Program}:∀ {T:TT},jP P T=true->∀ t i,Ha t T=some i->TOK P t i
 | [],_,t,i,h=>zt
 | (d,v)::r,h,t,i,ht=>by
  simp only[jP,Bool.and_eq_true] at h
  simp only[Ha] at ht
  cases hb:Nat.beq t d with
  | true=>grind[DL,ZC]
  | false=>rw[hb] at ht;exact XU h.2 t i ht
inductive CTok (P:Program):CT->Prop
 | nil:CTok P []
 | cons {d:Nat} {v:Func} {C:CT}:P.funcs[d]?=some v->CTok P C->CTok P ((d,v)::C)
theorem CTok.get{C:CT}(h:CTok P C):∀ f fn,Vh f C=some fn->P.funcs[f]?=some fn:=by
 induction h with
 | nil=>intro f fn h;cases h
 | @cons d v C h1 _ ih =>
  grind[Vh,DL]
inductive EntL (P:Program):FT->Prop
 | nil:EntL P []
 | cons {d:Nat} {v:FI} {C:FT}:Ent P d->EntL P C->EntL P ((d,v)::C)
theorem ZE{G:FT}(h:EntL P G):QE P G:=by
 induction h with
 | nil=>intro f fn h;cases h
 | @cons d v C h1 _ ih =>
  intro f fn h
  simp only[Me] at h
  cases hb:Nat.beq f d with
  | true=>simp_all
  | false=>rw[hb] at h;exact ih f fn h
end Go.Ax
namespace Go.Ax
open Go Go.RowKit Go.Eng
set_option linter.unusedVariables false
set_option linter.unusedSimpArgs false
variable {a:Int}{α:Type}{b:Int}(l:List α)
theorem wrap64{n:Int}(h : -9223372036854775808<=n/\n<=9223372036854775807):IntKind.i64.wrap n=n:=by
 have e1:(2:Int)^IntKind.i64.bits=18446744073709551616:=rfl
 have e2:(2:Int)^(IntKind.i64.bits-1)=9223372036854775808:=rfl
 have e3:IntKind.i64.signed=true:=rfl
 unfold IntKind.wrap
 grind
theorem ZF(h : -9223372036854775808<=a+b/\a+b<=9223372036854775807):BL a b=a+b:=by rw[W9];exact wrap64 h
theorem ZG(h : -9223372036854775808<=a-b/\a-b<=9223372036854775807):BM a b=a-b:=by rw[WA];exact wrap64 h
theorem ZH(h : -9223372036854775808<=a*b/\a*b<=9223372036854775807):BN a b=a*b:=by rw[WB];exact wrap64 h
theorem ZI(h:0<=a/\a<=9223372036854775807/\1<=b):BO a b=a/b:=by
 have h1:a.tdiv b=a/b:=Int.tdiv_eq_ediv_of_nonneg h.1
 rw[WC];unfold iquo0;rw[h1]
 have h2:0<=a/b:=Int.ediv_nonneg h.1 zf
 have h3:a/b<=a:=Int.ediv_le_self _ h.1
 grind[wrap64]
theorem ZJ(h:0<=a):BP a b=a%b:=by rw[WE];exact Int.tmod_eq_emod_of_nonneg h
theorem ZK(h : -9223372036854775807<=a/\a<=9223372036854775807):BQ a = -a:=by rw[WF];exact wrap64 zf
theorem ZL(h : -9223372036854775808<=a/\a<=9223372036854775807):BR a=a:=by rw[WN];exact wrap64 h
theorem fD(h:a=b):CX a b=true:=by simp[Nk,ieq0,h]
theorem fE(h:a≠b):CX a b=false:=by simp[Nk,ieq0,h]
theorem fF(h:a≠b):Cm a b=true:=by simp[Oz,ine0,h]
theorem fG(h:a=b):Cm a b=false:=by simp[Oz,ine0,h]
theorem fH(h:a<b):CY a b=true:=by simp[JZ,ilt0,h]
theorem fJ(h:b<=a):CY a b=false:=by simp[JZ,ilt0];omega
theorem fK(h:a<=b):CW a b=true:=by simp[Iq,ile0,h]
theorem fM(h:b<a):CW a b=false:=by simp[Iq,ile0];omega
theorem of_ieq_t(h:CX a b=true):a=b:=by simpa [Nk,ieq0] using h
theorem of_ieq_f(h:CX a b=false):a≠b:=by simpa [Nk,ieq0] using h
theorem of_ine_t(h:Cm a b=true):a≠b:=by simpa [Oz,ine0] using h
theorem of_ine_f(h:Cm a b=false):a=b:=by simpa [Oz,ine0] using h
theorem of_ilt_t(h:CY a b=true):a<b:=by simpa [JZ,ilt0] using h
theorem of_ilt_f(h:CY a b=false):b<=a:=by simpa [JZ,ilt0] using h
theorem QP:Ar l=(l.length:Int):=by rw[Pn];rfl
theorem UH(m:List α):Aw l m=l++m:=by rw[Pv];rfl
theorem UI(m:List α):BI l m=m.take l.length++l.drop m.length:=by rw[WS];rfl
theorem QQ(n:Int)(a:α):Au n a=List.replicate n.toNat a:=by rw[Pq];rfl
theorem UJ(i:Int)(a:α):BH l i a=l.set i.toNat a:=by rw[WR];rfl
theorem lget_s{l:List α}{i:Int}{a:α}(h:0<=i)(h2:l[i.toNat]?=some a):BA l i=some a:=by simp_all[Nl,lget0]
theorem lget_nat(i:Nat):BA l (i:Int)=l[i]?:=by simp_all[Nl,lget0]
theorem bY{l:List α}{i:Int}(h:0<=i/\i<l.length):BV l i=true:=by simp_all[WQ,linb0]
theorem XV:BB l 0 (Ar l)=some l:=by
 simp_all[Po,lcut0,QP]
theorem bZ{l:List α}{lo hi:Int}(h:0<=lo/\lo<=hi/\hi<=l.length):BB l lo hi=some ((l.drop lo.toNat).take (hi-lo).toNat):=by rw[Po,lcut0,if_pos h]
theorem Ls{l:List α}{b:Nat}(h:l.length*b<=140737488355328):fits l b=true:=by simp_all[Np,fits0]
theorem bf{n:Int}{b:Nat}(h:0<=n/\b*n.toNat<=281474976710656):BZ n b=true:=by simp_all[WU,fitn0]
theorem bg{a b:List Int}(h:a=b):BK a b=true:=by simp[Px,ieqs0,h]
theorem fO{a b:List UInt8}(h:a=b):BG a b=true:=by simp[WI,seq0,h]
theorem fP{a b:List UInt8}(h:a≠b):BG a b=false:=by simp[WI,seq0,h]
theorem UK(a:Bool):BC a = !a:=by rw[WH];rfl
theorem bi(a b:Bool):and' a b=(a&&b):=by rw[Zm];rfl
theorem u8i_eq(a:UInt8):D8 a=(a.toNat:Int):=by rw[Zn];rfl
theorem iu8_eq(a:Int):D5 a=UInt8.ofInt a:=by rw[eG];rfl
theorem iu64_eq(a:Int):Bf a=UInt64.ofInt a:=by rw[ak];rfl
theorem u64u8_eq(a:UInt64):Ai a=a.toUInt8:=by rw[Yg];rfl
theorem u8u64_eq(a:UInt8):Ag a=a.toUInt64:=by rw[Ye];rfl
theorem ZM{a:UInt64}(h:a.toNat<=9223372036854775807):BU a=(a.toNat:Int):=by rw[WO];exact wrap64 zf
theorem u64_ofInt{c:Int}(h:0<=c/\c<18446744073709551616):(UInt64.ofInt c).toNat=c.toNat:=by
 grind[UInt64.ofInt,UInt64.toNat_ofNat']
theorem u8_ofInt{c:Int}(h:0<=c/\c<256):(UInt8.ofInt c).toNat=c.toNat:=by
 grind[UInt8.ofInt,UInt8.toNat_ofNat']
theorem u64shr_eq{a:UInt64}{c:Nat}(h:c<64):AL a c=a>>>UInt64.ofNat c:=by
 apply UInt64.toNat_inj.1
 rw[Qj];unfold u64shr0
 rw[UInt64.toNat_shiftRight,Nat.shiftRight_eq_div_pow,UInt64.toNat_ofNat',UInt64.toNat_ofNat',Nat.min_eq_left zf]
 have h2:c%2^64%64=c:=zf
 rw[h2]
 have:=a.toNat_lt
 exact Nat.mod_eq_of_lt (Nat.lt_of_le_of_lt (Nat.div_le_self _ _) this)
theorem u64shl_eq{a:UInt64}{c:Nat}(h:c<64):AO a c=a<<<UInt64.ofNat c:=by
 rw[WJ];unfold u64shl0
 apply UInt64.toNat_inj.1
 rw[Nat.min_eq_left zf,UInt64.toNat_shiftLeft,Nat.shiftLeft_eq,UInt64.toNat_ofNat']
 have h2:c%2^64%64=c:=zf
 grind[UInt64.ofInt,UInt64.toNat_ofNat']
theorem u64or_eq(a b:UInt64):Ad .or a b=a|||b:=by rw[Tt];rfl
theorem u64gt_t{a b:UInt64}(h:b.toNat<a.toNat):AB .gtr a b=true:=by simp_all[Gv,u64cmp0,Oe]
theorem u64gt_f{a b:UInt64}(h:a.toNat<=b.toNat):AB .gtr a b=false:=by simp_all[Gv,u64cmp0,Oe]
theorem ishl8(a:UInt8):Ba (a.toNat:Int) 8=(a.toNat:Int)*2^(8:Int).toNat:=by
 have:=a.toNat_lt
 rw[ae];unfold ishl0
 rw[show min 8 64=8 from rfl,show(2:Int)^(8:Int).toNat=256 from rfl,show(2:Int)^8=256 from rfl]
 grind[wrap64]
theorem ior_eq(a b:Int):BJ .or a b=bits .or .i64 a b:=by rw[aZ];rfl
end Go.Ax
namespace Go.Ax
open Go Go.Eng Go.RowKit
set_option linter.unusedVariables false
def Zv:Nat->UInt64->List UInt8
 | 0,_=>[]
 | k+1,x=>(x>>>UInt64.ofNat (8*k)).toUInt8::Zv k x
theorem ZN(k:Nat)(x:UInt64):(Zv k x).length=k:=by induction k with|zero=>rfl|succ k ih=>simp[Zv,ih]
def Bz(b:List UInt8)(size n:Int):List UInt8:=if size<1\/8<size then b else b++Zv size.toNat (UInt64.ofInt n)
theorem uintB_len(b:List UInt8)(size n:Int):(Bz b size n).length<=b.length+8:=by
 grind[Bz,ZN]
def J8(b x:List UInt8):List UInt8:=Bz b 2 ((x.take 65535).length:Int)++x.take 65535
theorem or_bytes(x y:UInt8):bits .or .i64 ((x.toNat:Int)*2^(8:Int).toNat) (y.toNat:Int)=((x.toNat*256+y.toNat:Nat):Int):=by
 have hx:=x.toNat_lt
 have hy:=y.toNat_lt
 have h:=bits_i64_or (x.toNat*256) y.toNat zf zf
 rw[show((x.toNat:Int)*2^(8:Int).toNat)=((x.toNat*256:Nat):Int) from by simp,h]
 have:=Nat.shiftLeft_add_eq_or_of_lt (i:=8) (show y.toNat<2^8 by omega) x.toNat
 simp_all[Nat.shiftLeft_eq]
def lV(l:List UInt8):UInt64:=l.foldl (fun n x=>n<<<8|||x.toUInt64) 0
def jQ(b:List UInt8)(at':Nat)(e size:Int):Int×Nat×Int :=
 if e≠0 then(0,at',e) else if size<1\/8<size then(0,at',1) else if b.length<at'+size.toNat then(0,at',2)
 else if 9223372036854775807<(lV ((b.drop at').take size.toNat)).toNat then(0,at',4) else((lV ((b.drop at').take size.toNat)).toNat,at'+size.toNat,0)
def mD(b:List UInt8)(at':Nat)(e n:Int):List UInt8×Nat×Int :=
 if e≠0 then([],at',e) else if n<0 then([],at',1) else if b.length<at'+n.toNat then([],at',2) else((b.drop at').take n.toNat,at'+n.toNat,0)
def UL(b:List UInt8)(at':Nat):Nat:=(b.getD at' 0).toNat*256+(b.getD (at'+1) 0).toNat
def bn(b:List UInt8)(at':Nat)(e most:Int):List UInt8×Nat×Int :=
 if e≠0 then([],at',e) else if b.length<at'+2 then([],at',2) else if most<UL b at' then([],at',4)
 else if b.length<at'+2+UL b at' then([],at',2) else((b.drop (at'+2)).take (UL b at'),at'+2+UL b at',0)
def jR(b:List UInt8)(at':Nat)(e:Int):Int:=if e=0/\at'<b.length then 3 else e
theorem rdU_le{b:List UInt8}{at':Nat}{e size:Int}(h:at'<=b.length):(jQ b at' e size).2.1<=b.length:=by
 grind[jQ]
theorem rdB_le{b:List UInt8}{at':Nat}{e most:Int}(h:at'<=b.length):(bn b at' e most).2.1<=b.length:=by
 grind[bn]
end Go.Ax
namespace Go.Ax
open Go Go.RowKit Go.Eng
set_option linter.unusedVariables false
set_option linter.unusedSimpArgs false
variable (a b:UInt8)
theorem lget_n{α:Type}{l:List α}{n:Nat}(h:n<l.length):BA l (n:Int)=some (l[n]'h):=by simp_all[lget_nat]
theorem lget_i{α:Type}{l:List α}{i:Int}(h:0<=i/\i<l.length):BA l i=some (l[i.toNat]'zf):=by simp_all[Nl,lget0]
theorem bu(a b:Int):CX a b=decide (a=b):=by simp only[Nk,ieq0];rfl
theorem bz(a b:Int):Cm a b = !decide (a=b):=by simp only[Oz,ine0];rfl
theorem ilt_eq(a b:Int):CY a b=decide (a<b):=by rw[JZ];rfl
theorem ile_eq(a b:Int):CW a b=decide (a<=b):=by rw[Iq];rfl
theorem VJ:AZ .eql a b=CX (a.toNat:Int) b.toNat:=by rw[IQ,Nk];rfl
theorem VK:AZ .neq a b=Cm (a.toNat:Int) b.toNat:=by rw[IQ,Oz];rfl
theorem VL:AZ .lss a b=CY (a.toNat:Int) b.toNat:=by rw[IQ,JZ];rfl
theorem VM:AZ .leq a b=CW (a.toNat:Int) b.toNat:=by rw[IQ,Iq];rfl
theorem VN:AZ .gtr a b=CY (b.toNat:Int) a.toNat:=by rw[IQ,JZ];rfl
theorem VO:AZ .geq a b=CW (b.toNat:Int) a.toNat:=by rw[IQ,Iq];rfl
theorem TK(a b:UInt64):AB .eql a b=CX (a.toNat:Int) b.toNat:=by rw[Gv,Nk];rfl
theorem TL(a b:UInt64):AB .neq a b=Cm (a.toNat:Int) b.toNat:=by rw[Gv,Oz];rfl
theorem TM(a b:UInt64):AB .lss a b=CY (a.toNat:Int) b.toNat:=by rw[Gv,JZ];rfl
theorem TN(a b:UInt64):AB .leq a b=CW (a.toNat:Int) b.toNat:=by rw[Gv,Iq];rfl
theorem TP(a b:UInt64):AB .gtr a b=CY (b.toNat:Int) a.toNat:=by rw[Gv,JZ];rfl
theorem TQ(a b:UInt64):AB .geq a b=CW (b.toNat:Int) a.toNat:=by rw[Gv,Iq];rfl
theorem u8rem_eq:Aa a b=UInt8.ofNat (a.toNat%b.toNat):=by rw[Tu];rfl
theorem u8rem_nat:(Aa a b).toNat=a.toNat%b.toNat:=by
 rw[u8rem_eq,UInt8.toNat_ofNat',Nat.mod_eq_of_lt (Nat.lt_of_le_of_lt (Nat.mod_le _ _) (UInt8.toNat_lt _))]
theorem u8xor_eq:Bd .xor a b=a^^^b:=by rw[ai];rfl
theorem u8or_eq:Bd .or a b=a|||b:=by rw[ai];rfl
theorem mul8_eq{c:Int}(h:0<=c/\c<=8):(Ad .mul (UInt64.ofNat 8) (Bf c)).toNat=(8*c).toNat:=by
 rw[Tt,iu64_eq]
 show((UInt64.ofNat 8)*(UInt64.ofInt c)).toNat=_
 grind[UInt64.toNat_mul,u64_ofInt]
theorem and_mask(k:Nat)(hk:k<=62)(n:Int):bits .and .i64 n ((2^k-1:Nat):Int)=n%((2^k:Nat):Int):=by
 have hp:0<2^k:=Nat.pow_pos zf
 have hlt:2^k<=2^62:=Nat.pow_le_pow_right zf hk
 have h1:(BitVec.ofInt 64 ((2^k-1:Nat):Int)).toNat=2^k-1:=by
  grind
 have key:(BitVec.ofInt 64 n&&&BitVec.ofInt 64 ((2^k-1:Nat):Int)).toNat=(n%((2^64:Nat):Int)).toNat%2^k:=by
  grind[BitVec.toNat_ofInt,Nat.and_two_pow_sub_one_eq_mod]
 show IntKind.i64.wrap ((BitVec.ofInt 64 n&&&BitVec.ofInt 64 ((2^k-1:Nat):Int)).toNat:Nat)=n%_
 rw[key,IntKind.wrap_i64]
 have hd:((2^k:Nat):Int)∣((2^64:Nat):Int):=by
  refine⟨((2^(64-k):Nat):Int),?_⟩
  rw[<-Int.natCast_mul,<-Nat.pow_add];grind
 have h2:((((n%((2^64:Nat):Int)).toNat%2^k:Nat)):Int)=n%((2^k:Nat):Int):=by
  grind[Int.emod_emod_of_dvd]
 omega
theorem iand_mask(k:Nat)(hk:k<=62)(n:Int):BJ .and n ((2^k-1:Nat):Int)=n%((2^k:Nat):Int):=by rw[aZ];exact and_mask k hk n
end Go.Ax
namespace Go.Ax
open Go Go.Eng Go.RowKit
set_option linter.unusedVariables false
set_option linter.unusedSimpArgs false
variable {b x r:List UInt8}{n p:Nat}(l:List UInt8)
def valN(l:List UInt8):Nat:=l.foldl (fun n x=>n*256+x.toNat) 0
theorem valN_go:∀ a:Nat,l.foldl (fun n x=>n*256+x.toNat) a=a*256^l.length+valN l:=by
 induction l with
 | nil=>grind[valN]
 | cons x l ih =>
  intro a
  rw[List.foldl_cons,ih]
  have e:valN (x::l)=x.toNat*256^l.length+valN l:=by
   rw[show valN (x::l)=l.foldl (fun n x=>n*256+x.toNat) (0*256+x.toNat) from rfl,ih];simp
  grind
theorem valN_cons(x:UInt8)(l:List UInt8):valN (x::l)=x.toNat*256^l.length+valN l:=by
 grind[valN,valN_go]
theorem shl8_or(n:UInt64)(x:UInt8)(h:n.toNat<2^56):(n<<<8|||x.toUInt64).toNat=n.toNat*256+x.toNat:=by
 have hx:=x.toNat_lt
 rw[UInt64.toNat_or,UInt64.toNat_shiftLeft]
 have e1:(8:UInt64).toNat%64=8:=zh
 rw[e1,Nat.shiftLeft_eq,Nat.mod_eq_of_lt zf]
 have e2:x.toUInt64.toNat=x.toNat:=zB
 rw[e2]
 have:=Nat.shiftLeft_add_eq_or_of_lt (i:=8) (show x.toNat<2^8 by omega) n.toNat
 simp_all[Nat.shiftLeft_eq]
theorem beN_val(h:l.length<=8):(lV l).toNat=valN l:=by
 have key:∀(l:List UInt8) (a:UInt64) (m:Nat),a.toNat<256^m->m+l.length<=8->(l.foldl (fun(n:UInt64) (x:UInt8)=>n<<<8|||x.toUInt64) a).toNat=a.toNat*256^l.length+valN l:=by
  intro l
  induction l with
  | nil=>simp_all[valN]
  | cons x l ih =>
   intro a m ha hm
   rw[List.length_cons] at hm
   have hx:=x.toNat_lt
   have h56:a.toNat<2^56:=by
    have:256^m<=256^7:=Nat.pow_le_pow_right zf zf
    omega
   have hs:=shl8_or a x h56
   rw[List.foldl_cons,ih _ (m+1) zf zf,hs,valN_cons,List.length_cons,Nat.pow_succ,Nat.add_mul,Nat.mul_assoc,Nat.mul_comm 256]
   omega
 have:=key l 0 0 zh zf
 simp_all[lV]
theorem beB_val(k:Nat)(x:UInt64)(hk:k<=8):valN (Zv k x)=x.toNat%256^k:=by
 induction k with
 | zero=>simp[Zv,valN,Nat.mod_one]
 | succ k ih =>
  rw[Zv,valN_cons,ZN,ih zf]
  have h1:((x>>>UInt64.ofNat (8*k)).toUInt8).toNat=x.toNat/256^k%256:=by
   rw[UInt64.toNat_toUInt8,UInt64.toNat_shiftRight,UInt64.toNat_ofNat',Nat.shiftRight_eq_div_pow]
   have e:8*k%2^64%64=8*k:=zf
   rw[e,Nat.pow_mul]
  rw[h1,Nat.pow_succ,Nat.mod_mul]
  grind
theorem valN_ofInt(k:Nat)(x:Int)(hk:k<=8)(h0:0<=x)(h1:x<9223372036854775808)(h:x.toNat<256^k):valN (Zv k (UInt64.ofInt x))=x.toNat:=by
 grind[beB_val,u64_ofInt,Nat.mod_eq_of_lt]
theorem len_of_drop(h:b.drop p=r)(hp:p<=b.length):b.length=p+r.length:=zn
theorem drop_add(h:b.drop p=x++r):b.drop (p+x.length)=r:=by
 rw[<-List.drop_drop,h,List.drop_left]
theorem rdU_app{x:Int}(hp:p<=b.length)(hn:1<=n/\n<=8)(h:b.drop p=Zv n (UInt64.ofInt x)++r)(h0:0<=x)(h1:x<9223372036854775808)(h2:x.toNat<256^n):
  jQ b p 0 n=(x,p+n,0)/\p+n<=b.length/\b.drop (p+n)=r:=by
 have hl:=len_of_drop h hp
 rw[List.length_append,ZN] at hl
 have ht:(b.drop p).take n=Zv n (UInt64.ofInt x):=by simp_all[ZN]
 have hv:(lV (Zv n (UInt64.ofInt x))).toNat=x.toNat:=by simp_all[beN_val,ZN,valN_ofInt]
 refine⟨?_,by omega,by have:=drop_add h;rwa [ZN] at this⟩
 unfold jQ
 grind
theorem rdR_app(hp:p<=b.length)(h:b.drop p=x++r)(hx:x.length=n):mD b p 0 n=(x,p+n,0)/\p+n<=b.length/\b.drop (p+n)=r:=by
 have hl:=len_of_drop h hp
 rw[List.length_append] at hl
 subst hx
 simp_all[drop_add,mD,if_neg]
theorem lenAt_be{x:UInt8}{y:UInt8}(h:b.drop p=x::y::r):UL b p=x.toNat*256+y.toNat:=by
 have e0:b.getD p 0=x:=by
  have:=congrArg (fun l=>l.getD 0 0) h
  grind
 have e1:b.getD (p+1) 0=y:=by
  have:=congrArg (fun l=>l.getD 1 0) h
  grind
 rw[UL,e0,e1]
def jS(n:Nat):List UInt8:=Zv 2 (UInt64.ofInt (n:Int))
theorem len2_two(n:Nat):∃ x y,jS n=[x,y]:=⟨_,_,rfl⟩
theorem len2_len(n:Nat):(jS n).length=2:=ZN _ _
theorem len2_val(h:n<=65535){x y:UInt8}(hxy:jS n=[x,y]):x.toNat*256+y.toNat=n:=by
 have:=valN_ofInt 2 (n:Int) zf zf zf zx
 rw[show Zv 2 (UInt64.ofInt (n:Int))=[x,y] from hxy] at this
 simp_all[valN]
theorem rdB_app{most:Int}(hp:p<=b.length)(h:b.drop p=jS x.length++x++r)(hx:x.length<=65535)(hm:(x.length:Int)<=most):
  bn b p 0 most=(x,p+2+x.length,0)/\p+2+x.length<=b.length/\b.drop (p+2+x.length)=r:=by
 have hl:=len_of_drop h hp
 rw[List.length_append,List.length_append,len2_len] at hl
 obtain⟨u,v,huv⟩:=len2_two x.length
 have hv:=len2_val hx huv
 have hL:UL b p=x.length:=by
  grind[lenAt_be]
 have h2:b.drop (p+2)=x++r:=by
  grind[drop_add,len2_len]
 refine⟨?_,by omega,drop_add h2⟩
 unfold bn
 grind
theorem rdE_ok(hp:p<=b.length)(h:b.drop p=[]):jR b p 0=0:=by
 simp_all[jR]
theorem XW{x:Int}(hn:1<=n/\n<=8):Bz b n x=b++Zv n (UInt64.ofInt x):=by
 unfold Bz;grind
theorem blobB_eq(h:x.length<=65535):J8 b x=b++jS x.length++x:=by
 unfold J8
 rw[List.take_of_length_le h,show(2:Int)=((2:Nat):Int) from rfl,XW zf];rfl
theorem Ko{x:Int}(hn:1<=n/\n<=8):(Bz b n x).length=b.length+n:=by simp_all[XW,ZN]
theorem XX(b:List UInt8)(x:Int):(Bz b 1 x).length=b.length+1:=Ko (n:=1) zf
theorem OO(b:List UInt8)(x:Int):(Bz b 2 x).length=b.length+2:=Ko (n:=2) zf
theorem XY(b:List UInt8)(x:Int):(Bz b 3 x).length=b.length+3:=Ko (n:=3) zf
theorem XZ(b:List UInt8)(x:Int):(Bz b 4 x).length=b.length+4:=Ko (n:=4) zf
theorem Xa(b:List UInt8)(x:Int):(Bz b 8 x).length=b.length+8:=Ko (n:=8) zf
theorem ZO(b x:List UInt8):(J8 b x).length=b.length+2+min 65535 x.length:=by simp_all[J8,OO]
end Go.Ax
namespace Go.Ax
open Go Go.Eng Go.RowKit
set_option linter.unusedVariables false
set_option linter.unusedSimpArgs false
structure Att where
 key:List UInt8
 nonce:List UInt8
 resets:Int
 restarts:Int
 clock:Int
 safe:Bool
 updates:Int
 s0:Int
 s1:Int
 digest:List UInt8
def cO:List UInt8:=[83,87,81,49]
def GH(a:Att):List UInt8 :=
 Bz (Bz (Bz (Bz (Bz (Bz (Bz (J8 (J8 cO a.key) a.nonce) 8 a.resets) 8 a.restarts) 8 a.clock) 1 (bif a.safe then 1 else 0)) 8 a.updates) 2 a.s0) 2 a.s1++a.digest
structure OkA (a:Att):Prop where
 key:a.key.length=32
 nonce:a.nonce.length<=128
 resets:0<=a.resets/\a.resets<9223372036854775808
 restarts:0<=a.restarts/\a.restarts<9223372036854775808
 clock:0<=a.clock/\a.clock<9223372036854775808
 updates:0<=a.updates/\a.updates<9223372036854775808
 s0:0<=a.s0/\a.s0<65536
 s1:0<=a.s1/\a.s1<65536
 digest:a.digest.length=32
end Go.Ax
namespace Go.Ax
open Go Go.RowKit Go.Eng
set_option linter.unusedVariables false
set_option linter.unusedSimpArgs false
variable (l:List UInt8)
theorem ishr_eq{a:Int}{c:Nat}(h:c<=64):Bc a c=a/2^c:=by simp_all[ah,ishr0]
theorem ishl1{c:Int}(h:0<=c/\c<=62):Ba 1 (Bf c).toNat=2^c.toNat:=by
 rw[ae,iu64_eq,u64_ofInt zf];unfold ishl0
 rw[Nat.min_eq_left zf,Int.one_mul]
 apply wrap64
 have h1:(2:Int)^c.toNat<=2^62:=by
  have:=Nat.pow_le_pow_right (n:=2) zf (show c.toNat<=62 by omega)
  grind
 grind
theorem ishl1n{n:Nat}(h:n<=62):Ba 1 (Bf (n:Int)).toNat=(2:Int)^n:=by
 grind[ishl1]
theorem cZ{α:Type}{l:List α}{n:Int}(h:0<=n/\n<=l.length):BB l 0 n=some (l.take n.toNat):=by
 simp_all[Po,lcut0]
theorem LL:(∀ {α:Type} (l:List α),Ar l=(l.length:Int))/\(∀ {α:Type} (l m:List α),Aw l m=l++m)/\(∀ {α:Type} (n:Int) (a:α),Au n a=List.replicate n.toNat a)/\(∀ {α:Type} (l m:List α),BI l m=m.take l.length++l.drop m.length)/\(∀ {α:Type} (l:List α) (i:Int) (a:α),BH l i a=l.set i.toNat a) /\
  (∀ {α:Type} (l m:List α),(l++m).length=l.length+m.length)/\(∀ {α:Type} (i:Nat) (l:List α),(l.take i).length=min i l.length)/\(∀ {α:Type} (i:Nat) (l:List α),(l.drop i).length=l.length-i)/\(∀ {α:Type} (a:α) (l:List α),(a::l).length=l.length+1)/\(∀ {α:Type},([]:List α).length=0)/\(∀ {α:Type} (n:Nat) (a:α),(List.replicate n a).length=n)/\(∀ {α:Type} (l:List α) (i:Nat) (a:α),(l.set i a).length=l.length)/\(∀ n:Nat,((n:Int)).toNat=n) :=
 ⟨QP,UH,QQ,UI,UJ,fun _ _=>List.length_append,fun _ _=>List.length_take,fun _ _=>List.length_drop,fun _ _=>List.length_cons,List.length_nil,fun _ _=>List.length_replicate,fun _ _ _=>List.length_set,Int.toNat_natCast⟩
theorem NO:(∀ {α:Type} (l:List α),Ar l=(l.length:Int))/\(∀ {α:Type} (l m:List α),Aw l m=l++m)/\(∀ {α:Type} (n:Int) (a:α),Au n a=List.replicate n.toNat a)/\(∀ {α:Type} (l m:List α),BI l m=m.take l.length++l.drop m.length)/\(∀ {α:Type} (l:List α) (i:Int) (a:α),BH l i a=l.set i.toNat a) /\
  (∀ {α:Type} (l:List α),[]++l=l)/\(∀ {α:Type} (l:List α),l++[]=l)/\(∀ {α:Type} (a b c:List α),a++b++c=a++(b++c))/\(∀ {α:Type} (a:α) (b c:List α),a::b++c=a::(b++c)) :=
 ⟨QP,UH,QQ,UI,UJ,List.nil_append,List.append_nil,List.append_assoc,fun _ _ _=>List.cons_append⟩
theorem u32shr_eq{a:UInt32}{c:Nat}(h:c<32):AP a c=a>>>UInt32.ofNat c:=by
 rw[WL];unfold u32shr0;rw[Nat.min_eq_left zf]
 apply UInt32.toNat_inj.1
 rw[UInt32.toNat_shiftRight,UInt32.toNat_ofNat',UInt32.toNat_ofNat',Nat.shiftRight_eq_div_pow]
 have h1:c%2^32%32=c:=zf
 rw[h1]
 have h2:a.toNat/2^c<=a.toNat:=Nat.div_le_self _ _
 have h3:=a.toNat_lt
 grind
theorem dig4:[Aj (AP (Be (Ar l)) (UInt64.ofNat 24).toNat),Aj (AP (Be (Ar l)) (UInt64.ofNat 16).toNat),Aj (AP (Be (Ar l)) (UInt64.ofNat 8).toNat),Aj (Be (Ar l))]=dw l:=by
 rw[u32shr_eq zh,u32shr_eq zh,u32shr_eq zh,QP,aj,Yh];rfl
theorem rf4(h:l.length<4294967296):[D5 (Bc (l.length:Int) (UInt64.ofNat 24).toNat),D5 (Bc (l.length:Int) (UInt64.ofNat 16).toNat),D5 (Bc (l.length:Int) (UInt64.ofNat 8).toNat),D5 (l.length:Int)]=dw l:=by
 rw[ishr_eq zh,ishr_eq zh,ishr_eq zh]
 simp only[iu8_eq]
 exact ref4 _ h
theorem frameB_snoc(tag:Int)(ls:List (List UInt8))(i:Nat)(l:List UInt8)(h:ls[i]?=some l):Bh tag (ls.take (i+1))=Bh tag (ls.take i)++dw l++l:=by
 simp_all[Bh,fieldsB_snoc]
theorem frameB_le(tag:Int)(ls:List (List UInt8))(i:Nat):(Bh tag (ls.take i)).length<=(Bh tag ls).length:=by
 grind[Bh,fieldsB,List.take_append_drop]
abbrev jT:Ty:=.pair .i64 (.pair .i64 (.pair .i64 (.pair (.sl .u8) (.sl .u8))))
abbrev jU:Ty:=.pair (.sl .u8) (.pair (.sl .u8) (.sl .u8))
abbrev objT:Ty:=.pair jT (.pair jU .i64)
abbrev FU:Ty:=.pair .i64 (.pair .i64 (.pair .i64 (.pair .i64 (.pair (.sl .u8) (.pair (.sl .u8) (.pair .bool (.sl .u8)))))))
abbrev IJ:Ty:=.pair (.sl .u8) .i64
abbrev Gi:Ty:=.pair .i64 (.pair (.sl .u8) (.pair (.sl .u8) (.pair .i64 (.pair .i64 (.pair .i64 (.pair .i64 .bool))))))
abbrev MR:Ty:=.pair .i64 (.pair (.sl .u8) (.sl .u8))
end Go.Ax
