/-
  Own texts, laid together for this claim: the rules that every walk uses, which claim nothing of any program.
-/
import Derived.Deep.Upon
import Derived.Test.YtnhgnfdbdflhcaaGreatDoorMga
set_option linter.all false
namespace Go.Ax
open Go Go.RowKit Go.Eng
set_option linter.unusedVariables false
set_option linter.unusedSimpArgs false
variable {t:TypeId}
section
variable {P:Program}{I:World->Prop}{L:LX}{ty:TypeId}{T:TT}{R:Type}{K:Tr->Option R}{r:R}{hk:Nat->Option Rs}{m:Nat}
theorem MX{a:Option AV}{K:AV->Option R}(h:evK a K=some r):∃ s,a=some s/\K s=some r:=by
 unfold evK at h
 grind
theorem TrOK.mkN{op:Op}{s:AV}{Rr:Rs} (h:∀(c:Cx) (e:Operand->Value) (ty:TypeId),Good I c->W9 c L e->¬c.N m->∃ v w',(execOp e ⟨none,op,ty, "", #[],none⟩).run P c.w=.ok (.value v) w'/\∃ ν',Ok c [] [(m,Rr)] s v w' ν'):TrOK P I L hk m op ⟨s,[],[(m,Rr)],false,1⟩:=by
 refine⟨fun ty=>Hq fun c e hG he hP=>?_,(fun q R' hq=>by cases hq),fun q hq=>.inr ?_,(fun h=>by cases h)⟩
 ·have hn:¬c.N m:=(hP.new m ((DI _ _ _).2 rfl)).elim (fun h=>absurd h (J3 m)) id
  simp_all
 simp_all[DI]
theorem Ok.newvar{c:Cx}{k:Nat}{us:List Value}{cells:List AV}{t:Nat}(hk:¬c.N k)(hcs:Ai c cells us)(h1:∀ u∈us,u.oneCell'=true)(hG:∀ b,c.O b->b<c.w.heap.size):Ok c [] [(k,.var cells)] (.pa k 0) (.pointer (some ⟨c.w.heap.size,0,none⟩)) (c.w.alloc (.cells us.toArray t)) (fun q=>if q=k then .pointer (some ⟨c.w.heap.size,0,none⟩) else c.ν q):=by
 have hkk:(if k=k then Value.pointer (some ⟨c.w.heap.size,0,none⟩) else c.ν k)=.pointer (some ⟨c.w.heap.size,0,none⟩):=if_pos rfl
 have hs:Stp No c.w (c.w.alloc (.cells us.toArray t)):=Stp.of_ext (Ext.alloc c.w _) _
 have hle:Cx.Le none c ⟨fun q=>c.N q\/q=k,fun q=>if q=k then .pointer (some ⟨c.w.heap.size,0,none⟩) else c.ν q,fun b=>c.O b\/blk (Value.pointer (some ⟨c.w.heap.size,0,none⟩))=some b,c.w.alloc (.cells us.toArray t)⟩ :=
  ⟨fun q _ h=>⟨.inl h,if_neg fun(e:q=k)=>hk (e▸h)⟩,fun w'' h=>hs.then h (fun i _ h=>h.elim) fun i hi hO=>by
   grind[blk]⟩
 refine Ok.new hk hs (fun b hb=>?_) ⟨c.w.heap.size,us,hkk,⟨t,by rw[heap_alloc_new]⟩,Ai.le hle _ _ (EM _) hcs,h1⟩ ?_
 ·simp_all[blk]
 ·simp only[Rep];exact⟨.inr trivial,c.w.heap.size,by simp[blk],rfl⟩
theorem NY(c:Cx):∀ l:List Value,Ai c (l.map AV.of) l
 | []=>by simp[Ai]
 | a::r=>by simp only[List.map_cons,Ai];exact⟨a,r,rfl,AV.of_rep c a,NY c r⟩
theorem rG(hT:TTok P I T)(h:(match UW t T with|some i=>K ⟨.pa m 0,[],[(m,.var i.zero)],false,1⟩|none=>none)=some r):∃ tr,K tr=some r/\TrOK P I L hk m (.alloc t) tr:=by
 split at h
 ·rename_i i hi
  obtain⟨z,hz,hzc,hzs,hone,_⟩:=(hT _ _ hi).zero
  refine⟨_,h,TrOK.mkN fun c e ty hG he hn=>?_⟩
  obtain⟨inf,hinf,hq⟩:=Option.map_eq_some_iff.1 hz
  simp only[Prod.mk.injEq] at hq
  refine⟨_,c.w.alloc (.cells z.cells t),?_,_,Ok.newvar (us:=z.cells.toList) hn (by grind[NY]) (List.all_eq_true.1 hone) hG.lt⟩
  have h1:execOp e ⟨none,.alloc t,ty, "", #[],none⟩=(do pure (.value (<-Instr.alloc t true (.tuple #[])))):=rfl
  simp_all[Instr.alloc,zeroValue,typeInfo,newVar,newRow]
 ·cases h
theorem A1y{x:Operand}(h:(match(Gl L x).bind cellsA with|some l=>K ⟨.pa m 0,[],[(m,.var l)],false,1⟩|none=>none)=some r):∃ tr,K tr=some r/\TrOK P I L hk m (.box t x) tr:=by
 split at h
 ·rename_i l hl
  obtain⟨s,hs,hcl⟩:=Option.bind_eq_some_iff.1 hl
  refine⟨_,h,TrOK.mkN fun c e ty hG he hn=>?_⟩
  obtain⟨us,h1,h2,h3⟩:=OC (he x _ hs) hcl
  refine⟨_,c.w.alloc (.cells us.toArray t),?_,_,Ok.newvar hn h2 h3 hG.lt⟩
  have h0:execOp e ⟨none,.box t x,ty, "", #[],none⟩=(do pure (.value (<-Instr.box t (e x)))):=rfl
  simp_all[Instr.box,newVar,newRow]
 ·cases h
theorem Yn(off:Nat):∀(vs:List Value) (s:Nat) (cells:Array Value),off+s+vs.length<=cells.size ->
  ((vs.zipIdx s).foldl (fun(cs:Array Value) (x:Value×Nat)=>match x with|(c,j)=>cs.setIfInBounds (off+j) c) cells)=(cells.toList.take (off+s)++vs++cells.toList.drop (off+s+vs.length)).toArray
 | [],s,cells,h=>zam
 | v::r,s,cells,h=>by
  simp only[List.length_cons] at h
  simp only[List.zipIdx_cons,List.foldl_cons]
  rw[Yn off r (s+1) _ zaC]
  have e:=list_seg_step cells.toList (off+s) v r zaC
  rw[Array.toList_setIfInBounds]
  congr 1
theorem xU{c:Cx}{e:Operand->Value}(he:W9 c L e)(pl:List (Nat×Nat))(place:Nat->Option (Nat×Nat))(hpl:∀ i q,pl[i]?=some q->place i=some q):∀(ps:List (Nat×Operand)) (cells:List AV) (us:List Value) (out:List AV),Ai c cells us->(∀ u∈us,u.oneCell'=true)->Xo pl (Gl L) cells ps=some out ->
  ∃ vs,Instr.fill place us.toArray (ps.map fun(i,x)=>(i,e x))=some vs.toArray/\Ai c out vs/\∀ u∈vs,u.oneCell'=true
 | [],cells,us,out,h,h1,hb=>by simp only[Xo,Option.some.injEq] at hb;subst hb;exact⟨us,rfl,h,h1⟩
 | (i,x)::r,cells,us,out,h,h1,hb=>by
  simp only[Xo] at hb
  split at hb
  ·rename_i f n l hp hc
   obtain⟨s,hs,hl⟩:=Option.bind_eq_some_iff.1 hc
   cases hcond:(Nat.beq l.length n&&Nat.ble (f+n) cells.length) with
   | false=>simp_all
   | true =>
    rw[hcond] at hb
    simp only[Bool.and_eq_true,cond_true] at hb hcond
    have hn:l.length=n:=zaD
    have hle:f+n<=cells.length:=zaD
    obtain⟨ws,e1,e2,e3⟩:=OC (he x s hs) hl
    have hwl:=e2.len
    have hul:=h.len
    have:=xU he pl place hpl r _ (us.take f++ws++us.drop (f+ws.length)) out (h.set e2 f) (fun u hu=>(xR hu).elim (h1 u) (e3 u)) hb
    obtain⟨vs,g1,g2⟩:=this
    refine⟨vs,?_,g2⟩
    simp only[List.map_cons,Instr.fill,hpl i _ hp,e1]
    simp_all[Yn]
  ·cases hb
theorem A1z(hT:TTok P I T){pl:List (Nat×Nat)}(hp:xP T t=some pl){z:Value}{i:TypeInfo}(hi:P.info? t=some i)(hz:i.zero=some z):∃ place:Nat->Option (Nat×Nat),(∀ i q,pl[i]?=some q->place i=some q)/\∀ parts cs,Instr.fill place z.cells parts=some cs->P.built t parts=some cs:=by
 unfold xP at hp
 split at hp
 ·rename_i ti hti
  have hu:=(hT _ _ hti).und
  split at hp
  ·rename_i pl' sc he
   obtain rfl:=Option.some.inj hp
   rw[he] at hu
   have h1:=hu.1
   unfold Yh at h1
   split at h1
   ·rename_i fs hfs
    exact⟨fun i=>pl'.toArray[i]?,fun i q hq=>by grind,fun parts cs hcs=>by simp_all[Program.built]⟩
   ·cases h1
  ·rename_i n el he
   rw[he] at hu
   split at hp
   ·rename_i te hte
    obtain rfl:=Option.some.inj hp
    obtain⟨ie,hie,hs⟩:=Option.map_eq_some_iff.1 (hT _ _ hte).sz
    refine⟨fun i=>some (i*te.size,te.size),fun j q hq=>?_,fun parts cs hcs=>?_⟩
    ·grind
    simp_all[Program.built]
   ·cases hp
  ·cases hp
 ·cases hp
theorem rH(hT:TTok P I T){parts:Array (Nat×Operand)}(h:(match xP T t,UW t T with|some pl,some i=>(match Xo pl (Gl L) i.zero parts.toList with|some l=>K (.pure (.agg l))|none=>none)|_,_=>none)=some r):∃ tr,K tr=some r/\TrOK P I L hk m (.build t parts) tr:=by
 split at h
 ·rename_i pl i hpl hi
  split at h
  ·rename_i l hb
   obtain⟨z,hz,hzc,hzs,hone,_⟩:=(hT _ _ hi).zero
   obtain⟨inf,hinf,hq⟩:=Option.map_eq_some_iff.1 hz
   simp only[Prod.mk.injEq] at hq
   obtain⟨place,hp,hf⟩:=A1z hT hpl hinf hq.1
   refine⟨_,h,TrOK.mk0 fun ty=>DY fun c e hG he=>?_⟩
   obtain⟨vs,g1,g2,g3⟩:=xU he pl place hp parts.toList i.zero z.cells.toList l (by grind[NY]) (List.all_eq_true.1 hone) hb
   refine⟨.agg vs.toArray,?_,by simp only[Rep];simp_all⟩
   have h2:execOp e ⟨none,.build t parts,ty, "", #[],none⟩=(do pure (.value (<-Instr.build t (parts.map fun(i,x)=>(i,e x))))):=rfl
   simp_all[run_build]
  ·cases h
 ·cases h
theorem kV{c:Cx}{d:TypeDesc}{n o:Nat}{l:List AV}{us:List Value}{s:AV}{w:World}(ht:P.underlying t=some d)(hn:(P.info? t).map (·.size)=some n)(h:JV (Oi d) n (l.drop o)=some s)(hr:Ai c l us)(h1:∀ u∈us,u.oneCell'=true):∃ v,(part t us.toArray o).run P w=.ok v w/\Rep c s v:=by
 obtain⟨inf,hinf,hs⟩:=Option.map_eq_some_iff.1 hn
 unfold JV at h
 cases hd:Oi d with
 | true =>
  rw[hd] at h
  simp only[cond_true,List.head?_drop] at h
  obtain⟨u,hu,hr'⟩:=hr.get h
  have hagg:(isAgg t).run P w=.ok false w:=by
   simp only[isAgg,Sem.run_bind,run_underlying ht,Result.andThen_ok]
   cases d<;>first|(cases hd;done)|rfl
  simp_all[part]
 | false =>
  rw[hd] at h
  simp only[cond_false] at h
  cases hle:Nat.ble n (l.drop o).length with
  | false=>simp_all
  | true =>
   rw[hle] at h
   obtain rfl:=Option.some.inj h
   have hle:n<=(l.drop o).length:=by simpa using hle
   have hlen:=hr.len
   have hagg:(isAgg t).run P w=.ok true w:=by
    simp only[isAgg,Sem.run_bind,run_underlying ht,Result.andThen_ok]
    cases d<;>first|(cases hd;done)|rfl
   refine⟨.agg ((us.drop o).take n).toArray,?_,by simp only[Rep];exact⟨_,rfl,(hr.drop o).take n,fun u hu=>h1 u (List.mem_of_mem_drop (List.mem_of_mem_take hu))⟩⟩
   simp_all[part,sizeOf,typeInfo]
theorem rJ(hT:TTok P I T){x:Operand}{f:Nat} (h:(match Xy T t,Gl L x with
  | some (.fld pl sc),some (.agg l)=>(match pl[f]?,sc[f]? with
   | some (o',n),some b=>evK (JV b n (l.drop o')) fun s=>K (.pure s)
   | _,_=>none)
  | _,_=>none)=some r):∃ tr,K tr=some r/\TrOK P I L hk m (.field t x f) tr:=by
 split at h
 ·rename_i pl sc l hu hx
  obtain⟨hp,hs⟩:=A1w hT hu
  split at h
  ·rename_i o' n b h1 h2
   obtain⟨s,hl,h⟩:=MX h
   refine⟨_,h,TrOK.mk0 fun ty=>DY fun c e hG he=>?_⟩
   obtain⟨fs,fd,i,g1,g2,g3,rfl,rfl⟩:=kT hp h1
   obtain⟨fs',fd',d,k1,k2,k3,rfl⟩:=A1x hs h2
   rw[g1] at k1
   simp only[Option.some.injEq,TypeDesc.struct.injEq] at k1
   subst k1
   rw[g2] at k2
   obtain rfl:=Option.some.inj k2
   have hv:=he x _ hx
   simp only[Rep] at hv
   obtain⟨us,hu,hr,hone⟩:=hv
   obtain⟨v,hv,hrv⟩:=kV (P:=P) (w:=c.w) k3 (by rw[g3];rfl) hl hr hone
   refine⟨v,?_,hrv⟩
   have h0:execOp e ⟨none,.field t x f,ty, "", #[],none⟩=(do pure (.value (<-Instr.field t (e x) f))):=rfl
   simp_all[Instr.field,run_underlying,asAgg]
  ·cases h
 ·cases h
theorem zk{src dst:TypeId}{dd:Und}{x:AV}{K:AV->Option R}(h:Q7 dd x K=some r){is id:TI}(hs:TOK P src is)(hd:TOK P dst id)(hdd:id.u=dd):∃ s,K s=some r/\∀(c:Cx) (u:Value) (w:World),Rep c x u->∃ v,(convert src dst u).run P w=.ok v w/\Rep c s v:=by
 obtain⟨d0,hsrc,_⟩:=hs.plain
 have hu:=hd.und
 rw[hdd] at hu
 have num:∀ {w:World} {k k':IntKind} {a:Int},P.underlying dst=some (.int k')->(convert src dst (.int k a)).run P w=.ok (.int k' (k'.wrap a)) w:=fun h=>A1J src dst _ _ _ hsrc h
 unfold Q7 at h
 try simp only[xN,xO] at h
 split at h
 ·exact⟨_,h,fun c u w hx=>by simp_all[Rep,i64w0]⟩
 ·exact⟨_,h,fun c u w hx=>by simp_all[Rep,iu80,byteV,XH]⟩
 ·exact⟨_,h,fun c u w hx=>by simp_all[Rep,iu320,G7,UG]⟩
 ·exact⟨_,h,fun c u w hx=>by simp_all[Rep,iu640,KO,UH]⟩
 ·rename_i a
  exact⟨_,h,fun c u w hx=>by simp only[Rep] at hx;subst hx;exact⟨_,num hu,by have:=a.toNat_lt;grind[Rep,u8i0,IntWalk.i64_in]⟩⟩
 ·rename_i a
  exact⟨_,h,fun c u w hx=>by simp_all[Rep,byteV,wrap_u8]⟩
 ·rename_i a
  exact⟨_,h,fun c u w hx=>by simp only[Rep] at hx;subst hx;exact⟨_,num hu,by have:=a.toNat_lt;simp only[Rep,u8u640];rw[IntWalk.u64_in _ zaa];simp[KO]⟩⟩
 ·rename_i a
  exact⟨_,h,fun c u w hx=>by simp only[Rep] at hx;subst hx;exact⟨_,num hu,by have:=a.toNat_lt;simp only[Rep,u8u320];rw[IntWalk.u32_in _ zaa];simp[G7]⟩⟩
 ·exact⟨_,h,fun c u w hx=>by simp only[Rep] at hx;subst hx;exact⟨_,num hu,by simp only[Rep,u64i0]⟩⟩
 ·rename_i a
  exact⟨_,h,fun c u w hx=>by simp only[Rep] at hx;subst hx;exact⟨_,num hu,by simp_all[Rep,u64u80,IntKind.wrap_u8,byteV]⟩⟩
 ·rename_i a
  exact⟨_,h,fun c u w hx=>by simp_all[Rep,KO,wrap_u64]⟩
 ·rename_i a
  exact⟨_,h,fun c u w hx=>by simp only[Rep] at hx;subst hx;exact⟨_,num hu,by simp_all[Rep,u32u80,IntKind.wrap_u8,byteV]⟩⟩
 ·rename_i l
  refine⟨_,h,fun c u w hx=>?_⟩
  simp_all[Rep,convert,run_underlying]
 ·cases h
end
end Go.Ax
namespace Go.Ax
open Go Go.RowKit Go.Eng
set_option linter.unusedVariables false
set_option linter.unusedSimpArgs false
variable {c:Cx}{x:Operand}{t:TypeId}{w:World}{v:Value}{j:Operand}{n:Nat}
theorem A4W(w:World)(O:Nat->Prop)(b:Nat)(hO:O b):Stp O w {w with heap:=w.heap.setIfInBounds b (.cells #[] 0 (0,0))} :=
 ⟨rfl,rfl,rfl,by simp,fun i hi hn=>by
  grind⟩
theorem settled{O:Nat->Prop}{p:Addr}{u:Value}(h:∀ w',Stp O w w'->∃ u',w'.cell? p=some u')(hu:w.cell? p=some u):∀ w',Stp O w w'->w'.cell? p=some u:=by
 intro w' hs
 have hb:=World.block_lt_of_cell? w p hu
 have hno:¬O p.block:=fun hO=>by
  obtain⟨u',hu'⟩:=h _ (A4W w O p.block hO)
  grind[World.cell?]
 rw[World.cell?_of_block (hs.block p.block hb hno)]
 exact hu
theorem XO{β:Type}(sz:Nat):∀(cs ds:List (List β)),(∀ c∈cs,c.length=sz)->(∀ c∈ds,c.length=sz)->cs.length=ds.length->cs.flatten=ds.flatten->cs=ds
 | [],[],_,_,_,_=>rfl
 | a::cs,b::ds,h1,h2,hl,h=>by
  simp only[List.flatten_cons] at h
  have hab:=List.append_inj h zaD
  rw[hab.1,XO sz cs ds (fun c hc=>h1 c (List.mem_cons_of_mem _ hc)) (fun c hc=>h2 c (List.mem_cons_of_mem _ hc)) zaJ hab.2]
 | [],_::_,_,_,h,_|_::_,[],_,_,h,_=>zbC
theorem F6.crlens{τ:Ty}{w:World}:∀ {l:List (El τ)} {cs:List (List Value)},F6 (fun x m=>CR τ x m w) l cs->∀ m∈cs,m.length=τ.n
 | [],[],_,m,hm=>by simp at hm
 | x::l,a::cs,h,m,hm=>by
  rcases List.mem_cons.1 hm with rfl|hm
  ·exact h.1.len
  ·exact F6.crlens h.2 m hm
 | [],_::_,h,_,_|_::_,[],h,_,_=>h.elim
theorem F6.all{α β γ:Type}{p:γ->Prop}{R:γ->α->β->Prop}:∀ {l:List α} {m:List β},(∃ g,p g)->(∀ g,p g->F6 (R g) l m)->F6 (fun a b=>∀ g,p g->R g a b) l m
 | [],[],_,_=>trivial
 | a::l,b::m,hp,h=>⟨fun g hg=>(h g hg).1,F6.all hp fun g hg=>(h g hg).2⟩
 | [],b::m,⟨g,hg⟩,h|a::l,[],⟨g,hg⟩,h=>(h g hg).elim
theorem MZ{τ:Ty}{l:List (El τ)}(h:∀ w',Stp c.O c.w w'->Rd τ l v w'):∃ a cap cs,v=.slice a l.length cap/\l.length<=cap/\cap<=maxLen/\(a=none->l.length=0/\cap=0)/\F6 (fun x m=>Ai c (flat τ x) m) l cs/\∀ w',Stp c.O c.w w'->∀ p,a=some p->Cs w' p cs.flatten:=by
 obtain⟨cs,h1,a,cap,rfl,h2,h3,h4,h5,h6⟩:=h c.w (Stp.refl _ _)
 have hl:=F6.crlens h1
 have key:∀ w',Stp c.O c.w w'->F6 (fun x m=>CR τ x m w') l cs/\∀ p,a=some p->Cs w' p cs.flatten:=by
  intro w' hs
  obtain⟨ds,g1,a',cap',g2,g3,_,_,g5,g6⟩:=h w' hs
  simp only[Value.slice.injEq] at g2
  obtain⟨rfl,_,rfl⟩:=g2
  have hdl:=F6.crlens g1
  have hsame:cs=ds:=by
   cases a with
   | none =>
    have h0:=(h5 rfl).1
    have e1:cs=[]:=List.eq_nil_of_length_eq_zero (by rw[h1.len];exact h0)
    have e2:ds=[]:=List.eq_nil_of_length_eq_zero (by rw[g1.len];exact h0)
    rw[e1,e2]
   | some p =>
    refine XO τ.n cs ds hl hdl (by rw[h1.len,g1.len]) ?_
    apply List.ext_getElem?
    intro j
    by_cases hj:j<cs.flatten.length
    ·have e1:=h6 p rfl j _ (List.getElem?_eq_getElem hj)
     have hj':j<ds.flatten.length:=zaa
     have e2:=g6 p rfl j _ (List.getElem?_eq_getElem hj')
     have e3:=settled (O:=c.O) (fun w'' hs'=>by
      obtain⟨es,k1,a2,cap2,k2,k3,_,_,_,k6⟩:=h w'' hs'
      simp only[Value.slice.injEq] at k2
      have hj2:j<es.flatten.length:=zaa
      exact⟨_,k6 p k2.1.symm j _ (List.getElem?_eq_getElem hj2)⟩) e1 w' hs
     grind
    simp_all
  simp_all
 refine⟨a,cap,cs,rfl,h3,h4,h5,?_,fun w' hs=>(key w' hs).2⟩
 have:=F6.all (p:=fun w'=>Stp c.O c.w w') (R:=fun w' x m=>CR τ x m w') ⟨c.w,Stp.refl _ _⟩ fun w' hs=>(key w' hs).1
 exact this.mono fun x m hm=>CR.reps hm
section
variable {P:Program}{I:World->Prop}{L:LX}{ty:TypeId}{T:TT}{R:Type}{K:Tr->Option R}{r:R}{hk:Nat->Option Rs}{m:Nat}
theorem A6a{s:AV}{i:Int}(h:LM s=some i)(hr:Rep c s v):∃ k,v=.int k i:=by
 unfold LM at h
 simp only[xI] at h
 split at h
 ·simp only[Rep] at hr;simp_all
 ·simp only[Rep] at hr;obtain rfl:=Option.some.inj h;exact⟨_,hr⟩
 ·simp only[Rep] at hr;obtain rfl:=Option.some.inj h;exact⟨_,hr⟩
 ·simp only[Rep] at hr;obtain rfl:=Option.some.inj h;exact⟨_,hr⟩
 ·cases h
theorem L6{e:Operand->Value}(he:W9 c L e){i:Int}(h:(Gl L j).bind LM=some i):∃ k,e j=.int k i:=by
 obtain⟨s,h1,h2⟩:=Option.bind_eq_some_iff.1 h
 exact A6a h2 (he j s h1)
theorem L8(hT:TTok P I T){el:TypeId}{ei:TI}(h:Xp T t=some (el,ei)):∃ z,SliceT P t el z ei.size ei.bytes/\TOK P el ei/\z.cells.toList.map AV.of=ei.zero/\z.cells.toList.all (·.oneCell')=true/\0<ei.bytes:=by
 unfold Xp at h
 split at h
 ·rename_i i hi
  split at h
  ·rename_i el' hu
   split at h
   ·rename_i e he
    cases hb:Nat.blt 0 e.size with
    | false=>simp_all
    | true =>
     rw[hb] at h
     simp only[cond_true,Option.some.injEq,Prod.mk.injEq] at h
     obtain⟨rfl,rfl⟩:=h
     have hq:=(hT _ _ hi).und
     rw[hu] at hq
     have hte:=hT _ _ he
     obtain⟨z,h1,h2,h3,h4,h5⟩:=hte.zero
     exact⟨z,⟨hq,h1,h3,by simpa using hb⟩,hte,h2,h4,h5⟩
   ·cases h
  ·cases h
 ·cases h
theorem rM{e:Operand->Value}{x j:Operand}{t el:TypeId}{z:Value}{sz bytes n cap:Nat}{p:Addr}{k:IntKind}{i:Int}{w:World}(T:SliceT P t el z sz bytes)(hx:e x=.slice (some p) n cap)(hj:e j=.int k i)(b:0<=i/\i<n):
  (execOp e ⟨none,.indexAddr t x j,ty, "", #[],none⟩).run P w=.ok (.value (.pointer (some (p.add (i.toNat*sz))))) w:=by
 have h1:execOp e ⟨none,.indexAddr t x j,ty, "", #[],none⟩=(do pure (.value (<-Instr.indexAt t (e x) (e j)))):=rfl
 rw[h1,hx,hj]
 simp only[Instr.indexAt,asIntOf,Sem.run_bind,Sem.run_pure,Result.andThen_ok,run_underlying T.ht]
 rw[if_pos b]
 simp[T.run_size]
theorem xW{c:Cx}{e:Operand->Value}{x j:Operand}{t el:TypeId}{z:Value}{bytes:Nat}{τ:Ty}{l:List (El τ)}{k:IntKind}{i:Int}{a:El τ}(T:SliceT P t el z τ.n bytes)(hx:∀ w',Stp c.O c.w w'->Rd τ l (e x) w')(hj:e j=.int k i)(ha:lget0 l i=some a):
  ∃ v,(execOp e ⟨none,.indexAddr t x j,ty, "", #[],none⟩).run P c.w=.ok (.value v) c.w/\Rep c (.pt (flat τ a)) v:=by
 obtain⟨b,cap,cs,h1,h2,h3,h4,h5,h6⟩:=MZ hx
 obtain⟨hi,hla⟩:=RI ha
 have hlt:i.toNat<l.length:=(List.getElem?_eq_some_iff.1 hla).1
 cases b with
 | none=>simp_all
 | some p =>
  obtain⟨us,hus,hru⟩:=h5.get hla
  refine⟨_,rM T h1 hj ⟨hi,by omega⟩,?_⟩
  simp only[Rep]
  refine⟨_,us,rfl,hru,UQ hru,fun w' hs=>?_⟩
  have hc:=(h6 w' hs p rfl).drop (i.toNat*τ.n)
  obtain⟨rest,hrest⟩:=Tn τ.n cs i.toNat us (F6.lens h5) hus
  rw[hrest] at hc
  intro q u hq
  refine hc q u ?_
  grind
theorem bn{e sz:Nat}{vs:List Value}(h:w.ownsG 0 e sz v n vs)(hn:0<n):∃ g cap,v=.slice (some ⟨g,0,none⟩) n cap:=by
 rcases h.2 with⟨_,h0⟩|⟨g,cap,cur,fz,rfl,_⟩
 ·omega
 ·exact⟨g,cap,rfl⟩
theorem Tq{e sz:Nat}{vs:List Value}(h:w.ownsG 0 e sz v n vs):∃ a cap,v=.slice a n cap:=by
 rcases h.2 with⟨rfl,rfl⟩|⟨g,cap,cur,fz,rfl,_⟩
 ·exact⟨_,_,rfl⟩
 ·exact⟨_,_,rfl⟩
theorem Hl{a b:Nat}(h:Nat.beq a b=true):a=b:=za0
theorem A20(hT:TTok P I T)(h:bU T hk t (Gl L x) ((Gl L j).bind LM) K=some r):∃ tr,K tr=some r/\TrOK P I L hk m (.indexAddr t x j) tr:=by
 unfold bU at h
 try simp only[xN,xO] at h
 split at h
 ·rename_i g i hx hj
  unfold A6X at h
  simp only[O9,PW] at h
  split at h
  ·rename_i ti hti
   split at h
   ·rename_i n el l hu' hgl
    have hq:=(hT _ _ hti).und
    rw[hu'] at hq
    have hq:P.underlying t=some (.array n el):=hq
    split at h
    ·rename_i e hel
     cases h0:Nat.beq e.size 1 with
     | false=>simp_all
     | true =>
      cases h1:ile0 0 i with
      | false=>simp_all
      | true =>
       cases h2:ilt0 i n with
       | false=>simp_all
       | true =>
        rw[h0,h1,h2] at h
        simp only[cond_true] at h
        obtain⟨xx,hxx,h⟩:=Option.bind_eq_some_iff.1 h
        have h1:0<=i:=by grind[ile0]
        have h2:i<n:=by grind[ilt0]
        have hxx:l[i.toNat]?=some xx:=by simp_all[Nw,lget0]
        refine⟨_,h,TrOK.mk0 fun ty=>DY fun c ev hG he=>?_⟩
        obtain⟨kk,hjv⟩:=L6 he hj
        have hv:=he x _ hx
        simp only[Rep] at hv
        obtain⟨inf,hinf,hs⟩:=Option.map_eq_some_iff.1 (hT _ _ hel).sz
        refine⟨.pointer (some ⟨g,i.toNat,none⟩),?_,?_⟩
        ·have h3:execOp ev ⟨none,.indexAddr t x j,ty, "", #[],none⟩=(do pure (.value (<-Instr.indexAt t (ev x) (ev j)))):=rfl
         rw[h3,hv,hjv]
         simp only[Instr.indexAt,asIntOf,Sem.run_bind,Sem.run_pure,Result.andThen_ok,run_underlying hq,Instr.sureAddr]
         simp_all[sizeOf,typeInfo,add_lit]
        ·simp only[Rep]
         refine⟨_,[G7 xx],rfl,by simp[Ai,Rep],by simp[Value.oneCell',G7],fun w' hw' j u hu=>?_⟩
         cases j with
         | zero =>
          obtain rfl:G7 xx=u:=zaJ
          have:=hT.gl _ _ _ _ hti hgl w' (hG.inv w' hw') _ _ hxx
          simp_all[add_lit]
         | succ j=>simp at hu
    ·cases h
   ·cases h
  ·cases h
 ·rename_i k o i hx hj
  split at h
  ·rename_i n el hu
   obtain⟨ti,hti,hu'⟩:=JP hu
   have hq:=(hT _ _ hti).und
   rw[hu'] at hq
   have hq:P.underlying t=some (.array n el):=hq
   split at h
   ·rename_i e hel
    cases h1:ile0 0 i with
    | false=>simp_all
    | true =>
     cases h2:ilt0 i n with
     | false=>simp_all
     | true =>
      rw[h1,h2] at h
      have h1:0<=i:=by grind[ile0]
      have h2:i<n:=by grind[ilt0]
      refine⟨_,h,TrOK.mk0 fun ty=>DY fun c ev hG he=>?_⟩
      obtain⟨kk,hjv⟩:=L6 he hj
      have hv:=he x _ hx
      simp only[Rep] at hv
      obtain⟨hN,b,hb,hu⟩:=hv
      obtain⟨inf,hinf,hs⟩:=Option.map_eq_some_iff.1 (hT _ _ hel).sz
      refine⟨.pointer (some ⟨b,o+i.toNat*e.size,none⟩),?_,by simp only[Rep];simp_all⟩
      have h3:execOp ev ⟨none,.indexAddr t x j,ty, "", #[],none⟩=(do pure (.value (<-Instr.indexAt t (ev x) (ev j)))):=rfl
      rw[h3,hu,hjv]
      simp only[Instr.indexAt,asIntOf,Sem.run_bind,Sem.run_pure,Result.andThen_ok,run_underlying hq,Instr.sureAddr]
      simp_all[sizeOf,typeInfo,add_lit]
   ·cases h
  ·cases h
 ·rename_i a i hgp hne hx hj
  split at h
  ·rename_i el ei hsl
   obtain⟨z,hS,hte,_⟩:=L8 hT hsl
   split at h
   ·rename_i τ l
    cases h1:Nat.beq ei.size τ.n with
    | false=>simp_all
    | true =>
     rw[h1] at h
     rw[Hl h1] at hS
     simp only[cond_true] at h
     obtain⟨a,ha,h⟩:=Option.bind_eq_some_iff.1 h
     refine⟨_,h,TrOK.mk0 fun ty=>DY fun c ev hG he=>?_⟩
     obtain⟨kk,hjv⟩:=L6 he hj
     have hv:=he x _ hx
     simp only[Rep] at hv
     exact xW hS hv hjv ha
   ·rename_i τ l
    cases h1:Nat.beq ei.size τ.n with
    | false=>simp_all
    | true =>
     rw[h1] at h
     rw[Hl h1] at hS
     simp only[cond_true] at h
     obtain⟨a,ha,h⟩:=Option.bind_eq_some_iff.1 h
     refine⟨_,h,TrOK.mk0 fun ty=>DY fun c ev hG he=>?_⟩
     obtain⟨kk,hjv⟩:=L6 he hj
     have hv:=he x _ hx
     simp only[Rep] at hv
     exact xW hS hv.2 hjv ha
   ·rename_i k
    split at h
    ·rename_i e τ l hkk
     cases h1:Nat.beq ei.size τ.n with
     | false=>simp_all
     | true =>
      cases h2:linb0 l i with
      | false=>simp_all
      | true =>
       rw[h1,h2] at h
       rw[Hl h1] at hS
       have h2:0<=i/\i<l.length:=by grind[linb0]
       refine⟨_,h,TrOK.look hkk fun c ev ty hG he hN hH hO=>?_⟩
       obtain⟨kk,hjv⟩:=L6 he hj
       have hv:=he x _ hx
       simp only[Rep] at hv
       obtain⟨vs,h3,h4,h5⟩:=hH
       obtain⟨g,cap,hg⟩:=bn h3 zaa
       refine⟨_,rM hS (hv.2.1.trans hg) hjv h2,?_⟩
       simp only[Rep,add_lit]
       exact⟨hN,g,by rw[hg];rfl,by simp⟩
    ·rename_i e sz n cells hkk
     cases h1:Nat.beq ei.size sz with
     | false=>simp_all
     | true =>
      cases h2:ile0 0 i with
      | false=>simp_all
      | true =>
       cases h3:ilt0 i n with
       | false=>simp_all
       | true =>
        rw[h1,h2,h3] at h
        rw[Hl h1] at hS
        have h2:0<=i:=by grind[ile0]
        have h3:i<n:=by grind[ilt0]
        refine⟨_,h,TrOK.look hkk fun c ev ty hG he hN hH hO=>?_⟩
        obtain⟨kk,hjv⟩:=L6 he hj
        have hv:=he x _ hx
        simp only[Rep] at hv
        obtain⟨vs,h4,h5,h6⟩:=hH
        obtain⟨g,cap,hg⟩:=bn h4 zaa
        refine⟨_,rM hS (hv.2.1.trans hg) hjv ⟨h2,h3⟩,?_⟩
        simp only[Rep,add_lit]
        exact⟨hN,g,by rw[hg];rfl,by simp⟩
    ·cases h
   ·cases h
  ·cases h
 ·cases h
theorem A4X(hT:TTok P I T)(h:zX T t (Gl L x) ((Gl L j).bind LM) K=some r):∃ tr,K tr=some r/\TrOK P I L hk m (.index t x j) tr:=by
 unfold zX at h
 try simp only[xN,xO] at h
 split at h
 ·rename_i l i hx hj hu
  obtain⟨ti,hti,hu'⟩:=JP hu
  have hq:=(hT _ _ hti).und
  rw[hu'] at hq
  have hq:P.underlying t=some .string:=hq
  obtain⟨a,ha,h⟩:=Option.bind_eq_some_iff.1 h
  obtain⟨hi,hla⟩:=RI ha
  refine⟨_,h,TrOK.mk0 fun ty=>DY fun c ev hG he=>?_⟩
  obtain⟨kk,hjv⟩:=L6 he hj
  have hv:=he x _ hx
  simp only[Rep] at hv
  refine⟨byteV a,?_,by simp only[Rep]⟩
  have h3:execOp ev ⟨none,.index t x j,ty, "", #[],none⟩=(do pure (.value (<-Instr.index t (ev x) (ev j)))):=rfl
  have hget:(if 0<=i then(⟨l.toArray⟩:ByteArray)[i.toNat]? else none)=some a:=by
   rw[if_pos hi]
   have hlt:i.toNat<l.length:=(List.getElem?_eq_some_iff.1 hla).1
   have hsz:i.toNat<(⟨l.toArray⟩:ByteArray).size:=by grind[ByteArray.size]
   rw[getElem?_pos (⟨l.toArray⟩:ByteArray) i.toNat hsz]
   have:=(List.getElem?_eq_some_iff.1 hla).2
   rw[<-this]
   rfl
  rw[h3,hv,hjv]
  simp only[Instr.index,asIntOf,Sem.run_bind,Sem.run_pure,Result.andThen_ok,run_underlying hq,hget]
  rfl
 ·rename_i l i n el hx hj hu
  obtain⟨ti,hti,hu'⟩:=JP hu
  have hq:=(hT _ _ hti).und
  rw[hu'] at hq
  have hq:P.underlying t=some (.array n el):=hq
  split at h
  ·rename_i e hel
   cases h0:(scalar e.u&&Nat.beq e.size 1&&Nat.beq l.length n) with
   | false=>simp_all
   | true =>
    cases h1:ile0 0 i with
    | false=>simp_all
    | true =>
     cases h2:ilt0 i n with
     | false=>simp_all
     | true =>
      rw[h0,h1,h2] at h
      simp only[Bool.and_eq_true] at h0
      have h1:0<=i:=by grind[ile0]
      have h2:i<n:=by grind[ilt0]
      simp only[cond_true] at h
      obtain⟨s,hs,h⟩:=MX h
      refine⟨_,h,TrOK.mk0 fun ty=>DY fun c ev hG he=>?_⟩
      obtain⟨kk,hjv⟩:=L6 he hj
      have hv:=he x _ hx
      simp only[Rep] at hv
      obtain⟨us,hu,hr,hone⟩:=hv
      obtain⟨d,hd,hpd⟩:=(hT _ _ hel).plain
      obtain⟨v,hv2,hrv⟩:=kV (P:=P) (w:=c.w) (o:=i.toNat) (n:=e.size) hd (hT _ _ hel).sz (by rw[hpd,h0.1.1];simp only[JV,cond_true,List.head?_drop];exact hs) hr hone
      refine⟨v,?_,hrv⟩
      have h3:execOp ev ⟨none,.index t x j,ty, "", #[],none⟩=(do pure (.value (<-Instr.index t (ev x) (ev j)))):=rfl
      obtain⟨inf,hinf,hsz⟩:=Option.map_eq_some_iff.1 (hT _ _ hel).sz
      have he1:e.size=1:=Hl h0.1.2
      simp_all[Instr.index,asIntOf,run_underlying,sizeOf,typeInfo]
  ·cases h
 ·cases h
theorem Ub{e:Operand->Value}{el:TypeId}{a:Option Addr}{cap:Nat}(ht:P.underlying t=some (.slice el))(hx:e x=.slice a n cap):
  (execOp e ⟨none,.call {callee:=.builtin .len,args := #[x],argTypes := #[t]},ty, "", #[],none⟩).run P w=.ok (.value (.int .i64 (n:Int))) w :=
 Ip e _ _ _ (by simp[builtin,Builtin.len_,hx,run_underlying ht,goInt])
theorem A21(hT:TTok P I T)(h:bW T t hk (Gl L x) K=some r):∃ tr,K tr=some r/\TrOK P I L hk m (.call {callee:=.builtin .len,args := #[x],argTypes := #[t]}) tr:=by
 have slU:∀ {el},Xy T t=some (.sl el)->P.underlying t=some (.slice el):=by
  intro el hu
  obtain⟨ti,hti,hu'⟩:=JP hu
  have hq:=(hT _ _ hti).und
  simp_all
 unfold bW at h
 try simp only[xN,xO] at h
 split at h
 ·rename_i el τ l hu hx
  refine⟨_,h,TrOK.mk0 fun ty=>DY fun c ev hG he=>?_⟩
  have hv:=he x _ hx
  simp only[Rep] at hv
  obtain⟨a,cap,cs,h1,_⟩:=MZ hv
  exact⟨_,Ub (slU hu) h1,by simp only[Rep];rfl⟩
 ·rename_i el τ l hu hx
  refine⟨_,h,TrOK.mk0 fun ty=>DY fun c ev hG he=>?_⟩
  have hv:=he x _ hx
  simp only[Rep] at hv
  obtain⟨a,cap,cs,h1,_⟩:=MZ hv.2
  exact⟨_,Ub (slU hu) h1,by simp only[Rep];rfl⟩
 ·rename_i el hu hx
  refine⟨_,h,TrOK.mk0 fun ty=>DY fun c ev hG he=>?_⟩
  have hv:=he x _ hx
  simp only[Rep] at hv
  exact⟨_,Ub (slU hu) hv,by grind[Rep]⟩
 ·rename_i l hu hx
  obtain⟨ti,hti,hu'⟩:=JP hu
  have hq:=(hT _ _ hti).und
  rw[hu'] at hq
  have hq:P.underlying t=some .string:=hq
  refine⟨_,h,TrOK.mk0 fun ty=>DY fun c ev hG he=>?_⟩
  have hv:=he x _ hx
  simp only[Rep] at hv
  refine⟨.int .i64 ((⟨l.toArray⟩:ByteArray).size:Int),Ip ev _ _ _ (by simp[builtin,Builtin.len_,hv,run_underlying hq,goInt]),by simp only[Rep];rfl⟩
 ·rename_i el k hu hx
  split at h
  ·rename_i e τ l hkk
   refine⟨_,h,TrOK.look hkk fun c ev ty hG he hN hH hO=>?_⟩
   have hv:=he x _ hx
   simp only[Rep] at hv
   obtain⟨vs,h3,_⟩:=hH
   obtain⟨a,cap,hg⟩:=Tq h3
   exact⟨_,Ub (slU hu) (hv.2.1.trans hg),by simp only[Rep];rfl⟩
  ·rename_i e sz n cells hkk
   refine⟨_,h,TrOK.look hkk fun c ev ty hG he hN hH hO=>?_⟩
   have hv:=he x _ hx
   simp only[Rep] at hv
   obtain⟨vs,h3,_⟩:=hH
   obtain⟨a,cap,hg⟩:=Tq h3
   exact⟨_,Ub (slU hu) (hv.2.1.trans hg),by simp only[Rep]⟩
  ·cases h
 ·cases h
end
end Go.Ax
namespace Go.Ax
open Go Go.RowKit Go.Eng
set_option linter.unusedVariables false
set_option linter.unusedSimpArgs false
variable {t:TypeId}{base:Nat}{l:List UInt8}{x:Operand}{e:Nat}{olo lo:Option Operand}{a:AV}{cap sz n:Nat}{w:World}{G:Fp}{isS:Bool}{v:Value}{xs:List Value}
theorem gU(c:Cx):∀(l:List UInt8),Ai c (flatL .u8 l) (l.map fun b=>Value.int .u8 b.toNat)
 | []=>by simp[flatL,Ai]
 | x::l=>by
  simp only[flatL,flat,List.map_cons,List.cons_append,List.nil_append,Ai]
  exact⟨_,_,rfl,by simp only[Rep];rfl,gU c l⟩
theorem Ot(h:w.ownsG base e sz v n xs):∀ b,blk v=some b->base<=b/\b<w.heap.size:=by
 intro b hb
 rcases h.2 with⟨rfl,_⟩|⟨g,cap,cur,fz,rfl,h2,h3,h4⟩
 ·cases hb
 ·simp only[blk,Option.some.injEq] at hb
  subst hb
  exact⟨h2,(Array.getElem?_eq_some_iff.1 h3).1⟩
theorem own_base{base':Nat}(h:w.ownsG base e sz v n xs)(hb:base'<=base):w.ownsG base' e sz v n xs:=by
 refine⟨h.1,?_⟩
 rcases h.2 with h2|⟨g,cap,cur,fz,h1,h2,h3⟩
 ·exact .inl h2
 ·exact .inr ⟨g,cap,cur,fz,h1,Nat.le_trans hb h2,h3⟩
theorem Uc(v:Value)(h:∃ a n c,v=.slice a n c):blk v=v.ownBlock:=by
 obtain⟨a,n,c,rfl⟩:=h
 cases a<;>rfl
theorem OD(h:w.ownsG base e sz v n xs):∃ a n c,v=.slice a n c:=by
 rcases h.2 with⟨rfl,_⟩|⟨g,cap,cur,fz,rfl,_⟩
 ·exact⟨_,_,_,rfl⟩
 ·exact⟨_,_,_,rfl⟩
theorem Ok.newM{c:Cx}{k e sz n:Nat}{Rr:Rs}{cells:List AV}{v:Value}{vs:List Value}{w':World}(hk:¬c.N k)(hG:∀ b,c.O b->b<c.w.heap.size)(hs:Stp No c.w w')(ho:w'.ownsG 0 e sz v n vs)(hbl:∀ b,blk v=some b->c.w.heap.size<=b)(hr:Ai c cells vs)(h1:∀ u∈vs,u.oneCell'=true)
  (hR:∀ c',JG c' k e sz n cells->Holds c' k Rr):Ok c [] [(k,Rr)] (.nm k) v w' (fun q=>if q=k then v else c.ν q):=by
 have hle:Cx.Le none c ⟨fun q=>c.N q\/q=k,fun q=>if q=k then v else c.ν q,fun b=>c.O b\/blk v=some b,w'⟩ :=
  ⟨fun q _ h=>⟨.inl h,if_neg fun(e:q=k)=>hk (e▸h)⟩,fun w'' h=>hs.then h (fun i _ h=>h.elim) fun i hi hO=>by
   grind⟩
 refine Ok.new hk hs (fun b hb=>⟨hbl b hb,(Ot ho b hb).2⟩) (hR _ ⟨vs,?_,Ai.le hle _ _ (EM _) hr,h1⟩) ?_
 ·simp_all
 ·simp only[Rep];exact⟨.inr trivial,by simp,UR ho⟩
section
variable {P:Program}{I:World->Prop}{L:LX}{ty:TypeId}{T:TT}{R:Type}{K:Tr->Option R}{r:R}{hk:Nat->Option Rs}{m:Nat}
theorem Yo(G:Fp):Dj G []:=fun k _ h=>J3 k h
theorem TrOK.giveUp{op:Op}{s:AV}(hx:(Gl L x).bind (rdA hk)=some (a,G)) (h:∀(c:Cx) (e:Operand->Value) (ty:TypeId),Rep c a (e x)->(∀ o i,(Gl L o).bind LM=some i->∃ k,e o=.int k i)->∃ v,(execOp e ⟨none,op,ty, "", #[],none⟩).run P c.w=.ok (.value v) c.w/\Rep c s v):TrOK P I L hk m op ⟨s,G,[],G.isEmpty,0⟩:=by
 obtain⟨s0,h1,h2⟩:=Option.bind_eq_some_iff.1 hx
 obtain⟨g1,g2,g3⟩:=WP h2
 refine⟨fun ty=>Hq fun c e hG he hP=>?_,g1,fun k hk=>absurd hk (J3 k),fun hr=>by simp_all⟩
 have hres:=fun k R hk=>hP.res k R hk
 have hr:=g3 c _ (he x _ h1) hres G (fun b h=>h)
 obtain⟨v,hv,hrv⟩:=h (c.less G) e ty hr (fun o i ho=>L6 he ho)
 obtain⟨ν',ok⟩:=Ok.pure (c:=c.less G) (w':=c.w) hrv (Stp.refl _ _)
 have:=Ok.consume (Yo G) ok
 rw[List.append_nil] at this
 exact⟨v,c.w,ν',hv,this⟩
theorem TrOK.lend{op:Op}{s:AV}(hx:(Gl L x).bind (rdA hk)=some (a,G))(hs:noRd s=true) (h:∀(c:Cx) (e:Operand->Value) (ty:TypeId),Rep c a (e x)->∃ v,(execOp e ⟨none,op,ty, "", #[],none⟩).run P c.w=.ok (.value v) c.w/\Rep c s v):TrOK P I L hk m op ⟨s,G,G,true,0⟩:=by
 obtain⟨s0,h1,h2⟩:=Option.bind_eq_some_iff.1 hx
 obtain⟨g1,g2,g3⟩:=WP h2
 refine⟨fun ty=>Hq fun c e hG he hP=>?_,g1,fun k hk=>.inl hk,fun _=>rfl⟩
 have hr:=g3 c _ (he x _ h1) (fun k R hk=>hP.res k R hk) G (fun b h=>h)
 obtain⟨v,hv,hrv⟩:=h (c.less G) e ty hr
 exact⟨v,c.w,c.ν,hv,Ok.same hG.lt (fun k R hk=>hP.res k R hk) (fun k k' R R' b h h'=>hP.dist k k' R R' b h h') (Rep.noRd (O:=(c.less G).O) s v hs hrv)⟩
theorem Ou{β:Type}(sz:Nat):∀(n:Nat) (cs:List (List β)),(∀ c∈cs,c.length=sz)->(cs.drop n).flatten=cs.flatten.drop (n*sz)
 | 0,cs,_|n+1,[],_=>zam
 | n+1,a::cs,h=>by
  have ha:=h a (List.mem_cons_self ..)
  rw[List.drop_succ_cons,Ou sz n cs (fun c hc=>h c (List.mem_cons_of_mem _ hc)),List.flatten_cons,Nat.add_mul,Nat.one_mul,Nat.add_comm,<-List.drop_drop]
  simp_all
theorem Ov{β:Type}(sz:Nat):∀(n:Nat) (cs:List (List β)),(∀ c∈cs,c.length=sz)->(cs.take n).flatten=cs.flatten.take (n*sz)
 | 0,cs,_|n+1,[],_=>zam
 | n+1,a::cs,h=>by
  have ha:=h a (List.mem_cons_self ..)
  rw[List.take_succ_cons,List.flatten_cons,List.flatten_cons,Ov sz n cs (fun c hc=>h c (List.mem_cons_of_mem _ hc)),Nat.add_mul,Nat.one_mul,Nat.add_comm,<-ha,List.take_length_add_append]
theorem MN{α:Type}{l l':List α}{lo hi:Int}(h:lcut0 l lo hi=some l'):0<=lo/\lo<=hi/\hi<=l.length/\l'=(l.drop lo.toNat).take (hi.toNat-lo.toNat):=by
 unfold lcut0 at h
 grind
theorem gV{τ:Ty}{l:List (El τ)}{a:Option Addr}{lo hi mx:Nat}(h:Rd τ l (.slice a l.length cap) w)(b1:lo<=hi)(b2:hi<=l.length)(b3:hi<=mx)(b4:mx<=cap):Rd τ ((l.drop lo).take (hi-lo)) (.slice (if mx=lo then a else a.map (·.add (lo*τ.n))) (hi-lo) (mx-lo)) w:=by
 obtain⟨cs,h1,a',cap',h2,h3,h4,h5,h6,h7⟩:=h
 simp only[Value.slice.injEq] at h2
 obtain⟨rfl,_,rfl⟩:=h2
 have hl:=F6.crlens h1
 have hl2:∀ c∈cs.drop lo,c.length=τ.n:=fun c hc=>hl c (List.mem_of_mem_drop hc)
 refine⟨(cs.drop lo).take (hi-lo),(h1.drop lo).take _,?_⟩
 rw[Ov τ.n _ _ hl2,Ou τ.n _ _ hl,show((l.drop lo).take (hi-lo)).length=hi-lo from by grind]
 exact A6P h3 h4 h5 h6 h7 b1 b2 b3 b4
theorem Ox{e:Operand->Value}{t el:TypeId}{z:Value}{sz bytes n cap l h mx:Nat}{x:Operand}{olo ohi omx:Option Operand}{a:Option Addr}{w:World}(T:SliceT P t el z sz bytes)(hx:e x=.slice a n cap)(hb:(Instr.sliceBounds true n cap (olo.map e) (ohi.map e) (omx.map e)).run P w=.ok (l,h,mx) w):
  (execOp e ⟨none,.slice t x olo ohi omx,ty, "", #[],none⟩).run P w=.ok (.value (.slice (if mx=l then a else a.map (·.add (l*sz))) (h-l) (mx-l))) w:=by
 have h1:execOp e ⟨none,.slice t x olo ohi omx,ty, "", #[],none⟩=(do pure (.value (<-Instr.sliceAt t (e x) (olo.map e) (ohi.map e) (omx.map e)))):=rfl
 grind[Sem.run_bind,fD,Result.andThen_ok,Sem.run_pure]
def rO(e:Operand->Value)(olo:Option Operand)(lo:Int):Prop:=match olo with|none=>lo=0|some o=>∃ k,e o=.int k lo
theorem sb0{e:Operand->Value}{lo:Int}(hl:rO e olo lo)(b1:0<=lo)(b2:lo<=n):(Instr.sliceBounds isS n cap (olo.map e) none none).run P w=.ok (lo.toNat,n,cap) w:=by
 cases olo with
 | none=>simp_all[rO,Instr.sliceBounds]
 | some o=>obtain⟨k,hk⟩:=hl;simp_all[Instr.sliceBounds,KA]
theorem sb1{e:Operand->Value}{oh:Operand}{lo hi:Int}{k:IntKind}(hl:rO e olo lo)(hh:e oh=.int k hi)(b1:0<=lo)(b2:lo<=hi)(b3:hi<=cap):(Instr.sliceBounds isS n cap (olo.map e) (some (e oh)) none).run P w=.ok (lo.toNat,hi.toNat,cap) w:=by
 cases olo with
 | none=>simp_all[rO,Instr.sliceBounds,KA]
 | some o=>obtain⟨k2,hk⟩:=hl;simp only[Instr.sliceBounds,Option.map_some,hk,hh,Sem.run_bind,Sem.run_pure,Result.andThen_ok,KA k hi cap _ zaa b3,KA k2 lo hi.toNat _ b1 zaa]
theorem sb2{e:Operand->Value}{oh om:Operand}{lo hi:Int}{k k':IntKind}(hl:rO e olo lo)(hh:e oh=.int k hi)(hm:e om=.int k' hi)(b1:0<=lo)(b2:lo<=hi)(b3:hi<=cap):(Instr.sliceBounds isS n cap (olo.map e) (some (e oh)) (some (e om))).run P w=.ok (lo.toNat,hi.toNat,hi.toNat) w:=by
 cases olo with
 | none=>simp only[rO] at hl;subst hl;simp only[Instr.sliceBounds,Option.map_none,hh,hm,Sem.run_bind,Sem.run_pure,Result.andThen_ok,KA k' hi cap _ zaa b3,KA k hi hi.toNat _ zaa zaa];rfl
 | some o=>obtain⟨k2,hk⟩:=hl;simp only[Instr.sliceBounds,Option.map_some,hk,hh,hm,Sem.run_bind,Sem.run_pure,Result.andThen_ok,KA k' hi cap _ zaa b3,KA k hi hi.toNat _ zaa zaa,KA k2 lo hi.toNat _ b1 zaa]
theorem bu{i:Int}(h:(match lo with|some o=>(Gl L o).bind LM|none=>some 0)=some i){e:Operand->Value}(hn:∀ o i,(Gl L o).bind LM=some i->∃ k,e o=.int k i):rO e lo i:=by
 cases lo with
 | none=>exact(Option.some.inj h).symm
 | some o=>exact hn o i h
theorem A4Y(l:List UInt8)(lo hi:Nat):(⟨l.toArray⟩:ByteArray).extract lo hi=⟨((l.drop lo).take (hi-lo)).toArray⟩:=by
 apply ByteArray.ext
 simp_all
theorem zl(hT:TTok P I T){hi:Option Operand}{il:Int}(hlo:(match lo with|some o=>(Gl L o).bind LM|none=>some 0)=some il)(h:WH T hk t (Gl L x) il (hi.map fun o=>(Gl L o).bind LM) K=some r):∃ tr,K tr=some r/\TrOK P I L hk m (.slice t x lo hi none) tr:=by
 unfold WH at h
 simp only[O9,rC] at h
 split at h
 ·rename_i k el ei ih hx hsl hh
  obtain⟨oh,rfl,hoh⟩:∃ q,hi=some q/\(Gl L q).bind LM=some ih:=by
   simp_all
  obtain⟨z,hS,_⟩:=L8 hT hsl
  split at h
  ·rename_i e τ l hkk
   cases h1:Nat.beq ei.size τ.n with
   | false=>simp_all
   | true =>
   cases h2:ile0 0 il with
   | false=>simp_all
   | true =>
   cases h3:ile0 il ih with
   | false=>simp_all
   | true =>
   cases h4:ile0 ih (llen0 l) with
   | false=>simp_all
   | true =>
   rw[h1,h2,h3,h4] at h
   have h1:=Hl h1
   have b1:0<=il:=of_decide_eq_true h2
   have b2:il<=ih:=of_decide_eq_true h3
   have b3:ih<=(l.length:Int):=of_decide_eq_true h4
   refine⟨_,h,TrOK.look hkk fun c ev ty hG he hN hH hO=>?_⟩
   have hv:=he x _ hx
   simp only[Rep] at hv
   have hn:∀ o i,(Gl L o).bind LM=some i->∃ k,ev o=.int k i:=fun o i ho=>L6 he ho
   obtain⟨kh,hkh⟩:=hn oh ih hoh
   have hr:=JG.reads hH (O':=fun _=>False) (fun b hb=>hb.elim) c.w (Stp.refl _ _)
   obtain⟨cs,hc1,a,cap,hc2,hc3,hc4,hc5,hc6,hc7⟩:=hr
   have hux:ev x=.slice a l.length cap:=zaD
   have hb:=sb1 (P:=P) (w:=c.w) (isS:=true) (n:=l.length) (cap:=cap) (bu hlo hn) hkh b1 b2 zaa
   rw[h1] at hS
   refine⟨_,Ox hS hux hb,?_⟩
   simp only[Rep]
   grind
  ·cases h
 ·cases h
theorem A22(hT:TTok P I T){hi mx:Option Operand}{il:Int}(hx:(Gl L x).bind (rdA hk)=some (a,G))(hlo:(match lo with|some o=>(Gl L o).bind LM|none=>some 0)=some il)(h:bV T t a G il (hi.map fun o=>(Gl L o).bind LM) (mx.map fun o=>(Gl L o).bind LM) K=some r):∃ tr,K tr=some r/\TrOK P I L hk m (.slice t x lo hi mx) tr:=by
 have hiN:∀ {o:Option Operand},(o.map fun o=>(Gl L o).bind LM)=none->o=none:=zaD
 have hiS:∀ {o:Option Operand} {i:Int},(o.map fun o=>(Gl L o).bind LM)=some (some i)->∃ q,o=some q/\(Gl L q).bind LM=some i:=by
  simp_all
 unfold bV at h
 try simp only[xN,xO] at h
 split at h
 ·rename_i l hu
  -- a string
  have hG:G=[]:=by
   obtain⟨s0,h1,h2⟩:=Option.bind_eq_some_iff.1 hx
   unfold rdA at h2
   grind
  obtain⟨ti,hti,hu'⟩:=JP hu
  have hq:=(hT _ _ hti).und
  rw[hu'] at hq
  have hq:P.underlying t=some .string:=hq
  subst hG
  have fin:∀ {l':List UInt8} {ih:Int},lcut0 l il ih=some l'->(∀(e:Operand->Value) (w:World),(∀ o i,(Gl L o).bind LM=some i->∃ k,e o=.int k i)->(Instr.sliceBounds false l.length l.length (lo.map e) (hi.map e) none).run P w=.ok (il.toNat,ih.toNat,l.length) w)->mx=none->TrOK P I L hk m (.slice t x lo hi mx) (.pure (.str l')):=by
   intro l' ih hl' hb hmx
   subst hmx
   obtain⟨b1,b2,b3,rfl⟩:=MN hl'
   refine TrOK.giveUp (G:=[]) hx fun c e ty hr hn=>?_
   simp only[Rep] at hr
   refine⟨.string ⟨((l.drop il.toNat).take (ih.toNat-il.toNat)).toArray⟩,?_,by simp only[Rep]⟩
   have h1:execOp e ⟨none,.slice t x lo hi none,ty, "", #[],none⟩=(do pure (.value (<-Instr.sliceAt t (e x) (lo.map e) (hi.map e) none))):=rfl
   have h2:=hb e c.w hn
   rw[h1,hr]
   simp only[Instr.sliceAt,Instr.slice,Sem.run_bind,run_underlying hq,Result.andThen_ok]
   simp_all[ByteArray.size,A4Y]
  split at h
  ·rename_i e1 e2
   obtain⟨l',hl',h⟩:=Option.bind_eq_some_iff.1 h
   obtain⟨b1,b2,b3,_⟩:=MN hl'
   refine⟨_,h,fin hl' (fun e w hn=>?_) (hiN e2)⟩
   obtain rfl:=hiN e1
   have:=sb0 (P:=P) (w:=w) (cap:=l.length) (isS:=false) (bu hlo hn) b1 (by simpa [llen0] using b2)
   simp_all[llen0]
  ·rename_i ih e1 e2
   obtain⟨l',hl',h⟩:=Option.bind_eq_some_iff.1 h
   obtain⟨b1,b2,b3,_⟩:=MN hl'
   obtain⟨oh,rfl,hoh⟩:=hiS e1
   refine⟨_,h,fin hl' (fun e w hn=>?_) (hiN e2)⟩
   obtain⟨k,hk'⟩:=hn oh ih hoh
   exact sb1 (P:=P) (w:=w) (isS:=false) (bu hlo hn) hk' b1 b2 b3
  ·cases h
 ·rename_i a _ _ _
  split at h
  ·rename_i τ l el ei hs hsl
   obtain⟨z,hS,_⟩:=L8 hT hsl
   cases h1:Nat.beq ei.size τ.n with
   | false=>simp_all
   | true =>
    rw[h1] at h
    rw[Hl h1] at hS
    simp only[cond_true] at h
    have hread:∀ {c:Cx} {v:Value},Rep c a v->∀ w',Stp c.O c.w w'->Rd τ l v w':=by
     intro c v hr
     unfold A5r at hs
     split at hs
     ·simp only[Option.some.injEq,Sigma.mk.injEq] at hs;obtain⟨rfl,hh⟩:=hs;obtain rfl:=eq_of_heq hh;simp_all[Rep]
     ·simp only[Option.some.injEq,Sigma.mk.injEq] at hs;obtain⟨rfl,hh⟩:=hs;obtain rfl:=eq_of_heq hh;simp_all[Rep]
     ·cases hs
    split at h
    ·rename_i e1 e2
     obtain⟨l',hl',h⟩:=Option.bind_eq_some_iff.1 h
     obtain⟨b1,b2,b3,rfl⟩:=MN hl'
     obtain rfl:=hiN e1
     obtain rfl:=hiN e2
     refine⟨_,h,TrOK.giveUp hx fun c e ty hr hn=>?_⟩
     have hrd:=hread hr
     obtain⟨b,cap,cs,hv,q1,q2,_⟩:=MZ hrd
     refine⟨_,Ox (olo:=lo) (l:=il.toNat) (h:=l.length) (mx:=cap) hS hv (sb0 (bu hlo hn) b1 zaa),?_⟩
     ·simp only[Rep]
      intro w' hs'
      have h0:=hrd w' hs'
      rw[hv] at h0
      have:=gV (lo:=il.toNat) (hi:=l.length) (mx:=cap) h0 zaa (Nat.le_refl _) q1 (Nat.le_refl _)
      simp_all[llen0]
    ·rename_i ih e1 e2
     obtain⟨l',hl',h⟩:=Option.bind_eq_some_iff.1 h
     obtain⟨b1,b2,b3,rfl⟩:=MN hl'
     obtain⟨oh,rfl,hoh⟩:=hiS e1
     obtain rfl:=hiN e2
     refine⟨_,h,TrOK.giveUp hx fun c e ty hr hn=>?_⟩
     have hrd:=hread hr
     obtain⟨b,cap,cs,hv,q1,q2,_⟩:=MZ hrd
     obtain⟨k,hk'⟩:=hn oh ih hoh
     refine⟨_,Ox (olo:=lo) (ohi:=some oh) (l:=il.toNat) (h:=ih.toNat) (mx:=cap) hS hv (sb1 (bu hlo hn) hk' b1 b2 zaa),?_⟩
     ·simp only[Rep]
      intro w' hs'
      have h0:=hrd w' hs'
      rw[hv] at h0
      exact gV (lo:=il.toNat) (hi:=ih.toNat) (mx:=cap) h0 zaa zaa zaa (Nat.le_refl _)
    ·rename_i ih im e1 e2
     cases he:ieq0 ih im with
     | false=>simp_all
     | true =>
      rw[he] at h
      have he:ih=im:=by grind[ieq0]
      subst he
      simp only[cond_true] at h
      obtain⟨l',hl',h⟩:=Option.bind_eq_some_iff.1 h
      obtain⟨b1,b2,b3,rfl⟩:=MN hl'
      obtain⟨oh,rfl,hoh⟩:=hiS e1
      obtain⟨om,rfl,hom⟩:=hiS e2
      refine⟨_,h,TrOK.giveUp hx fun c e ty hr hn=>?_⟩
      have hrd:=hread hr
      obtain⟨b,cap,cs,hv,q1,q2,_⟩:=MZ hrd
      obtain⟨k,hk'⟩:=hn oh ih hoh
      obtain⟨k2,hk2⟩:=hn om ih hom
      refine⟨_,Ox (olo:=lo) (ohi:=some oh) (omx:=some om) (l:=il.toNat) (h:=ih.toNat) (mx:=ih.toNat) hS hv (sb2 (bu hlo hn) hk' hk2 b1 b2 zaa),?_⟩
      ·simp only[Rep]
       refine⟨⟨_,_,rfl⟩,fun w' hs'=>?_⟩
       have h0:=hrd w' hs'
       rw[hv] at h0
       exact gV (lo:=il.toNat) (hi:=ih.toNat) (mx:=ih.toNat) h0 zaa zaa (Nat.le_refl _) zaa
    ·cases h
  ·cases h
theorem kW{c:Cx}:∀ {cells:List AV} {l:List UInt32} {us:List Value},unW cells=some l->Ai c cells us->us=l.map G7
 | [],l,us,h,hr=>by
  simp_all[unW,Ai]
 | .u32 x::r,l,us,h,hr=>by
  simp only[unW] at h
  split at h
  ·rename_i l' hl
   obtain rfl:=Option.some.inj h
   simp only[Ai,Rep] at hr
   obtain⟨u,q,rfl,rfl,hq⟩:=hr
   rw[List.map_cons,kW hl hq]
  ·cases h
theorem kX{w:World}:∀(l:List UInt32),F6 (fun x c=>CR .u32 x c w) l (l.map fun x=>[G7 x])
 | []=>trivial
 | x::l=>⟨by simp only[CR],kX l⟩
theorem Yp:∀(l:List UInt32),(l.map fun x=>[G7 x]).flatten=l.map G7
 | []=>rfl
 | x::l=>by rw[List.map_cons,List.flatten_cons,Yp l];rfl
theorem zn(hT:TTok P I T)(h:WG T hk t (Gl L x) K=some r):∃ tr,K tr=some r/\TrOK P I L hk m (.slice t x none none none) tr:=by
 unfold WG at h
 split at h
 ·rename_i k hx
  split at h
  ·rename_i n el cells hu hkk
   obtain⟨ti,hti,hu'⟩:=JP hu
   have hq:=(hT _ _ hti).und
   rw[hu'] at hq
   have hq:P.underlying t=some (.array n el):=hq
   split at h
   ·rename_i e hel
    cases h0:(Nat.beq e.size 1&&Nat.beq cells.length n&&Nat.ble n 1000) with
    | false=>simp_all
    | true =>
     rw[h0,cond_true] at h
     simp only[Bool.and_eq_true] at h0
     have hlen:=Hl h0.1.2
     have hn:n<=1000:=Nat.le_of_ble_eq_true h0.2
     obtain⟨inf,hinf,hs⟩:=Option.map_eq_some_iff.1 (hT _ _ hel).sz
     have hs1:(P.info? el).map (·.size)=some 1:=zaD
     split at h
     ·rename_i l hl
      have hkF:FN k [(k,Rs.var cells)]=some (.var cells):=by simp[FN]
      have hkO:∀ k' R,FN k' [(k,Rs.var cells)]=some R->k'=k/\R=.var cells:=by
       grind[FN,Hl]
      refine⟨_,h,⟨fun ty=>Hq fun c ev hG he hP=>?_,fun k' R hk'=>?_,fun k' hk'=>absurd hk' (J3 k'),fun hr=>by cases hr⟩⟩
      ·obtain⟨hN,hH,hO⟩:=hP.res k (.var cells) hkF
       obtain⟨b,us,hb,hB,hR,hone⟩:=hH
       obtain rfl:=kW hl hR
       have hll:l.length=n:=by have:=hR.len;grind
       have hv:=he x _ hx
       simp only[Rep] at hv
       obtain⟨-,b',hb',hv⟩:=hv
       obtain rfl:b=b':=by simp_all[blk]
       refine⟨.slice (some ⟨b,0,none⟩) n n,c.w,c.ν,?_,⟨fun _ _=>rfl,?_,(fun k' R hk'=>by cases hk'),(fun k' k2 R R' b2 hk'=>by cases hk'),Stp.refl _ _⟩⟩
       ·have h1:execOp ev ⟨none,.slice t x none none none,ty, "", #[],none⟩=(do pure (.value (<-Instr.sliceAt t (ev x) none none none))):=rfl
        rw[h1,hv]
        simp only[Instr.sliceAt,Sem.run_bind,run_underlying hq,Result.andThen_ok,Instr.sureAddr,Sem.run_pure,Instr.sliceBounds,fG hs1]
        simp[Addr.add]
       ·simp only[Rep]
        refine⟨⟨_,_,rfl⟩,fun w' hw'=>⟨l.map fun x=>[G7 x],kX l,?_⟩⟩
        rw[Yp,hll]
        have hbl:c.w.heap[b]?=w'.heap[b]?:=by
         refine(hw'.block b hB.lt ?_).symm
         rintro(⟨-,h2⟩|⟨k',R,h2,-⟩)
         ·exact h2 ⟨k,_,hkF,by rw[hb];rfl⟩
         ·cases h2
        obtain⟨T',hT'⟩:=id hB
        refine⟨some ⟨b,0,none⟩,n,rfl,by simp[hll,Ty.n],Nat.le_refl _,?_,(fun h=>by cases h),fun p hp=>?_⟩
        ·exact Nat.le_trans hn zal
        ·obtain rfl:=Option.some.inj hp
         have hB':Vw w' b (l.map G7):=⟨T',by grind⟩
         exact hB'.cs 0
      grind
     ·cases h
   ·cases h
  ·cases h
 ·cases h
theorem Y0(hT:TTok P I T)(h:Tm T t=true):P.underlying t=some (.int .u8):=by
 unfold Tm at h
 split at h
 ·rename_i hu
  obtain⟨ti,hti,hu'⟩:=JP hu
  have hq:=(hT _ _ hti).und
  simp_all
 ·cases h
theorem KU(hT:TTok P I T){u:Und}(h:Xy T t=some u):∃ i,TOK P t i/\i.u=u:=by
 obtain⟨i,hi,hu⟩:=JP h
 exact⟨i,hT _ _ hi,hu⟩
theorem A23(h:Rd .u8 l v w):Bytes w v l:=by
 obtain⟨cs,h1,h2⟩:=h
 have:∀(l:List UInt8) (cs:List (List Value)),F6 (fun(x:El .u8) c=>CR .u8 x c w) l cs->cs.flatten=l.map byteV:=by
  intro l
  induction l with
  | nil=>intro cs h;cases cs with|nil=>rfl|cons _ _=>exact h.elim
  | cons a l ih =>
   intro cs h
   cases cs with
   | nil=>exact h.elim
   | cons c cs =>
    have h1:=h.1
    simp only[CR] at h1
    rw[List.flatten_cons,h1,ih cs h.2];rfl
 rw[this l cs h1] at h2
 exact h2
theorem xX{src dst e':TypeId}{e:Operand->Value}(hs:P.underlying src=some (.slice e'))(he':P.underlying e'=some (.int .u8))(hd:P.underlying dst=some .string)(hB:Bytes w (e x) l):
  (execOp e ⟨none,.convert src dst x,ty, "", #[],none⟩).run P w=.ok (.value (.string ⟨l.toArray⟩)) w:=by
 obtain⟨a,cap,hv,hl,h3,h4,h5,h6⟩:=hB
 have h1:execOp e ⟨none,.convert src dst x,ty, "", #[],none⟩=(do pure (.value (<-convert src dst (e x)))):=rfl
 have:=A6Q (P:=P) (L:=[(0,.v (.slice a l.length cap))]) (w:=w) (ty:=ty) (x:=.tmp 0) (K:=fun s w'=>s=.v (.string ⟨l.toArray⟩)/\w'=w) hs he' hd rfl ⟨a,cap,rfl,hl,h3,h4,h5,h6⟩ ⟨rfl,rfl⟩ (fun o=>match o with|.tmp 0=>.slice a l.length cap|.const v=>v|.tmp _=>undef|.global g=>.pointer (some ⟨g,0,none⟩)|.func f=>.func (.func f) #[] #[]) (by
  intro o s ho
  cases o with
  | tmp t =>
   simp only[evo] at ho
   rw[Eng.lkp_cons] at ho
   split at ho
   ·rename_i e0;subst e0;obtain rfl:=Option.some.inj ho;rfl
   ·cases ho
  | const v=>grind[evo,SV.den_of]
  | global g=>simp only[evo,Option.some.injEq] at ho;subst ho;rfl
  | func g=>simp only[evo,Option.some.injEq] at ho;subst ho;rfl)
 unfold xA at this
 have h2:∀ e2:Operand->Value,e2 (.tmp 0)=.slice a l.length cap->execOp e2 ⟨none,.convert src dst (.tmp 0),ty, "", #[],none⟩=(do pure (.value (<-convert src dst (.slice a l.length cap)))):=fun e2 h=>by
  show(do pure (.value (<-convert src dst (e2 (.tmp 0)))):Sem Next)=_
  rw[h]
 rw[h2 _ rfl] at this
 rw[h1,hv]
 have hc:(convert src dst (.slice a l.length cap)).run P w=(Conv.bytesToString (.slice a l.length cap)).run P w:=by
  simp only[convert,Sem.run_bind,run_underlying hs,run_underlying hd,Result.andThen_ok,run_underlying he']
 generalize hres:(convert src dst (.slice a l.length cap)).run P w=res at this
 simp only[Sem.run_bind,hres] at this ⊢
 cases res with
 | halt x w'=>exact this.elim
 | ok v w' =>
  simp only[Result.andThen_ok,Sem.run_pure] at this ⊢
  obtain⟨s,h1,h2,h3⟩:=this
  subst h2;subst h3
  rw[<-h1];rfl
theorem zo{P:Program}{ty t e e' base n:Nat}{x:Operand}{ρ:Operand->Value}{v:Value}{vs:List Value}{w:World}(ht:P.underlying t=some (.slice e))(he:P.underlying e=some (.int .u8))(hx:ρ x=v)(ho:w.ownsG base e' 1 v n vs)(hn:0<n):
  ∃ w',(execOp ρ ⟨none,.convert t t x,ty, "", #[],none⟩).run P w=.ok (.value v) w'/\Sl w' 1 v vs n/\Stp (fun b=>blk v=some b) w w':=by
 have hs:=Sl.of_ownG ho
 rcases ho.2 with⟨_,h0⟩|⟨g,cap,cur,fz,rfl,hb,hg,_⟩
 ·omega
 have hsh:w.shape? g=some (e',cur.size):=by simp[World.shape?,hg]
 refine⟨w.freeze ⟨g,cur.size,none⟩ 1,?_,?_,?_⟩
 ·have h1:execOp ρ ⟨none,.convert t t x,ty, "", #[],none⟩=(do pure (.value (<-convert t t (ρ x)))):=rfl
  rw[h1,hx]
  simp[convert,run_underlying ht,run_underlying he,markStringish,hsh]
 ·obtain⟨a,cap',he',h2,h3,h4,h5,h6⟩:=hs
  exact⟨a,cap',he',h2,h3,h4,h5,fun p hp j u hu=>by rw[kD];exact h6 p hp j u hu⟩
 ·exact(Stp.of_grown (YY w g cur.size 1)).mono fun i _ h=>by rw[Option.some.injEq] at h;rw[h];rfl
theorem zq(hT:TTok P I T){s d:TypeId}{k:Nat}(h:sameRow T hk s d (Gl L x)=some (k,e,l)):TrOK P I L hk m (.convert s d x) ⟨.sl .u8 l,[(k,.row e .u8 l)],[],false,0⟩:=by
 unfold sameRow at h
 split at h
 ·rename_i k' hx
  split at h
  ·rename_i el hu
   cases hb:(Nat.beq s d&&Tm T el) with
   | false=>rw[hb] at h;cases h
   | true =>
    rw[hb,cond_true] at h
    rw[Bool.and_eq_true] at hb
    obtain rfl:=Hl hb.1
    split at h
    ·rename_i e' a l' hkk
     simp only[Option.some.injEq,Prod.mk.injEq] at h
     obtain⟨rfl,rfl,rfl⟩:=h
     obtain⟨is,his,hus⟩:=KU hT hu
     have h1:=his.und
     rw[hus] at h1
     refine⟨fun ty=>Hq fun c e0 hG he hP=>?_,fun q R hq=>?_,fun q hq=>absurd hq (J3 q),fun hq=>by cases hq⟩
     ·obtain⟨hN,hH,hO⟩:=MG hP
      obtain⟨vs,hown,hr,h1c⟩:=hH
      have hv:=he x _ hx
      simp only[Rep] at hv
      obtain⟨w',hrun,hS,hst⟩:=zo (ty:=ty) (P:=P) h1 (Y0 hT hb.2) hv.2.1 hown zam
      have hfb:∀ b,Em c.ν [(k',Rs.row e' .u8 (a::l'))] b↔blk (c.ν k')=some b:=by
       intro b
       constructor
       ·rintro⟨q,R0,h,h2⟩
        rw[Cb] at h
        split at h
        ·rename_i hq;rw[<-hq];exact h2
        ·cases h
       ·intro h;exact⟨k',_,by rw[Cb,if_pos rfl],h⟩
      refine⟨_,w',c.ν,hrun,⟨fun _ _=>rfl,?_,(fun q R h=>by cases h),(fun q q' R R' b h=>by cases h),hst.mono fun i _ h=>(hfb i).2 h⟩⟩
      simp only[Rep]
      intro w'' hs
      have hbytes:∃ cs,F6 (fun x cc=>CR .u8 x cc w'') (a::l') cs/\vs=cs.flatten:=by
       obtain⟨cs,h2,h3⟩:=Ai.flatL hr
       refine⟨cs,F6.mono (fun x us hh=>?_) h3,h2⟩
       simp only[flat,Ai,Rep] at hh
       obtain⟨u,t,rfl,rfl,rfl⟩:=hh
       simp only[CR]
      obtain⟨cs,h2,h3⟩:=hbytes
      refine⟨cs,h2,?_⟩
      rw[<-h3]
      obtain⟨p,cap,hvv,g2,g3,g4,g5,g6⟩:=hS
      refine⟨p,cap,hvv,g2,g3,g4,g5,fun q hq j u hu=>?_⟩
      have hc:=g6 q hq j u hu
      have hlt:=World.block_lt_of_cell? w' _ hc
      rw[World.cell?_of_block (hs.block (q.add j).block hlt ?_)]
      ·exact hc
      ·rw[add_block]
       have hbq:blk (c.ν k')=some q.block:=by rw[hvv,hq];rfl
       rintro(⟨_,hno⟩|⟨q2,R2,hq2,_⟩)
       ·exact hno ((hfb _).2 hbq)
       ·cases hq2
     ·rw[Cb] at hq
      split at hq
      ·rename_i hqq;rw[hqq,<-Option.some.inj hq];exact hkk
      ·cases hq
    ·cases h
  ·cases h
 ·cases h
theorem gW(hT:TTok P I T){s d:TypeId} (h:(match sameRow T hk s d (Gl L x) with
  | some (k,e,l)=>K ⟨.sl .u8 l,[(k,.row e .u8 l)],[],false,0⟩
  | none=>(match Xy T s,Xy T d,(Gl L x).bind (rdA hk) with
   | some .str,some (.sl el),some (.str l,F)=>bif Tm T el then bif fits0 l 1 then K ⟨.nm m,[],[(m,.row el .u8 l)],false,1⟩ else none else none
   | some (.sl el),some .str,some (.sl .u8 l,F)=>bif Tm T el then K ⟨.str l,F,F,true,0⟩ else none
   | some (.sl el),some .str,some (.nil,F)=>bif Tm T el then K (.pure (.str [])) else none
   | some _,some d,some (a,F)=>Q7 d a fun s=>K (.pure s)
   | _,_,_=>none))=some r):∃ tr,K tr=some r/\TrOK P I L hk m (.convert s d x) tr:=by
 split at h
 ·grind[zq]
 split at h
 ·rename_i el l F hs hd hx
  cases hb:Tm T el with
  | false=>simp_all
  | true =>
   rw[hb,cond_true] at h
   cases hf:fits0 l 1 with
   | false=>simp_all
   | true =>
   rw[hf,cond_true] at h
   simp only[fits0,decide_eq_true_eq] at hf
   obtain⟨is,his,hus⟩:=KU hT hs
   obtain⟨id,hid,hud⟩:=KU hT hd
   have h1:=his.und
   rw[hus] at h1
   have h2:=hid.und
   rw[hud] at h2
   obtain⟨s0,hx0,hx1⟩:=Option.bind_eq_some_iff.1 hx
   have hs0:s0=.str l:=by
    unfold rdA at hx1
    grind
   subst hs0
   refine⟨_,h,TrOK.mkN fun c e ty hG he hnew=>?_⟩
   have hv:=he x _ hx0
   simp only[Rep] at hv
   obtain⟨v,w',q1,q2,q3,q4⟩:=A6R (P:=P) (w:=c.w) s d el ⟨l.toArray⟩ h1 h2 (Y0 hT hb) (by show l.toArray.size<=maxLen;grind[maxLen])
   have hsz:(⟨l.toArray⟩:ByteArray).size=l.length:=by show l.toArray.size=_;simp
   rw[hsz] at q2
   have hst:Stp No c.w w':=(Stp.of_grown q3).mono fun i _ h=>za6
   refine⟨v,w',?_,_,Ok.newM (cells:=flatL .u8 l) hnew hG.lt hst (own_base q2 (Nat.zero_le _)) (fun b hb=>?_) ?_ ?_ (fun c' hh=>hh)⟩
   ·have h1:execOp e ⟨none,.convert s d x,ty, "", #[],none⟩=(do pure (.value (<-convert s d (e x)))):=rfl
    simp_all
   ·exact(Ot q2 b hb).1
   ·simp_all[gU]
   ·intro u hu
    simp only[List.toList_toArray,List.mem_map] at hu
    obtain⟨b,_,rfl⟩:=hu;rfl
 ·rename_i el l F hs hd hx
  cases hb:Tm T el with
  | false=>simp_all
  | true =>
   rw[hb] at h
   obtain⟨is,his,hus⟩:=KU hT hs
   obtain⟨id,hid,hud⟩:=KU hT hd
   have h1:=his.und
   rw[hus] at h1
   have h2:=hid.und
   rw[hud] at h2
   refine⟨_,h,TrOK.lend hx rfl fun c e ty hr=>?_⟩
   simp only[Rep] at hr
   exact⟨_,xX h1 (Y0 hT hb) h2 (A23 (hr c.w (Stp.refl _ _))),by simp only[Rep]⟩
 ·rename_i el F hs hd hx
  cases hb:Tm T el with
  | false=>simp_all
  | true =>
   rw[hb] at h
   obtain⟨is,his,hus⟩:=KU hT hs
   obtain⟨id,hid,hud⟩:=KU hT hd
   have h1:=his.und
   rw[hus] at h1
   have h2:=hid.und
   rw[hud] at h2
   obtain⟨s0,hx0,hx1⟩:=Option.bind_eq_some_iff.1 hx
   have hs0:s0=.nil:=by
    unfold rdA at hx1
    grind
   subst hs0
   refine⟨_,h,TrOK.mk0 fun ty=>DY fun c e hG he=>?_⟩
   have hv:=he x _ hx0
   simp only[Rep] at hv
   exact⟨_,xX h1 (Y0 hT hb) h2 (l:=[]) (by grind[Sl.nil]),by simp only[Rep]⟩
 ·rename_i us ud a F hne0 hne1 hne2 hs hd hx
  obtain⟨is,his,hus⟩:=KU hT hs
  obtain⟨id,hid,hud⟩:=KU hT hd
  obtain⟨s0,hx0,hx1⟩:=Option.bind_eq_some_iff.1 hx
  have hsc:s0=a:=by
   unfold rdA at hx1
   split at hx1
   ·split at hx1
    ·simp only[Option.some.injEq,Prod.mk.injEq] at hx1
     obtain⟨rfl,_⟩:=hx1
     simp[Q7] at h
    ·cases hx1
   simp_all
  subst hsc
  obtain⟨sv,hK,hrun⟩:=zk h his hid hud
  refine⟨_,hK,TrOK.mk0 fun ty=>DY fun c e hG he=>?_⟩
  obtain⟨v,hv,hr⟩:=hrun c (e x) c.w (he x _ hx0)
  refine⟨v,?_,hr⟩
  have h1:execOp e ⟨none,.convert s d x,ty, "", #[],none⟩=(do pure (.value (<-convert s d (e x)))):=rfl
  simp_all
 ·cases h
end
end Go.Ax
namespace Go.Ax
open Go Go.RowKit Go.Eng
set_option linter.unusedVariables false
set_option linter.unusedSimpArgs false
variable {t:TypeId}
theorem bz(τ:Ty)(x:El τ):∀ n,flatL τ (List.replicate n x)=repL n (flat τ x)
 | 0=>rfl
 | n+1=>by rw[List.replicate_succ,flatL,bz τ x n];rfl
theorem Ai.repL{c:Cx}{l:List AV}{us:List Value}(h:Ai c l us):∀ n,Ai c (Ax.repL n l) (Ax.repL n us)
 | 0=>by simp only[Ax.repL,Ai]
 | n+1=>by simp only[Ax.repL];exact h.app (Ai.repL h n)
theorem QB{α:Type}{l:List α}{u:α}:∀ {n:Nat},u∈repL n l->u∈l
 | 0,h=>za6
 | n+1,h=>by simp only[repL] at h;exact(List.mem_append.1 h).elim id QB
theorem Ud{α:Type}(l:List α):∀ n,(repL n l).length=n*l.length
 | 0=>by simp[repL]
 | n+1=>by simp only[repL,List.length_append,Ud l n,Nat.add_mul];omega
theorem WT(z:Array Value):∀ n,(madeCells z (n*z.size)).toList=repL n z.toList
 | 0=>by simp[madeCells,repL]
 | n+1=>by
  have ih:=WT z n
  simp only[madeCells,Array.toList_map,Array.toList_range] at ih ⊢
  rw[Nat.add_mul,Nat.one_mul,Nat.add_comm,List.range_add,List.map_append,repL]
  congr 1
  ·apply List.ext_getElem
   ·simp
   ·intro i h1 h2
    have hi:i<z.size:=by simpa using h1
    simp[Nat.mod_eq_of_lt hi,hi]
  ·rw[<-ih,List.map_map]
   apply List.map_congr_left
   intro j _
   simp
section
variable {P:Program}{I:World->Prop}{L:LX}{ty:TypeId}{T:TT}{R:Type}{K:Tr->Option R}{r:R}{hk:Nat->Option Rs}{m:Nat}
theorem xY{e:Operand->Value}{l c:Operand}{a b:Value}{v:Value}{w w':World}(hl:e l=a)(hc:e c=b)(h:(Instr.makeSlice t a b).run P w=.ok v w'):(execOp e ⟨none,.makeSlice t l c,ty, "", #[],none⟩).run P w=.ok (.value v) w':=by
 have h1:execOp e ⟨none,.makeSlice t l c,ty, "", #[],none⟩=(do pure (.value (<-Instr.makeSlice t (e l) (e c)))):=rfl
 simp_all
theorem A4Z(hT:TTok P I T){l c:Operand}(h:zW T m t (Gl L l) (Gl L c) K=some r):∃ tr,K tr=some r/\TrOK P I L hk m (.makeSlice t l c) tr:=by
 unfold zW at h
 try simp only[xN,xO] at h
 split at h
 ·rename_i el i n c' hsl hl hc
  obtain⟨z,hS,hte,hz,hone,hby⟩:=L8 hT hsl
  split at h
  ·rename_i τ hτ
   split at h
   ·rename_i z0 hunf
    have hn:=hte.ty τ hτ
    rw[UX] at h
    cases hf:fitn0 c' i.bytes with
    | false=>simp_all
    | true =>
     rw[hf] at h
     simp only[cond_true] at h
     simp only[fitn0,decide_eq_true_eq] at hf
     obtain⟨hc0,hcb⟩:=hf
     have hmax:c'.toNat<=maxLen:=by have:=Nat.le_mul_of_pos_left c'.toNat hby;unfold maxLen;omega
     obtain⟨inf,hi,hz1,hsize,hbytes⟩:=info_parts hS.hi
     have hcc:c'=((c'.toNat:Nat):Int):=zaa
     cases hnc:ieq0 n c' with
     | true =>
      rw[hnc] at h
      have hnc:n=c':=by grind[ieq0]
      subst hnc
      refine⟨_,h,TrOK.mkN fun cx e ty hG he hnew=>?_⟩
      have h1:=he l _ hl
      have h2:=he c _ hc
      simp only[Rep] at h1 h2
      obtain⟨w',hrun,q1,q2⟩:=run_make_full (P:=P) cx.w 0 t el inf z i.size hS.ht hi hz1 hsize .i64 .i64 n.toNat zaJ hmax (Nat.zero_le _)
      rw[<-hcc] at hrun
      have hcells:(madeCells z.cells (n.toNat*i.size)).toList=repL n.toNat z.cells.toList:=by rw[<-hS.hzs];exact WT _ _
      rw[hcells] at q1
      refine⟨_,w',xY h1 h2 hrun,_,Ok.newM hnew hG.lt ((Stp.of_grown q2).mono fun i _ h=>by cases h) q1.G (fun b hb=>?_) (Ai.repL (l:=flat τ z0) (Ua hunf (by grind[NY])) _) (fun u hu=>List.all_eq_true.1 hone u (QB hu)) (fun c' hh=>?_)⟩
      ·grind[blk]
      ·show JG c' m el τ.n _ (flatL τ _)
       grind[lrep0,bz]
     | false =>
      rw[hnc] at h
      simp only[cond_false] at h
      cases hn0:ieq0 n 0 with
      | false=>grind
      | true =>
       rw[hn0] at h
       have hn0:n=0:=by grind[ieq0]
       subst hn0
       refine⟨_,h,TrOK.mkN fun cx e ty hG he hnew=>?_⟩
       have h1:=he l _ hl
       have h2:=he c _ hc
       simp only[Rep] at h1 h2
       obtain⟨w',hrun,q1,q2⟩:=run_make_own (P:=P) cx.w 0 t el inf z i.size hS.ht hi hz1 hsize .i64 .i64 c'.toNat zaJ hmax (Nat.zero_le _)
       rw[<-hcc] at hrun
       refine⟨_,w',xY h1 h2 hrun,_,Ok.newM (cells:=[]) hnew hG.lt ((Stp.of_grown q2).mono fun i _ h=>by cases h) q1.G (fun b hb=>?_) (by simp only[Ai]) zam (fun c' hh=>?_)⟩
       ·grind[blk]
       ·show JG c' m el τ.n _ (flatL τ _)
        rw[hn];exact hh
   ·cases h
  ·cases h
 ·cases h
theorem gX{c:Cx}{τ:Ty}:∀ {n:Nat} {l:List AV} {xs:List (El τ)} {us:List Value},rE τ n l=some xs->Ai c l us->Ai c (flatL τ xs) us/\xs.length=n
 | 0,[],xs,us,h,hr=>by simp only[rE,Option.some.injEq] at h;subst h;exact⟨by simp_all[flatL],rfl⟩
 | 0,_::_,xs,us,h,hr=>by simp[rE] at h
 | n+1,l,xs,us,h,hr=>by
  simp only[rE] at h
  split at h
  ·rename_i x r0 h1
   split at h
   ·rename_i xs' h2
    obtain rfl:=Option.some.inj h
    obtain⟨u1,u2,rfl,h3,h4⟩:=A1u h1 hr
    obtain⟨h5,h6⟩:=gX h2 h4
    exact⟨by simp only[flatL];exact h3.app h5,by simp[h6]⟩
   ·cases h
  ·cases h
theorem Ue{c:Cx}{ev:Operand->Option AV}{e:Operand->Value}(ps0:List (Nat×Operand))(he:∀ i x s,(i,x)∈ps0->ev x=some s->Rep c s (e x))(pl:List (Nat×Nat))(place:Nat->Option (Nat×Nat))(hpl:∀ i q,pl[i]?=some q->place i=some q):∀(ps:List (Nat×Operand)) (cells:List AV) (us:List Value) (out:List AV),(∀ p∈ps,p∈ps0)->Ai c cells us->(∀ u∈us,u.oneCell'=true)->Xo pl ev cells ps=some out ->
  ∃ vs,Instr.fill place us.toArray (ps.map fun(i,x)=>(i,e x))=some vs.toArray/\Ai c out vs/\(∀ u∈vs,u.oneCell'=true)/\vs.length=us.length
 | [],cells,us,out,_,h,h1,hb=>by simp only[Xo,Option.some.injEq] at hb;subst hb;exact⟨us,rfl,h,h1,rfl⟩
 | (i,x)::r,cells,us,out,hm,h,h1,hb=>by
  simp only[Xo] at hb
  split at hb
  ·rename_i f n l hp hc
   obtain⟨s,hs,hl⟩:=Option.bind_eq_some_iff.1 hc
   cases hcond:(Nat.beq l.length n&&Nat.ble (f+n) cells.length) with
   | false=>simp_all
   | true =>
    rw[hcond] at hb
    simp only[Bool.and_eq_true,cond_true] at hb hcond
    have hn:l.length=n:=zaD
    have hle:f+n<=cells.length:=zaD
    obtain⟨ws,e1,e2,e3⟩:=OC (he i x s (hm _ (List.mem_cons_self ..)) hs) hl
    have hwl:=e2.len
    have hul:=h.len
    have:=Ue ps0 he pl place hpl r _ (us.take f++ws++us.drop (f+ws.length)) out (fun p hp=>hm p (List.mem_cons_of_mem _ hp)) (h.set e2 f) (fun u hu=>(xR hu).elim (h1 u) (e3 u)) hb
    obtain⟨vs,g1,g2,g3,g4⟩:=this
    refine⟨vs,?_,g2,g3,by grind⟩
    simp only[List.map_cons,Instr.fill,hpl i _ hp,e1]
    simp_all[Yn]
  ·cases hb
theorem Yq{w:World}{el:TypeId}{z:Value}{sz bytes len:Nat}{parts:Array (Nat×Value)}{vs:List Value}(S:SliceT P t el z sz bytes)(hmax:len*sz<=16777216)(hf:Instr.fill (fun i=>some (i*sz,sz)) (repL len z.cells.toList).toArray parts.toList=some vs.toArray)(hv:vs.length=len*sz):
  ∃ v w',(Instr.buildSlice t len parts).run P w=.ok v w'/\w'.ownsG 0 el sz v len vs/\Stp No w w'/\∀ b,blk v=some b->w.heap.size<=b:=by
 obtain⟨i,hi,hz,hsize,hby⟩:=info_parts S.hi
 have hown:(w.alloc (.cells vs.toArray el)).ownsG 0 el sz (.slice (some ⟨w.heap.size,0,none⟩) len len) len vs:=by
  refine⟨hv,.inr ⟨w.heap.size,len,_,(0,0),rfl,Nat.zero_le _,heap_alloc_new w _,Nat.le_refl _,?_,by simp[hv],?_,.inr rfl⟩⟩
  ·have:=Nat.le_mul_of_pos_right len S.hsz;unfold maxLen;omega
  grind
 refine⟨_,_,?_,hown,Stp.of_ext (Ext.alloc w _) _,fun b hb=>by simp_all[blk]⟩
 have hmc:((Array.range (len*sz)).map (z.cells[· % z.cells.size]!))=(repL len z.cells.toList).toArray:=by
  apply Array.ext'
  have:=WT z.cells len
  rw[S.hzs] at this
  simp_all[madeCells]
 simp only[Instr.buildSlice,Sem.run_bind,run_underlying S.ht,Result.andThen_ok,S.run_size]
 rw[if_neg zaa]
 by_cases h0:len*sz=0
 ·have hl0:len=0:=by
   rcases Nat.mul_eq_zero.1 h0 with h|h
   ·exact h
   ·have:=S.hsz;omega
  subst hl0
  simp only[repL] at hf
  simp only[Nat.zero_mul,if_true,Sem.run_bind,Sem.run_pure,Result.andThen_ok]
  rw[show Array.range 0 = #[] from rfl,List.map_toArray,List.map_nil,hf]
  simp[newRow]
 simp_all[zeroValue,typeInfo,newRow]
theorem gY{ev:Operand->Option AV}:∀ {ps:List (Nat×Operand)} {i:Nat} {x:Operand} {a:AV} {G:Fp},(i,x)∈ps->(ev x).bind (rdA hk)=some (a,G)->∀ k R,FN k G=some R->∃ R',FN k (evG ev hk ps)=some R'
 | (j,y)::ps,i,x,a,G,hm,hx,k,Rr,hkG=>by
  rcases List.mem_cons.1 hm with h|h
  ·simp only[Prod.mk.injEq] at h
   obtain⟨rfl,rfl⟩:=h
   simp_all[evG,GV]
  ·obtain⟨R',hR'⟩:=gY h hx k Rr hkG
   simp only[evG]
   split
   ·rename_i G' _
    rw[JW]
    simp_all
   simp_all
theorem Yr:∀ {ps:List (Nat×Operand)} {k:Nat} {Rr:Rs},FN k (evG (Gl L) hk ps)=some Rr->hk k=some Rr
 | [],k,Rr,h=>za6
 | (j,y)::ps,k,Rr,h=>by
  simp only[evG] at h
  split at h
  ·rename_i a G hx
   obtain⟨s0,_,h2⟩:=Option.bind_eq_some_iff.1 hx
   rw[JW] at h
   cases hg:FN k G with
   | some R2=>rw[hg] at h;obtain rfl:=Option.some.inj h;grind[WP]
   | none=>rw[hg] at h;exact Yr h
  ·exact Yr h
theorem zt(hT:TTok P I T)(hm:∀ k R,hk k=some R->k<m){len:Nat}{parts:Array (Nat×Operand)}(h:WF T (Gl L) hk m t len parts.toList K=some r):∃ tr,K tr=some r/\TrOK P I L hk m (.buildSlice t len parts) tr:=by
 unfold WF at h
 try simp only[xN,xO] at h
 split at h
 ·rename_i el i hsl
  obtain⟨z,hS,hte,hz,hone,hby⟩:=L8 hT hsl
  have hpl:∀(j:Nat) (q:Nat×Nat),((List.range len).map fun j=>(j*i.size,i.size))[j]?=some q->(fun j=>some (j*i.size,i.size)) j=some q:=by
   grind
  have hzl:z.cells.toList.length=i.size:=by have:=hS.hzs;omega
  cases hb:Nat.ble (len*i.size) 16777216 with
  | false=>simp_all
  | true =>
   rw[hb] at h
   have hb:len*i.size<=16777216:=by simpa using hb
   have exec:∀ {e:Operand->Value} {v:Value} {w w':World} {ty:TypeId},(Instr.buildSlice t len (parts.map fun(i,x)=>(i,e x))).run P w=.ok v w'->(execOp e ⟨none,.buildSlice t len parts,ty, "", #[],none⟩).run P w=.ok (.value v) w':=by
    intro e v w w' ty hr
    have h2:execOp e ⟨none,.buildSlice t len parts,ty, "", #[],none⟩=(do pure (.value (<-Instr.buildSlice t len (parts.map fun(i,x)=>(i,e x))))):=rfl
    simp_all
   simp only[cond_true] at h
   split at h
   ·rename_i τ hτ
    have hn:=hte.ty τ hτ
    cases hnst:A5q τ (Gl L) hk parts.toList with
    | true =>
     rw[hnst,cond_true] at h
     split at h
     ·rename_i cells hbl
      refine⟨_,h,TrOK.mkN fun c e ty hG he hnew=>?_⟩
      obtain⟨vs,g1,g2,g3,g4⟩:=Ue parts.toList (fun j x s _ hs=>he x s hs) _ (fun j=>some (j*i.size,i.size)) hpl parts.toList _ (repL len z.cells.toList) cells (fun p hp=>hp) (by grind[Ai.repL,NY]) (fun u hu=>List.all_eq_true.1 hone u (QB hu)) hbl
      obtain⟨v,w',hr,ho,hst,hbk⟩:=Yq (P:=P) (w:=c.w) (parts:=parts.map fun(i,x)=>(i,e x)) (vs:=vs) hS hb zaD (by rw[g4,Ud,hzl])
      exact⟨v,w',exec hr,_,Ok.newM hnew hG.lt hst ho hbk g2 g3 fun c' hh=>hh⟩
     ·cases h
    | false =>
    rw[hnst,cond_false] at h
    split at h
    ·rename_i cells hbl
     split at h
     ·rename_i l hunf
      refine⟨_,h,⟨fun ty=>Hq fun c e hG he hP=>?_,fun q Rr hq=>Yr hq,fun q hq=>.inr ?_,(fun h=>by cases h)⟩⟩
      ·have hnew:¬c.N m:=(hP.new m ((DI _ _ _).2 rfl)).elim (fun hh=>by grind[ED,Yr]) id
       have hval:∀ j x s,(j,x)∈parts.toList->evR (Gl L) hk x=some s->Rep (c.less (evG (Gl L) hk parts.toList)) s (e x):=by
        intro j x s hm hs
        unfold evR at hs
        split at hs
        ·rename_i a G hx
         obtain rfl:=Option.some.inj hs
         obtain⟨s0,h1,h2⟩:=Option.bind_eq_some_iff.1 hx
         obtain⟨g1,g2,g3⟩:=WP h2
         refine g3 c _ (he x _ h1) (fun k Rr hk'=>?_) _ fun b hb=>?_
         ·obtain⟨R',hR'⟩:=gY hm hx k Rr hk'
          have e1:=Yr hR'
          rw[g1 k Rr hk'] at e1
          obtain rfl:=Option.some.inj e1
          exact hP.res k Rr hR'
         ·obtain⟨k,Rr,hk',hb'⟩:=hb
          obtain⟨R',hR'⟩:=gY hm hx k Rr hk'
          exact⟨k,R',hR',hb'⟩
        ·cases hs
       obtain⟨vs,g1,g2,g3,g4⟩:=Ue parts.toList hval _ (fun j=>some (j*i.size,i.size)) hpl parts.toList _ (repL len z.cells.toList) cells (fun p hp=>hp) (by grind[Ai.repL,NY]) (fun u hu=>List.all_eq_true.1 hone u (QB hu)) hbl
       obtain⟨h5,h6⟩:=gX hunf g2
       obtain⟨v,w',hr,ho,hst,hbk⟩:=Yq (P:=P) (w:=c.w) (parts:=parts.map fun(i,x)=>(i,e x)) (vs:=vs) hS hb zaD (by rw[g4,Ud,hzl])
       have ok:=Ok.newM (c:=c.less (evG (Gl L) hk parts.toList)) (k:=m) (Rr:=.row el τ l) hnew (hG.less _).lt hst ho hbk h5 g3 (fun c' hh=>by show JG c' m el τ.n l.length (flatL τ l);simp_all)
       have:=Ok.consume (Yo _) ok
       grind
      simp_all[DI]
     ·cases h
    ·cases h
   ·split at h
    ·rename_i cells hbl
     refine⟨_,h,TrOK.mkN fun c e ty hG he hnew=>?_⟩
     obtain⟨vs,g1,g2,g3,g4⟩:=Ue parts.toList (fun j x s _ hs=>he x s hs) _ (fun j=>some (j*i.size,i.size)) hpl parts.toList _ (repL len z.cells.toList) cells (fun p hp=>hp) (by grind[Ai.repL,NY]) (fun u hu=>List.all_eq_true.1 hone u (QB hu)) hbl
     obtain⟨v,w',hr,ho,hst,hbk⟩:=Yq (P:=P) (w:=c.w) (parts:=parts.map fun(i,x)=>(i,e x)) (vs:=vs) hS hb zaD (by rw[g4,Ud,hzl])
     exact⟨v,w',exec hr,_,Ok.newM hnew hG.lt hst ho hbk g2 g3 fun c' hh=>hh⟩
    ·cases h
 ·cases h
end
end Go.Ax
namespace Go.Ax
open Go Go.RowKit Go.Eng
set_option linter.unusedVariables false
set_option linter.unusedSimpArgs false
variable {c:Cx}{t:TypeId}{x:Operand}{τ:Ty}{v:Value}{w':World}{y:Operand}
section
variable {P:Program}{I:World->Prop}{L:LX}{ty:TypeId}{T:TT}{R:Type}{K:Tr->Option R}{r:R}{hk:Nat->Option Rs}{m:Nat}
theorem A4a{w:World}{t ty' e:Nat}{z:Value}{sz bytes n m cap2:Nat}{v:Value}{xs news:List Value}{p:Addr}(T:SliceT P t e z sz bytes)(hown:w.ownsG 0 e sz v n xs)(hl:news.length=m*sz)(hnews:∀ j u,news[j]?=some u->w.cell? (p.add j)=some u)(h1:∀ u∈news,u.oneCell'=true)
  (hb:(n+m)*bytes<=140737488355328/\0<bytes) :
  ∃ v' w',(Builtin.append_ #[t,t] ty' #[v,.slice (some p) m cap2]).run P w=.ok v' w'/\w'.ownsG 0 e sz v' (n+m) (xs++news)/\Stp (fun b=>blk v=some b) w w'/\∀ b,blk v'=some b->w.heap.size<=b\/blk v=some b:=by
 obtain⟨i,hi,hz,hsize,hby⟩:=info_parts T.hi
 have hmax:n+m<=maxLen:=by have:=Nat.le_mul_of_pos_right (n+m) hb.2;unfold maxLen;omega
 obtain⟨v',w',hr,h2,h3,h4⟩:=UN (P:=P) w 0 t ty' e i z sz bytes T.ht hi hz hsize hby T.hzs T.hsz v n xs hown p m cap2 news hl hnews h1 hmax hb.1 (Nat.zero_le _)
 refine⟨v',w',hr,h2,?_,?_⟩
 ·grind[Uc,OD,Stp.of_grown]
 ·rcases hown.2 with⟨rfl,rfl⟩|⟨g,cap,cur,fz,rfl,hbg,hg,hnc,hcm,hcs,htake,hfz⟩
  ·have hx:xs=[]:=List.eq_nil_of_length_eq_zero (by simpa using hown.1)
   subst hx
   obtain⟨v2,w2,hr2,k2,_,_⟩:=UN (P:=P) w w.heap.size t ty' e i z sz bytes T.ht hi hz hsize hby T.hzs T.hsz _ 0 [] (World.ownsG_nil w w.heap.size e sz) p m cap2 news hl hnews h1 hmax hb.1 (Nat.le_refl _)
   rw[hr] at hr2
   simp only[Result.ok.injEq] at hr2
   obtain⟨rfl,rfl⟩:=hr2
   exact fun b hb'=>.inl (Ot k2 b hb').1
  ·by_cases hroom:n+m<=cap
   ·have hfit:n*i.size+news.length<=cur.size:=by rw[hl,hcs,hsize,<-Nat.add_mul];exact Nat.mul_le_mul_right _ hroom
    have hr2:=UL (P:=P) w t ty' e i T.ht hi g n cap cur fz hg hfz p m cap2 news zaD hnews h1 hroom hfit
    rw[hr] at hr2
    simp only[Result.ok.injEq] at hr2
    obtain⟨rfl,rfl⟩:=hr2
    exact fun b hb'=>.inr hb'
   ·have holds:∀ j u,xs[j]?=some u->w.cell? ((⟨g,0,none⟩:Addr).add j)=some u:=hown.cells (g:=g) rfl
    obtain⟨v2,w2,hr2,k2,_⟩:=run_append_arg_grows (P:=P) w t ty' e i z sz bytes T.ht hi hz hsize hby T.hzs T.hsz ⟨g,0,none⟩ n cap xs hown.1 holds p m cap2 news hl hnews zaa hmax hb.1
    rw[hr] at hr2
    simp only[Result.ok.injEq] at hr2
    obtain⟨rfl,rfl⟩:=hr2
    exact fun b hb'=>.inl (Ot k2.G b hb').1
theorem A24{w:World}{t ty' e:Nat}{z:Value}{sz bytes n:Nat}{v:Value}{xs:List Value}(T:SliceT P t e z sz bytes)(hown:w.ownsG 0 e sz v n xs):(Builtin.append_ #[t,t] ty' #[v,.slice none 0 0]).run P w=.ok v w:=by
 obtain⟨i,hi,hz,hsize,hby⟩:=info_parts T.hi
 exact UM (P:=P) w 0 t ty' e i sz T.ht hi v n xs hown
theorem QC{w:World}{t ty' e:Nat}{z:Value}{sz bytes n m:Nat}{v u:Value}{xs news:List Value}(T:SliceT P t e z sz bytes)(hown:w.ownsG 0 e sz v n xs)(hsl:Sl w sz u news m)(h1:∀ u∈news,u.oneCell'=true)(hb:(n+m)*bytes<=140737488355328/\0<bytes):
  ∃ v' w',(Builtin.append_ #[t,t] ty' #[v,u]).run P w=.ok v' w'/\w'.ownsG 0 e sz v' (n+m) (xs++news)/\Stp (fun b=>blk v=some b) w w'/\∀ b,blk v'=some b->w.heap.size<=b\/blk v=some b:=by
 obtain⟨a,cap,rfl,hl,_,_,hnone,hcs⟩:=hsl
 cases a with
 | none =>
  obtain⟨rfl,rfl⟩:=hnone rfl
  grind[A24,Stp.refl]
 | some p=>exact A4a T hown hl (hcs p rfl) h1 hb
theorem A25{w:World}{t ty' e:Nat}{z:Value}{sz bytes n m:Nat}{v u:Value}{xs news:List Value}(T:SliceT P t e z sz bytes)(hv:Sl w sz v xs n)(ht:A5n v)(hsl:Sl w sz u news m)(h1:∀ u∈news,u.oneCell'=true)(hm:0<m)(hb:(n+m)*bytes<=140737488355328/\0<bytes):
  ∃ v' w',(Builtin.append_ #[t,t] ty' #[v,u]).run P w=.ok v' w'/\w'.ownsG 0 e sz v' (n+m) (xs++news)/\Stp No w w'/\∀ b,blk v'=some b->w.heap.size<=b:=by
 obtain⟨i,hi,hz,hsize,hby⟩:=info_parts T.hi
 obtain⟨a,cap,rfl,e2,e3,e4,e5,e6⟩:=hv
 obtain⟨a',n',hq⟩:=ht
 simp only[Value.slice.injEq] at hq
 obtain⟨_,q1,q2⟩:=hq
 have q3:cap=n:=zaa
 subst q3
 clear q1 q2 e3
 obtain⟨ax,cx,rfl,x2,x3,x4,x5,x6⟩:=hsl
 cases a with
 | none =>
  obtain⟨rfl,_⟩:=e5 rfl
  have hl:xs=[]:=List.eq_nil_of_length_eq_zero zaa
  subst hl
  obtain⟨v',w',r1,r2,r3,r4⟩:=QC (ty':=ty') (n:=0) (xs:=[]) (v:=.slice none 0 0) T (World.ownsG_nil w 0 e sz) ⟨ax,cx,rfl,x2,x3,x4,x5,x6⟩ h1 hb
  refine⟨v',w',r1,r2,r3.mono (fun i _ h=>nomatch h),fun b hb=>?_⟩
  rcases r4 b hb with h|h
  ·exact h
  ·cases h
 | some p =>
  cases ax with
  | none=>simp_all
  | some q =>
   have hcap:cap+m<=maxLen:=by have:=Nat.le_mul_of_pos_right (cap+m) hb.2;unfold maxLen;omega
   obtain⟨v',w',r1,r2,r3⟩:=run_append_arg_grows (P:=P) w t ty' e i z sz bytes T.ht hi hz hsize hby T.hzs T.hsz p cap cap xs e2 (e6 p rfl) q m cx news x2 (x6 q rfl) zaa hcap hb.1
   exact⟨v',w',r1,own_base r2.G (Nat.zero_le _),(Stp.of_grown r3).mono (fun i _ h=>nomatch h),fun b hb=>(Ot r2.G b hb).1⟩
theorem KE{e:Operand->Value}{s:Operand}{t:Nat}{w:World}(h:(Builtin.append_ #[t,t] ty #[e s,e x]).run P w=.ok v w'):
  (execOp e ⟨none,.call {callee:=.builtin .append,args := #[s,x],argTypes := #[t,t]},ty, "", #[],none⟩).run P w=.ok (.value v) w' :=
 Ip e _ _ _ (by simp_all[builtin])
theorem Uf{b:AV}{l:List (El τ)}(h:ai τ b=some l)(hr:Rep c b v):∀ w',Stp c.O c.w w'->Rd τ l v w':=by
 unfold ai at h
 split at h
 ·rename_i l' hu
  obtain rfl:=Option.some.inj h
  have:=Ua hu (Ai.one hr)
  simp_all[flat,Ai,Rep]
 ·cases h
theorem Yt{l:List (El τ)}(h:∀ w',Stp c.O c.w w'->Rd τ l v w'):∃ cs,Sl c.w τ.n v cs l.length/\Ai c (flatL τ l) cs/\∀ u∈cs,u.oneCell'=true:=by
 obtain⟨a,cap,cs,h1,h2,h3,h4,h5,h6⟩:=MZ h
 have hr:=Ai.of_flatL h5
 exact⟨cs.flatten,⟨a,cap,h1,by rw[XM τ.n cs (F6.lens h5),h5.len],h2,h3,h4,h6 c.w (Stp.refl _ _)⟩,hr,Jm hr⟩
theorem xZ{t:Ty}{l:List (El t)}{l':List (El τ)}(h:ai τ (.sl t l)=some l'):t=τ/\HEq l l':=by
 unfold ai at h
 split at h
 ·rename_i l2 hu
  obtain rfl:=Option.some.inj h
  simp only[Ye] at hu
  split at hu
  ·rename_i l3 h3
   simp only[Option.some.injEq,Prod.mk.injEq,and_true] at hu
   grind[gG]
  ·cases hu
 ·cases h
theorem RJ{G F:Fp}{k:Nat}(h:has k F):has k (G++F):=(J4 _ _ _).2 (.inr h)
theorem Ok.lendOr{G F F':Fp}{s:AV}{ν':Nat->Value}(b:Bool)(hj:Dj G F)(hj':Dj G F')(hlt:∀ b,c.O b->b<c.w.heap.size)(hres:∀ k R,FN k (G++F)=some R->c.N k/\Holds c k R/\∀ b,blk (c.ν k)=some b->c.O b)(hdist:∀ k k' R R' b,FN k (G++F)=some R->FN k' (G++F)=some R'->k≠k'->blk (c.ν k)=some b->blk (c.ν k')≠some b)(hs:b=true->noRd s=true)(hF:b=true->PX F'=true)(ok:Ok (c.less G) F F' s v w' ν'):Ok c (G++F) ((bif b then G else [])++F') s v w' ν':=by
 cases b with
 | false=>exact Ok.consume hj ok
 | true=>exact Ok.borrow hj hj' hlt hres hdist (hs rfl) (hF rfl) ok
theorem A26(hT:TTok P I T)(hm:∀ k R,hk k=some R->k<m)(h:bY T hk m t (Gl L x) ((Gl L y).bind (rdA hk)) K=some r):∃ tr,K tr=some r/\TrOK P I L hk m (.call {callee:=.builtin .append,args := #[x,y],argTypes := #[t,t]}) tr:=by
 unfold bY at h
 try simp only[xN,xO] at h
 split at h
 ·rename_i el i a b G hsl hx hy
  rw[UX] at h
  obtain⟨z,hS,hte,hz,hone,hby⟩:=L8 hT hsl
  obtain⟨s0,hy0,hy1⟩:=Option.bind_eq_some_iff.1 hy
  obtain⟨g1,g2,g3⟩:=WP hy1
  have hGm:∀ q,has q G->q≠m:=fun q hq e=>by grind[ED]
  split at h
  ·rename_i τ hτ
   have hn:=hte.ty τ hτ
   rw[<-hn] at hS
   split at h
   ·rename_i m' hunf
    have hplain:τ.plain=true->∀ l,PX [(m,Rs.row el τ l)]=true:=fun hp l=>by simp[PX,bQ,hp]
    -- a new row out of nothing
    have fresh:∀(l':List (El τ)),fits0 (lapp0 l' m') i.bytes=true->(∀(c:Cx) (e:Operand->Value),W9 c L e->(∀ k Rr,FN k G=some Rr->c.N k/\Holds c k Rr/\∀ b,blk (c.ν k)=some b->c.O b)->∃ v' w' vs,(Builtin.append_ #[t,t] 0 #[e x,e y]).run P c.w=.ok v' w'/\(∀ ty,(Builtin.append_ #[t,t] ty #[e x,e y]).run P c.w=.ok v' w')/\w'.ownsG 0 el τ.n v' (l'++m').length vs/\Ai (c.less G) (flatL τ (l'++m')) vs/\Stp No c.w w'/\∀ b,blk v'=some b->c.w.heap.size<=b) ->
      TrOK P I L hk m (.call {callee:=.builtin .append,args := #[x,y],argTypes := #[t,t]}) ⟨.nm m,G,(bif τ.plain then G else [])++[(m,.row el τ (l'++m'))],false,1⟩:=by
     intro l' hfits hrun
     refine⟨fun ty=>Hq fun c e hG he hP=>?_,g1,fun q hq=>?_,(fun h=>by cases h)⟩
     ·have hnew:¬c.N m:=(hP.new m (RJ ((DI _ _ _).2 rfl))).elim (fun hh=>absurd rfl (hGm m hh)) id
      have hres:∀ k Rr,FN k G=some Rr->c.N k/\Holds c k Rr/\∀ b,blk (c.ν k)=some b->c.O b:=fun k Rr hk=>hP.res k Rr hk
      obtain⟨v',w',vs,_,hr,ho,hrp,hst,hbk⟩:=hrun c e he hres
      have ok:=Ok.newM (c:=c.less G) (k:=m) (Rr:=.row el τ (l'++m')) hnew (hG.less _).lt hst ho hbk hrp (Jm hrp) (fun c' hh=>hh)
      have:=Ok.lendOr (F:=[]) τ.plain (Yo G) (fun q hq hq'=>hGm q hq ((DI _ _ _).1 hq')) hG.lt zaJ (by rw[List.append_nil];exact hP.dist) (fun _=>rfl) (fun hp=>hplain hp _) ok
      grind[KE]
     grind[J4,DI]
    split at h
    ·rename_i k
     split at h
     ·rename_i e' t' l hkk
      split at h
      ·rename_i l' hul
       obtain⟨rfl,hll⟩:=xZ hul
       obtain rfl:=eq_of_heq hll
       cases hc:(Nat.beq e' el&&Nat.beq t'.n t'.n&&XK k G) with
       | false=>grind
       | true =>
        cases hf:fits0 (lapp0 l m') i.bytes with
        | false=>simp_all
        | true =>
         rw[hc,hf] at h
         simp only[Bool.and_eq_true] at hc
         obtain rfl:=Hl hc.1.1
         have hkG:=WO.1 hc.2
         have hdj:Dj G [(k,.row e' t' l)]:=fun q hq hq'=>hkG ((DI _ _ _).1 hq'▸hq)
         refine⟨_,h,⟨fun ty=>Hq fun c e hG he hP=>?_,fun q Rr hq=>?_,fun q hq=>?_,(fun h=>by cases h)⟩⟩
         ·have hnew:¬c.N m:=(hP.new m (RJ ((DI _ _ _).2 rfl))).elim (fun hh=>by
           rcases(J4 _ _ _).1 hh with hh|hh
           ·grind
           grind[DI]) id
          have hP1:=Pre.less (F'':=[]) hdj hP (fun q hq=>absurd hq (J3 q)) hG.lt
          obtain⟨hN,⟨vs,hown,hrv,hov⟩,hO⟩:=MG hP1
          have hry:=g3 c _ (he y _ hy0) (fun k Rr hk=>hP.res k Rr (GV hk)) G (fun b h=>h)
          obtain⟨cs,hsl2,hrc,hoc⟩:=Yt (Uf hunf hry)
          have hux:=he x _ hx
          simp only[Rep] at hux
          have hfits:(l.length+m'.length)*i.bytes<=140737488355328:=zbd
          obtain⟨v',w',hr,h2,h3,h4⟩:=QC (ty':=ty) hS hown hsl2 hoc ⟨hfits,hby⟩
          rw[<-List.length_append] at h2
          have hle:Cx.Le none (c.less G) ⟨fun q=>(c.less G).N q\/q=m,fun q=>if q=m then v' else(c.less G).ν q,fun b=>((c.less G).O b/\blk ((c.less G).ν k)≠some b)\/blk v'=some b,w'⟩ :=
           ⟨fun q _ h=>⟨.inl h,if_neg fun(e:q=m)=>hnew (e▸h)⟩,fun w'' hs=>h3.then hs (fun i _ h=>hO i h) fun i hi h=>by
            grind⟩
          have hrow:Ai ⟨fun q=>(c.less G).N q\/q=m,fun q=>if q=m then v' else(c.less G).ν q,fun b=>((c.less G).O b/\blk ((c.less G).ν k)≠some b)\/blk v'=some b,w'⟩ (flatL t' (l++m')) (vs++cs):=by
           rw[MM];exact(Ai.le hle _ _ (EM _) hrv).app (Ai.le hle _ _ (EM _) hrc)
          have ok:=Ok.turn (c:=c.less G) (k:=k) (k':=m) (R:=.row e' t' l) (R':=.row e' t' (l++m')) (s:=.nm m) (v:=v') (u:=v') hN hnew hO h3 (fun b hb=>⟨(Ot h2 b hb).2,h4 b hb⟩)
           ⟨vs++cs,by simp_all,hrow,Jm hrow⟩ za2
          have:=Ok.lendOr t'.plain hdj (fun q hq hq'=>hGm q hq ((DI _ _ _).1 hq')) hG.lt hP.res hP.dist (fun _=>rfl) (fun hp=>hplain hp _) ok
          exact⟨v',w',_,KE (by rw[hux.2.1];exact hr),this⟩
         ·rw[JW] at hq
          cases hg:FN q G with
          | some R2=>simp_all
          | none=>rw[hg] at hq;obtain⟨rfl,rfl⟩:=IB (show FN q [(k,_)]=some Rr from hq);exact hkk
         grind[J4,DI]
      ·cases h
     ·cases h
    ·cases hf:fits0 m' i.bytes with
     | false=>simp_all
     | true =>
      rw[hf] at h
      refine⟨_,h,?_⟩
      have:=fresh [] (by grind[lapp0]) (fun c e he hres=>?_)
      ·simp_all
      ·have hry:=g3 c _ (he y _ hy0) hres G (fun b h=>h)
       obtain⟨cs,hsl2,hrc,hoc⟩:=Yt (Uf hunf hry)
       have hux:=he x _ hx
       simp only[Rep] at hux
       have hfits:(0+m'.length)*i.bytes<=140737488355328:=by have:=of_decide_eq_true hf;simp_all
       obtain⟨v',w',hr,h2,h3,h4⟩:=QC (ty':=0) hS (World.ownsG_nil c.w 0 el τ.n) hsl2 hoc ⟨hfits,hby⟩
       refine⟨v',w',cs,by simp_all,fun ty=>by rw[hux];exact hr,by grind,by grind,h3.mono (fun i _ h=>by cases h),fun b hb=>(h4 b hb).elim id (fun h=>by cases h)⟩
    ·rename_i t' l
     split at h
     ·rename_i l' hul
      obtain⟨rfl,hll⟩:t'=τ/\HEq l l':=by
       unfold ai at hul
       split at hul
       ·rename_i l2 hu
        obtain rfl:=Option.some.inj hul
        simp only[Ye] at hu
        split at hu
        ·rename_i l3 h3
         simp only[Option.some.injEq,Prod.mk.injEq,and_true] at hu
         grind[gG]
        ·cases hu
       ·cases hul
      obtain rfl:=eq_of_heq hll
      cases hem:lemp0 m' with
      | true =>
       rw[hem] at h
       have hm0:m'=[]:=by grind[lemp0]
       subst hm0
       refine⟨_,h,⟨fun ty=>Hq fun c e hG he hP=>?_,g1,fun q hq=>absurd hq (J3 q),(fun hr=>by simp_all)⟩⟩
       have hux:=Rep.le (c.less_le G) _ _ (Gt _) (he x _ hx)
       have hry:=g3 c _ (he y _ hy0) (fun k Rr hk=>hP.res k Rr hk) G (fun b h=>h)
       obtain⟨cs,hsl2,hrc,hoc⟩:=Yt (Uf hunf hry)
       have hux':=hux
       simp only[Rep] at hux'
       obtain⟨cs2,hsl3,_,_⟩:=Yt hux'.2
       obtain⟨inf,hi,hz1,hsize,hbytes⟩:=info_parts hS.hi
       have hrun:(Builtin.append_ #[t,t] ty #[e x,e y]).run P c.w=.ok (e x) c.w:=by
        obtain⟨a1,cap1,e1,_,e3,e4,e5,_⟩:=hsl3
        obtain⟨ax,cx,x1,x2,x3,x4,x5,x6⟩:=hsl2
        rw[e1,x1]
        exact run_append_nothing c.w t t ty el inf hS.ht hi _ _ _ e3 _ ⟨.inl ⟨el,hS.ht⟩,fun w'=>by simp[Builtin.lenOf],by cases ax<;>simp[Builtin.firstCells,loadCells,loadCellsFrom],by cases ax<;>simp[Builtin.firstCells,loadCells,loadCellsFrom],by simp,by simp⟩
       obtain⟨ν',ok⟩:=Ok.pure (c:=c.less G) (w':=c.w) hux (Stp.refl _ _)
       have:=Ok.consume (Yo G) ok
       grind[KE]
      | false =>
       cases hf:fits0 (lapp0 l m') i.bytes with
       | false=>simp_all
       | true =>
        rw[hem,hf] at h
        refine⟨_,h,fresh l hf (fun c e he hres=>?_)⟩
        have hry:=g3 c _ (he y _ hy0) hres G (fun b h=>h)
        obtain⟨cs,hsl2,hrc,hoc⟩:=Yt (Uf hunf hry)
        have hux:=Rep.le (c.less_le G) _ _ (Gt _) (he x _ hx)
        simp only[Rep] at hux
        obtain⟨cs2,hsl3,hrc2,hoc2⟩:=Yt hux.2
        have hm0:0<m'.length:=by
         grind[lemp0]
        have hfits:(l.length+m'.length)*i.bytes<=140737488355328:=zbd
        have happ:∀ ty,∃ v' w',(Builtin.append_ #[t,t] ty #[e x,e y]).run P c.w=.ok v' w'/\w'.ownsG 0 el t'.n v' (l.length+m'.length) (cs2++cs)/\Stp No c.w w'/\∀ b,blk v'=some b->c.w.heap.size<=b:=fun ty=>A25 (ty':=ty) hS hsl3 hux.1 hsl2 hoc hm0 ⟨hfits,hby⟩
        obtain⟨v',w',hr,h2,h3,h4⟩:=happ 0
        refine⟨v',w',cs2++cs,hr,fun ty=>?_,by simp_all,by rw[MM];exact hrc2.app hrc,h3,h4⟩
        exact hr
     ·cases h
    ·cases h
   ·cases h
  ·cases h
 ·cases h
theorem SX{e:Operand->Value}{s:Operand}{t t':Nat}{w:World}(h:(Builtin.append_ #[t,t'] ty #[e s,e x]).run P w=.ok v w'):
  (execOp e ⟨none,.call {callee:=.builtin .append,args := #[s,x],argTypes := #[t,t']},ty, "", #[],none⟩).run P w=.ok (.value v) w' :=
 Ip e _ _ _ (by simp_all[builtin])
theorem zu(hT:TTok P I T)(hm:∀ k R,hk k=some R->k<m){t':TypeId}(h:WJ T hk m t t' (Gl L x) (Gl L y) K=some r):∃ tr,K tr=some r/\TrOK P I L hk m (.call {callee:=.builtin .append,args := #[x,y],argTypes := #[t,t']}) tr:=by
 unfold WJ at h
 simp only[Yd,fZ] at h
 split at h
 ·rename_i el i k l hsl hu hx hy
  obtain⟨z,hS,hte,hz,hone,hby0⟩:=L8 hT hsl
  cases hc:(Tm T el&&Nat.beq i.bytes 1&&Nat.beq i.size 1) with
  | false=>simp_all
  | true =>
  rw[hc,cond_true] at h
  simp only[Bool.and_eq_true] at hc
  have hby:i.bytes=1:=Hl hc.1.2
  have hsz:i.size=1:=Hl hc.2
  split at h
  ·rename_i e' l0 hkk
   cases he':Nat.beq e' el with
   | false=>simp_all
   | true =>
   rw[he',cond_true] at h
   obtain rfl:=Hl he'
   cases hf:fits0 (lapp0 l0 l) 1 with
   | false=>simp_all
   | true =>
   rw[hf,cond_true] at h
   have hfits:l0.length+l.length<=140737488355328:=zbd
   obtain⟨iu,hiu,huu⟩:=KU hT hu
   have hstr:=hiu.und
   rw[huu] at hstr
   refine⟨_,h,⟨fun ty=>Hq fun c e hG he hP=>?_,fun q Rr hq=>?_,fun q hq=>?_,(fun h=>by cases h)⟩⟩
   ·have hnew:¬c.N m:=(hP.new m ((DI _ _ _).2 rfl)).elim (fun hh=>by
     grind[DI]) id
    obtain⟨hN,⟨vs,hown,hrv,hov⟩,hO⟩:=MG hP
    have hux:=he x _ hx
    have huy:=he y _ hy
    simp only[Rep] at hux huy
    obtain⟨inf,hi,hz1,hsize,hbytes⟩:=info_parts hS.hi
    obtain⟨v',w',hr,h2,h3,h4⟩:=Vy (P:=P) c.w t t' ty e' inf z hS.ht hstr hi hz1 zaa zaa (by rw[hS.hzs];exact hsz) (c.ν k) l0.length vs hown ⟨l.toArray⟩ (by show l0.length+l.toArray.size<=_;omega)
    have hls:(⟨l.toArray⟩:ByteArray).size=l.length:=by show l.toArray.size=_;simp
    have hsc:Lib.strCells ⟨l.toArray⟩=l.map fun b=>Value.int .u8 b.toNat:=by simp[Lib.strCells]
    rw[hls,<-List.length_append,hsc] at h2
    have hst:Stp (fun b=>blk (c.ν k)=some b) c.w w':=by grind[Uc,OD,Stp.of_grown]
    have hbk:∀ b,blk v'=some b->c.w.heap.size<=b\/blk (c.ν k)=some b:=by grind[Uc,OD]
    have hle:Cx.Le none c ⟨fun q=>c.N q\/q=m,fun q=>if q=m then v' else c.ν q,fun b=>(c.O b/\blk (c.ν k)≠some b)\/blk v'=some b,w'⟩ :=
     ⟨fun q _ h=>⟨.inl h,if_neg fun(e:q=m)=>hnew (e▸h)⟩,fun w'' hs=>hst.then hs (fun i _ h=>hO i h) fun i hi h=>by
      grind⟩
    have hrow:Ai ⟨fun q=>c.N q\/q=m,fun q=>if q=m then v' else c.ν q,fun b=>(c.O b/\blk (c.ν k)≠some b)\/blk v'=some b,w'⟩ (flatL .u8 (l0++l)) (vs++l.map fun b=>Value.int .u8 b.toNat):=by
     rw[MM];exact(Ai.le hle _ _ (EM _) hrv).app (gU _ l)
    have ok:=Ok.turn (c:=c) (k:=k) (k':=m) (R:=.row e' .u8 l0) (R':=.row e' .u8 (l0++l)) (s:=.nm m) (v:=v') (u:=v') hN hnew hO hst (fun b hb=>⟨(Ot h2 b hb).2,hbk b hb⟩)
     ⟨vs++l.map fun b=>Value.int .u8 b.toNat,by show World.ownsG w' 0 e' 1 (if m=m then v' else _) _ _;simp_all,hrow,Jm hrow⟩ za2
    exact⟨v',w',_,SX zaD,ok⟩
   ·obtain⟨rfl,rfl⟩:=IB hq;exact hkk
   simp_all[DI]
  ·cases h
 ·cases h
theorem zU8_ok(c:Cx){z:Value}{l:List AV}(h:z.cells.toList.map AV.of=l)(hz:zU8 l=true):z.cells = #[.int .u8 0]:=by
 unfold zU8 at hz
 split at hz
 ·rename_i x
  have hx:x=0:=UInt8.toNat_inj.1 (Hl hz)
  subst hx
  have hr:=NY c z.cells.toList
  rw[h] at hr
  simp only[Ai,Rep] at hr
  obtain⟨a,r,he,ha,hr⟩:=hr
  have:z.cells.toList=[Value.int .u8 0]:=by rw[he,hr,ha];rfl
  grind
 ·cases hz
theorem zx(hT:TTok P I T)(hm:∀ k R,hk k=some R->k<m){t':TypeId}(h:WL T hk m t t' (Gl L x) (Gl L y) K=some r):∃ tr,K tr=some r/\TrOK P I L hk m (.call {callee:=.builtin .append,args := #[x,y],argTypes := #[t,t']}) tr:=by
 unfold WL at h
 simp only[Yd,fZ,rD,O9] at h
 split at h
 ·rename_i el i k nn hsl hu hx hy
  obtain⟨z,hS,hte,hz,hone,hby0⟩:=L8 hT hsl
  cases hc:(zU8 i.zero&&Nat.beq i.bytes 1&&Nat.beq i.size 1) with
  | false=>simp_all
  | true =>
  rw[hc,cond_true] at h
  simp only[Bool.and_eq_true] at hc
  have hby:i.bytes=1:=Hl hc.1.2
  have hsz:i.size=1:=Hl hc.2
  split at h
  ·rename_i e' l0 hkk
   cases he':(Nat.beq e' el&&ile0 0 nn) with
   | false=>simp_all
   | true =>
   rw[he',cond_true] at h
   simp only[Bool.and_eq_true] at he'
   have hnn:0<=nn:=of_decide_eq_true he'.2
   obtain rfl:=Hl he'.1
   obtain⟨q0,hq0⟩:∃ q0:Nat,nn=(q0:Int):=⟨nn.toNat,by omega⟩
   have hrep:lrep0 nn (0:UInt8)=List.replicate q0 0:=by simp_all[lrep0]
   rw[hrep] at h
   generalize hlq:List.replicate q0 (0:UInt8)=l at h
   have hlql:l.length=q0:=zaJ
   cases hf:fits0 (lapp0 l0 l) 1 with
   | false=>simp_all
   | true =>
   rw[hf,cond_true] at h
   have hfits:l0.length+l.length<=140737488355328:=zbd
   obtain⟨iu,hiu,huu⟩:=KU hT hu
   have hstr:=hiu.und
   rw[huu] at hstr
   refine⟨_,h,⟨fun ty=>Hq fun c e hG he hP=>?_,fun q Rr hq=>?_,fun q hq=>?_,(fun h=>by cases h)⟩⟩
   ·have hnew:¬c.N m:=(hP.new m ((DI _ _ _).2 rfl)).elim (fun hh=>by
     grind[DI]) id
    obtain⟨hN,⟨vs,hown,hrv,hov⟩,hO⟩:=MG hP
    have hux:=he x _ hx
    have huy:=he y _ hy
    simp only[Rep] at hux huy
    obtain⟨inf,hi,hz1,hsize,hbytes⟩:=info_parts hS.hi
    have hzc:z.cells = #[.int .u8 0]:=zU8_ok c hz hc.1.1
    obtain⟨v',w',hr,h2,h3,h4⟩:=UO (P:=P) c.w t t' ty e' inf z .i64 .i64 hS.ht hstr hi hz1 zaa zaa hzc (c.ν k) l0.length vs hown q0 zaa
    have hsc:List.replicate q0 (Value.int .u8 0)=l.map fun b=>Value.int .u8 b.toNat:=by grind[List.map_replicate]
    rw[<-hlql,<-List.length_append,hlql,hsc] at h2
    rw[hq0] at huy
    have hst:Stp (fun b=>blk (c.ν k)=some b) c.w w':=by grind[Uc,OD,Stp.of_grown]
    have hbk:∀ b,blk v'=some b->c.w.heap.size<=b\/blk (c.ν k)=some b:=by grind[Uc,OD]
    have hle:Cx.Le none c ⟨fun q=>c.N q\/q=m,fun q=>if q=m then v' else c.ν q,fun b=>(c.O b/\blk (c.ν k)≠some b)\/blk v'=some b,w'⟩ :=
     ⟨fun q _ h=>⟨.inl h,if_neg fun(e:q=m)=>hnew (e▸h)⟩,fun w'' hs=>hst.then hs (fun i _ h=>hO i h) fun i hi h=>by
      grind⟩
    have hrow:Ai ⟨fun q=>c.N q\/q=m,fun q=>if q=m then v' else c.ν q,fun b=>(c.O b/\blk (c.ν k)≠some b)\/blk v'=some b,w'⟩ (flatL .u8 (l0++l)) (vs++l.map fun b=>Value.int .u8 b.toNat):=by
     rw[MM];exact(Ai.le hle _ _ (EM _) hrv).app (gU _ l)
    have ok:=Ok.turn (c:=c) (k:=k) (k':=m) (R:=.row e' .u8 l0) (R':=.row e' .u8 (l0++l)) (s:=.nm m) (v:=v') (u:=v') hN hnew hO hst (fun b hb=>⟨(Ot h2 b hb).2,hbk b hb⟩)
     ⟨vs++l.map fun b=>Value.int .u8 b.toNat,by show World.ownsG w' 0 e' 1 (if m=m then v' else _) _ _;simp_all,hrow,Jm hrow⟩ za2
    exact⟨v',w',_,SX zaD,ok⟩
   ·obtain⟨rfl,rfl⟩:=IB hq;exact hkk
   simp_all[DI]
  ·cases h
 ·cases h
theorem zy(hT:TTok P I T)(hm:∀ k R,hk k=some R->k<m)(h:WI T hk m t (Gl L x) (Gl L y) K=some r):∃ tr,K tr=some r/\TrOK P I L hk m (.call {callee:=.builtin .append,args := #[x,y],argTypes := #[t,t]}) tr:=by
 unfold WI at h
 split at h
 ·rename_i el i a j hsl hx hy
  obtain⟨z,hS,hte,hz,hone,hby⟩:=L8 hT hsl
  split at h
  ·rename_i ej szj nj cb hjj
   have hjm:=hm j _ hjj
   have hGj:∀ q,has q [(j,Rs.rowA ej szj nj cb)]->q≠m:=fun q hq e=>by grind[DI]
   cases hb:Nat.beq szj i.size with
   | false=>simp_all
   | true =>
    rw[hb,cond_true] at h
    obtain rfl:=Hl hb
    -- the second operand as a slice
    have second:∀ {c:Cx} {e:Operand->Value},W9 c L e->Holds c j (.rowA ej i.size nj cb)->∃ cs,Sl c.w i.size (e y) cs nj/\Ai c cb cs/\∀ u∈cs,u.oneCell'=true:=by
     intro c e he hj
     have hv:=he y _ hy
     simp only[Rep] at hv
     obtain⟨vs,h1,h2,h3⟩:=hj
     grind[Sl.of_ownG]
    split at h
    ·cases hf:Nat.ble (nj*i.bytes) 140737488355328 with
     | false=>simp_all
     | true =>
      rw[hf,cond_true] at h
      refine⟨_,h,⟨fun ty=>Hq fun c e hG he hP=>?_,fun q Rr hq=>?_,fun q hq=>?_,(fun h=>by cases h)⟩⟩
      ·have hnew:¬c.N m:=(hP.new m ((DI _ _ _).2 rfl)).elim (fun hh=>absurd rfl (hGj m hh)) id
       obtain⟨hN,hH,hO⟩:=hP.res j _ (by rw[Cb,if_pos rfl])
       obtain⟨cs,s1,s2,s3⟩:=second he hH
       have hux:=he x _ hx
       simp only[Rep] at hux
       obtain⟨v',w',hr,h2,h3,h4⟩:=QC (ty':=ty) (xs:=[]) hS (World.ownsG_nil c.w 0 el i.size) s1 s3 ⟨by simp_all,hby⟩
       rw[Nat.zero_add,List.nil_append] at h2
       have ok:=Ok.newM (c:=c.less [(j,.rowA ej i.size nj cb)]) (k:=m) (Rr:=.rowA el i.size nj cb) hnew (hG.less _).lt (h3.mono fun i _ h=>by cases h) h2 (fun b hb=>(h4 b hb).resolve_right fun h=>by cases h) (Ai.le (Cx.less_le _ _) _ _ (EM _) s2) s3 (fun c' hh=>hh)
       have:=Ok.consume (Yo _) ok
       grind[KE]
      ·obtain⟨rfl,rfl⟩:=IB hq;exact hjj
      simp_all[DI]
    ·rename_i k
     split at h
     ·rename_i e' sz n ca hkk
      cases hc:(Nat.beq e' el&&Nat.beq sz i.size && !Nat.beq k j&&Nat.ble ((n+nj)*i.bytes) 140737488355328) with
      | false=>simp_all
      | true =>
       rw[hc,cond_true,EN] at h
       simp only[Bool.and_eq_true,Bool.not_eq_true'] at hc
       obtain⟨⟨⟨c1,c2⟩,c3⟩,c4⟩:=hc
       obtain rfl:=Hl c1
       obtain rfl:=Hl c2
       have hkj:k≠j:=fun e=>zaD
       have hdj:Dj [(j,Rs.rowA ej i.size nj cb)] [(k,Rs.rowA e' i.size n ca)]:=fun q hq hq'=>hkj (((DI _ _ _).1 hq').symm.trans ((DI _ _ _).1 hq))
       refine⟨_,h,⟨fun ty=>Hq fun c e hG he hP=>?_,fun q Rr hq=>?_,fun q hq=>?_,(fun h=>by cases h)⟩⟩
       ·have hnew:¬c.N m:=(hP.new m ((DI _ _ _).2 rfl)).elim (fun hh=>by
         rcases(J4 _ [(j,_)] [(k,_)]).1 hh with hh|hh
         ·grind
         grind[DI]) id
        obtain⟨_,hH,_⟩:=hP.res j _ (by rw[Cb,if_pos rfl])
        obtain⟨cs,s1,s2,s3⟩:=second he hH
        have hP1:=Pre.less (F'':=[]) hdj hP (fun q hq=>absurd hq (J3 q)) hG.lt
        obtain⟨hN,⟨vs,hown,hrv,hov⟩,hO⟩:=MG hP1
        have hux:=he x _ hx
        simp only[Rep] at hux
        obtain⟨v',w',hr,h2,h3,h4⟩:=QC (ty':=ty) hS hown s1 s3 ⟨by simpa using c4,hby⟩
        have hle:Cx.Le none (c.less [(j,Rs.rowA ej i.size nj cb)]) ⟨fun q=>(c.less [(j,Rs.rowA ej i.size nj cb)]).N q\/q=m,fun q=>if q=m then v' else(c.less [(j,Rs.rowA ej i.size nj cb)]).ν q,fun b=>((c.less [(j,Rs.rowA ej i.size nj cb)]).O b/\blk ((c.less [(j,Rs.rowA ej i.size nj cb)]).ν k)≠some b)\/blk v'=some b,w'⟩ :=
         ⟨fun q _ h=>⟨.inl h,if_neg fun(e:q=m)=>hnew (e▸h)⟩,fun w'' hs=>h3.then hs (fun i _ h=>hO i h) fun i hi h=>by
          grind⟩
        have hrow:=(Ai.le hle _ _ (EM _) hrv).app (Ai.le hle _ _ (EM _) (Ai.le (Cx.less_le _ [(j,Rs.rowA ej i.size nj cb)]) _ _ (EM _) s2))
        have ok:=Ok.turn (c:=c.less [(j,Rs.rowA ej i.size nj cb)]) (k:=k) (k':=m) (R:=.rowA e' i.size n ca) (R':=.rowA e' i.size (n+nj) (ca++cb)) (s:=.nm m) (v:=v') (u:=v') hN hnew hO h3 (fun b hb=>⟨(Ot h2 b hb).2,h4 b hb⟩)
         ⟨vs++cs,by simp_all,hrow,fun u hu=>(List.mem_append.1 hu).elim (hov u) (s3 u)⟩ za2
        exact⟨v',w',_,KE (by rw[hux.2.1];exact hr),Ok.consume hdj ok⟩
       ·rw[Cb] at hq
        split at hq
        ·simp_all
        ·obtain⟨rfl,rfl⟩:=IB (show FN q [(k,_)]=some Rr from hq);exact hkk
       simp_all[DI]
     ·cases h
    ·cases h
  ·cases h
 ·cases h
end
end Go.Ax
namespace Go.Ax
open Go Go.RowKit Go.Eng
set_option linter.unusedVariables false
set_option linter.unusedSimpArgs false
section
variable {P:Program}{I:World->Prop}{L:LX}{ty:TypeId}{T:TT}{R:Type}{K:Tr->Option R}{r:R}{hk:Nat->Option Rs}{m:Nat}
theorem rP{c:Cx}{τ:Ty}{l:List (El τ)}{us:List Value}(h:Ai c (flatL τ l) us)(n:Nat):Ai c (flatL τ (l.take n)) (us.take (n*τ.n)):=by
 obtain⟨cs,rfl,h2⟩:=h.flatL
 rw[<-Ov τ.n n cs (F6.lens h2)]
 exact Ai.of_flatL (h2.take n)
theorem rQ{c:Cx}{τ:Ty}{l:List (El τ)}{us:List Value}(h:Ai c (flatL τ l) us)(n:Nat):Ai c (flatL τ (l.drop n)) (us.drop (n*τ.n)):=by
 obtain⟨cs,rfl,h2⟩:=h.flatL
 rw[<-Ou τ.n n cs (F6.lens h2)]
 exact Ai.of_flatL (h2.drop n)
theorem A27(hT:TTok P I T){t:TypeId}{x y:Operand}(h:bZ T hk t (Gl L x) ((Gl L y).bind (rdA hk)) K=some r):∃ tr,K tr=some r/\TrOK P I L hk m (.call {callee:=.builtin .copy,args := #[x,y],argTypes := #[t,t]}) tr:=by
 unfold bZ at h
 try simp only[xN,xO] at h
 split at h
 ·rename_i el i k b G hsl hx hy
  obtain⟨z,hS,hte,hz,hone,hby⟩:=L8 hT hsl
  obtain⟨s0,hy0,hy1⟩:=Option.bind_eq_some_iff.1 hy
  obtain⟨g1,g2,g3⟩:=WP hy1
  split at h
  ·rename_i τ e' t' l hτ hkk
   split at h
   ·rename_i m' l' hunf hul
    obtain⟨rfl,hll⟩:=xZ hul
    obtain rfl:=eq_of_heq hll
    cases hc:(Nat.beq e' el&&Nat.beq i.size 1&&Nat.beq t'.n t'.n&&t'.plain&&XK k G) with
    | false=>rw[hc] at h;cases h
    | true =>
     rw[hc] at h
     simp only[Bool.and_eq_true] at hc
     obtain⟨⟨⟨⟨h1,h2⟩,h3⟩,hpl⟩,hni⟩:=hc
     obtain rfl:=Hl h1
     have hi1:=Hl h2
     have hn1:t'.n=1:=by rw[hte.ty _ hτ];exact hi1
     have hkG:=WO.1 hni
     have hdj:∀ R,Dj G [(k,R)]:=fun R q hq hq'=>hkG ((DI _ _ _).1 hq'▸hq)
     have hplain:∀ l,PX [(k,Rs.row e' t' l)]=true:=fun l=>by simp[PX,bQ,hpl]
     refine⟨_,h,⟨fun ty=>Hq fun c e hG he hP=>?_,fun q Rr hq=>?_,fun q hq=>.inl ?_,(fun h=>by cases h)⟩⟩
     ·have hP1:=Pre.less (F'':=[]) (hdj _) hP (fun q hq=>absurd hq (J3 q)) hG.lt
      obtain⟨hN,⟨vs,hown,hrv,hov⟩,hO⟩:=MG hP1
      have hry:=g3 c _ (he y _ hy0) (fun k Rr hk=>hP.res k Rr (GV hk)) G (fun b h=>h)
      obtain⟨cs,hsl2,hrc,hoc⟩:=Yt (Uf hunf hry)
      have hux:=he x _ hx
      simp only[Rep] at hux
      have hvl:vs.length=l.length:=by rw[hown.1,hn1];omega
      have hcl:cs.length=m'.length:=by have:=hsl2.len;rw[hn1] at this;omega
      have fin:∀ w',(∀ ty,(Builtin.copy_ #[t,t] ty #[c.ν k,e y]).run P c.w=.ok (goInt ((min m'.length l.length:Nat):Int)) w')->w'.ownsG 0 e' 1 (c.ν k) l.length (cs.take l.length++vs.drop m'.length)->Stp (fun b=>blk (c.ν k)=some b) c.w w' ->
        ∃ v w' ν',(execOp e ⟨none,.call {callee:=.builtin .copy,args := #[x,y],argTypes := #[t,t]},ty, "", #[],none⟩).run P c.w=.ok (.value v) w'/\Ok c (G++[(k,.row e' t' l)]) (G++[(k,.row e' t' (lcpy0 l m'))]) (.i (min (llen0 m') (llen0 l))) v w' ν':=by
       intro w' hr hw hst
       have hle:Cx.Le none (c.less G) ⟨(c.less G).N,(c.less G).ν,(c.less G).O,w'⟩:=⟨fun q _ h=>⟨h,rfl⟩,fun w'' hs=>hst.then hs (fun i _ h=>hO i h) fun i _ h=>h⟩
       have hrow:Ai ⟨(c.less G).N,(c.less G).ν,(c.less G).O,w'⟩ (flatL t' (lcpy0 l m')) (cs.take l.length++vs.drop m'.length):=by
        unfold lcpy0
        rw[MM]
        have q1:=rP (Ai.le hle _ _ (EM _) hrc) l.length
        have q2:=rQ (Ai.le hle _ _ (EM _) hrv) m'.length
        rw[hn1,Nat.mul_one] at q1 q2
        exact q1.app q2
       have hlen:(lcpy0 l m').length=l.length:=by simp[lcpy0];omega
       have ok:=Ok.change (c:=c.less G) (R:=.row e' t' l) (R':=.row e' t' (lcpy0 l m')) (s:=.i (min (llen0 m') (llen0 l))) (v:=goInt ((min m'.length l.length:Nat):Int)) hN hO (hG.less G).lt hst ⟨_,by rw[hn1,hlen];exact hw,hrow,Jm hrow⟩ (by simp only[Rep,goInt,llen0];congr 1;omega)
       refine⟨_,w',_,Ip e _ _ _ (by simp only[builtin,List.map_toArray,List.map_cons,List.map_nil,Sem.run_bind,hux.2.1,hr _,Result.andThen_ok,Sem.run_pure]),Ok.borrow (hdj _) (hdj _) hG.lt hP.res hP.dist rfl (hplain _) ok⟩
      have hown1:c.w.ownsG 0 e' 1 (c.ν k) l.length vs:=by rw[<-hn1];exact hown
      obtain⟨a,cap,e1,e2,e3,e4,e5,e6⟩:=hsl2
      by_cases hn:min m'.length l.length=0
      ·have hres:cs.take l.length++vs.drop m'.length=vs:=by
        rcases Nat.eq_zero_or_pos l.length with h|h
        ·have:vs=[]:=List.eq_nil_of_length_eq_zero zaa
         subst this;simp[h]
        ·have hm0:m'.length=0:=zaa
         have:cs=[]:=List.eq_nil_of_length_eq_zero zaa
         subst this;simp[hm0]
       have hsz:(P.info? e').map (·.size)=some 1:=by rw[hte.sz,hi1]
       obtain⟨b1,cp,hb⟩:=Tq hown1
       refine fin c.w (fun ty=>?_) (by rw[hres];exact hown1) (Stp.refl _ _)
       rw[hb,e1,hn]
       exact run_copy_none c.w t t ty e' b1 a l.length cp m'.length cap hS.ht hsz hn
      ·have hsz:(P.info? e').map (·.size)=some 1:=by rw[hte.sz,hi1]
       rcases hown1.2 with⟨_,h0⟩|⟨g,cp,cur,fz,hv,hg0,hg,hnc,hcm,hcs',htake,hfz⟩
       ·omega
       cases a with
       | none=>have:=(e5 rfl).1;omega
       | some p =>
        have hcsp:=e6 p rfl
        have hlen:(cs.take l.length).length=Nat.min m'.length l.length:=by rw[List.length_take,hcl];exact Nat.min_comm _ _
        have hmle:Nat.min m'.length l.length<=l.length:=Nat.min_le_right _ _
        have hr:=fun ty=>qw (P:=P) c.w t t ty e' g 0 l.length cp p m'.length cap cur e' fz (cs.take l.length) hS.ht hsz hg hfz hlen (fun j v hj=>hcsp j v (by rw[List.getElem?_take] at hj;split at hj;exact hj;cases hj)) (by rw[hlen];omega) (fun v hv=>hoc v (List.mem_of_mem_take hv))
        rw[hlen] at hr
        simp only[List.take_zero,List.nil_append,Nat.zero_add] at hr
        refine fin _ (fun ty=>by rw[hv,e1];exact hr ty) ?_ ((Stp.of_grown (MR c.w g _)).mono fun i _ h=>by rw[hv];exact h)
        refine⟨by rw[List.length_append,hlen,List.length_drop,hvl];have:Nat.min m'.length l.length=min m'.length l.length:=rfl;omega,.inr ⟨g,cp,_,fz,hv,Nat.zero_le _,setRow_heap c.w g cur _ e' _ hg,hnc,hcm,?_,?_,?_⟩⟩
        ·simp only[List.size_toArray,List.length_append,hlen,List.length_drop,Array.length_toList];omega
        ·rw[Nat.mul_one] at htake ⊢
         rw[List.take_append,List.take_of_length_le (by rw[hlen];exact hmle),hlen]
         congr 1
         rw[<-htake,List.drop_take]
         rcases Nat.le_total m'.length l.length with hml|hml
         ·rw[show Nat.min m'.length l.length=m'.length from Nat.min_eq_left hml]
         ·rw[show Nat.min m'.length l.length=l.length from Nat.min_eq_right hml,Nat.sub_self,show l.length-m'.length=0 from by omega];simp
        ·refine cast (congrArg (fun n=>Q3 n fz) ?_) hfz
         simp only[List.size_toArray,List.length_append,hlen,List.length_drop,Array.length_toList];omega
     ·rw[JW] at hq
      cases hg:FN q G with
      | some R2=>rw[hg] at hq;obtain rfl:=Option.some.inj hq;exact g1 q R2 hg
      | none=>rw[hg] at hq;obtain⟨rfl,rfl⟩:=IB (show FN q [(k,_)]=some Rr from hq);exact hkk
     ·rcases(J4 _ _ _).1 hq with hq|hq
      ·exact(J4 _ _ _).2 (.inl hq)
      ·exact(J4 _ _ _).2 (.inr ((DI _ _ _).2 ((DI _ _ _).1 hq)))
   ·cases h
  ·cases h
 ·cases h
theorem WU{c:Cx}{e:Operand->Value}(he:W9 c L e):∀(xs:List Operand) (ss:List AV),gI (Gl L) xs=some ss->Ai c ss (xs.map e)
 | [],ss,h=>by simp_all[gI,Ai]
 | x::r,ss,h=>by
  simp only[gI] at h
  split at h
  ·rename_i s ss' h1 h2
   obtain rfl:=Option.some.inj h
   simp only[List.map_cons,Ai]
   exact⟨_,_,rfl,he x s h1,WU he _ _ h2⟩
  ·cases h
theorem xe{α:Type}{a:Array α}{x:α}(h:a.toList=[x]):a = #[x]:=zaJ
theorem RN{α:Type}{a:Array α}{x y:α}(h:a.toList=[x,y]):a = #[x,y]:=zaJ
theorem A4b(hT:TTok P I T)(hm:∀ k R,hk k=some R->k<m){op:Op}(h:zY T (Gl L) hk m op K=some r):∃ tr,K tr=some r/\TrOK P I L hk m op tr:=by
 unfold zY at h
 try simp only[xN,xO] at h
 split at h
 ·rename_i x
  obtain⟨s,hs,h⟩:=MX h
  exact⟨_,h,TrOK.mk0 fun ty=>DY fun c e hG he=>⟨e x,by simp[execOp],he x _ hs⟩⟩
 ·rename_i x
  obtain⟨s,hs,h⟩:=MX h
  exact⟨_,h,TrOK.mk0 fun ty=>DY fun c e hG he=>⟨e x,by simp[execOp],he x _ hs⟩⟩
 ·rename_i b x y
  split at h
  ·rename_i c0 hb
   cases c0 with
   | true =>
    obtain⟨s,hs,h⟩:=MX h
    exact⟨_,h,TrOK.mk0 fun ty=>DY fun c e hG he=>⟨e x,by have:=he b _ hb;simp_all[Rep,execOp,asBool],he x _ hs⟩⟩
   | false =>
    obtain⟨s,hs,h⟩:=MX h
    exact⟨_,h,TrOK.mk0 fun ty=>DY fun c e hG he=>⟨e y,by have:=he b _ hb;simp_all[Rep,execOp,asBool],he y _ hs⟩⟩
  ·cases h
 ·rename_i x
  split at h
  ·rename_i k o hx
   exact⟨_,h,TrOK.mk0 fun ty=>DY fun c e hG he=>⟨e x,by have:=he x _ hx;simp only[Rep] at this;obtain⟨_,b,_,h⟩:=this;simp[execOp,h],he x _ hx⟩⟩
  ·rename_i k i s o hx
   exact⟨_,h,TrOK.mk0 fun ty=>DY fun c e hG he=>⟨e x,by have:=he x _ hx;simp only[Rep] at this;obtain⟨_,b,_,h⟩:=this;simp[execOp,h],he x _ hx⟩⟩
  ·rename_i l hx
   exact⟨_,h,TrOK.mk0 fun ty=>DY fun c e hG he=>⟨e x,by have:=he x _ hx;simp only[Rep] at this;obtain⟨p,us,h,_⟩:=this;simp[execOp,h],he x _ hx⟩⟩
  ·cases h
 ·rename_i x i
  split at h
  ·rename_i l hx
   obtain⟨s,hs,h⟩:=MX h
   refine⟨_,h,TrOK.mk0 fun ty=>DY fun c e hG he=>?_⟩
   have:=he x _ hx
   simp only[Rep] at this
   obtain⟨us,hu,hr⟩:=this
   obtain⟨u,hu',hr'⟩:=hr.get hs
   exact⟨u,by
    have h1:execOp e ⟨none,.extract x i,ty, "", #[],none⟩=(do pure (.value (<-Instr.extract (e x) i))):=rfl
    simp_all[Instr.extract],hr'⟩
  ·cases h
 ·rename_i t x
  split at h
  ·rename_i a hx
   exact⟨_,h,TrOK.mk0 fun ty=>DY fun c e hG he=>⟨.bool (!a),by have:=he x _ hx;simp_all[Rep,execOp,Op.unary],by simp only[Rep];rfl⟩⟩
  ·cases h
 ·rename_i t x
  split at h
  ·rename_i a hx
   exact⟨_,h,TrOK.mk0 fun ty=>DY fun c e hG he=>⟨.int .i64 (ineg0 a),by have:=he x _ hx;simp_all[Rep,execOp,Op.unary,Op.intArith,ineg0],by simp only[Rep]⟩⟩
  ·cases h
 ·rename_i t x
  split at h
  ·rename_i a hx
   exact⟨_,h,TrOK.mk0 fun ty=>DY fun c e hG he=>⟨G7 (~~~a),by have:=he x _ hx;simp only[Rep] at this;exact zS this,by simp only[Rep]⟩⟩
  ·cases h
 ·rename_i op t x y yt
  split at h
  ·rename_i a b hx hy
   obtain⟨s,hK,hB⟩:=A1s (P:=P) (t:=t) h (fun hbt=>by
    split at hbt
    ·rename_i hu
     obtain⟨i,hi,hiu⟩:=KU hT hu
     have:=hi.und
     simp_all
    ·cases hbt) (fun he2=>by
    split at he2
    ·rename_i i hi;exact(hT _ _ hi).eq2 he2
    ·cases he2) (fun hen=>by
    split at hen
    ·rename_i i hi
     exact(hT _ _ hi).eqn hen
    ·cases hen) (fun hbs=>by
    split at hbs
    ·rename_i el hu
     obtain⟨i,hi,hiu⟩:=KU hT hu
     have:=hi.und
     simp_all
    ·cases hbs)
   refine⟨_,hK,TrOK.mk0 fun ty=>DY fun c e hG he=>?_⟩
   obtain⟨q1,v',q2,q3⟩:=hB c _ _ c.w (he x _ hx) (he y _ hy)
   exact⟨v',A4V rfl rfl (q1 x y) q2,q3⟩
  ·cases h
 ·exact gW hT h
 ·exact rG hT h
 ·exact A1y h
 ·exact zh hT h
 ·exact rF hT h
 ·exact zi hT h
 ·exact rJ hT h
 ·exact rH hT h
 ·exact zt hT hm h
 ·exact A4Z hT h
 ·rename_i f xs ys
  split at h
  ·rename_i a b ha hb
   refine⟨_,h,TrOK.mk0 fun ty=>DY fun c e hG he=>⟨.func (.func f) (xs.map e) (ys.map e),by simp[execOp,Instr.makeFunc],?_⟩⟩
   grind[Rep,WU,Array.toList_map]
  ·cases h
 ·exact A20 hT h
 ·exact A4X hT h
 ·rename_i t x lo hi mx
  cases hav:(A1m (Gl L x) && !lo.isSome && !hi.isSome && !mx.isSome) with
  | true =>
   rw[hav,cond_true] at h
   simp only[Bool.and_eq_true,Bool.not_eq_true',Option.isSome_eq_false_iff,Option.isNone_iff_eq_none] at hav
   obtain⟨⟨⟨-,rfl⟩,rfl⟩,rfl⟩:=hav
   exact zn hT h
  | false =>
  rw[hav,cond_false] at h
  cases hmk:(markT T&&hi.isSome&&isRow hk (Gl L x)) with
  | true =>
   rw[hmk,cond_true] at h
   split at h
   ·rename_i il hlo;exact zl hT hlo h
   ·cases h
  | false =>
   rw[hmk,cond_false] at h
   split at h
   ·rename_i a F il hx hlo;exact A22 hT hx hlo h
   ·cases h
 ·rename_i b xs ts
  split at h
  ·rename_i x t hx ht
   obtain rfl:=xe hx
   obtain rfl:=xe ht
   exact A21 hT h
  ·rename_i x y hx
   obtain rfl:=RN hx
   split at h
   ·rename_i a b h1 h2
    refine⟨_,h,TrOK.mk0 fun ty=>DY fun c e hG he=>⟨.int .i64 (min a b),Ip e _ _ _ ?_,by simp only[Rep]⟩⟩
    have h1:=he x _ h1
    have h2:=he y _ h2
    simp only[Rep] at h1 h2
    have h3:(if b<a then b else a)=min a b:=zaa
    simp_all[builtin,Builtin.min_,Builtin.min2]
   ·cases h
  ·rename_i x y hx
   obtain rfl:=RN hx
   split at h
   ·rename_i a b h1 h2
    refine⟨_,h,TrOK.mk0 fun ty=>DY fun c e hG he=>⟨.int .i64 (max a b),Ip e _ _ _ ?_,by simp only[Rep]⟩⟩
    have h1:=he x _ h1
    have h2:=he y _ h2
    simp only[Rep] at h1 h2
    have h3:(if b>a then b else a)=max a b:=zaa
    simp_all[builtin,Builtin.max_,Builtin.max2]
   ·cases h
  ·rename_i x y t t' hx ht
   obtain rfl:=RN hx
   obtain rfl:=RN ht
   cases hb:Nat.beq t t' with
   | false =>
    rw[hb,cond_false] at h
    grind[zx,zu]
   | true =>
    rw[hb,cond_true] at h
    obtain rfl:=Hl hb
    grind[zy,A26]
  ·rename_i x y t t' hx ht
   obtain rfl:=RN hx
   obtain rfl:=RN ht
   cases hb:Nat.beq t t' with
   | false=>simp_all
   | true=>rw[hb] at h;obtain rfl:=Hl hb;exact A27 hT h
  ·cases h
 ·cases h
end
end Go.Ax
namespace Go.Ax
open Go Go.RowKit Go.Eng
set_option linter.unusedVariables false
set_option linter.unusedSimpArgs false
def Mc:Nat->List Rs->Fp
 | _,[]=>[]
 | i,R::l=>(i,R)::Mc (i+1) l
def gZ(P:Program)(I:World->Prop)(f:FuncId)(ins:List AV)(Hin:List Rs)(out:AV)(Hout:List (Option Rs)):Prop :=
 ∀(ν:Nat->Value) (O:Nat->Prop) (w:World) (args:List Value),Good I ⟨(· < Hin.length),ν,O,w⟩->Ai ⟨(· < Hin.length),ν,O,w⟩ ins args->Pre ⟨(· < Hin.length),ν,O,w⟩ (Mc 0 Hin) (Hg id 0 Hout) ->
  Calls P f args.toArray w (Ret fun v w'=>∃ ν',Ok ⟨(· < Hin.length),ν,O,w⟩ (Mc 0 Hin) (Hg id 0 Hout) out v w' ν')
theorem kY:∀(l:List Rs) (i k:Nat),FN k (Mc i l)=if i<=k then l[k-i]? else none
 | [],i,k=>by simp[Mc]
 | R::l,i,k=>by
  rw[Mc,Cb,kY l (i+1) k]
  grind
theorem QD(l:List Rs)(k:Nat):FN k (Mc 0 l)=l[k]?:=by rw[kY];simp
theorem OE:∀ {H:List (Option Rs)} {ρ:Nat->Nat} {i j:Nat} {R':Rs},FN j (Hg ρ i H)=some R'->∃ q R,H[q]?=some (some R)/\ρ (i+q)=j/\R'=Ic ρ R
 | [],ρ,i,j,R',h=>za6
 | some R::H,ρ,i,j,R',h=>by
  simp only[Hg] at h
  rw[Cb] at h
  split at h
  ·rename_i e;exact⟨0,R,rfl,by simp_all,(Option.some.inj h).symm⟩
  ·obtain⟨q,R2,h1,h2,h3⟩:=OE h
   exact⟨q+1,R2,by grind,by grind,h3⟩
 | none::H,ρ,i,j,R',h=>by
  simp only[Hg] at h
  obtain⟨q,R2,h1,h2,h3⟩:=OE h
  exact⟨q+1,R2,by grind,by grind,h3⟩
theorem Ug:∀ {H:List (Option Rs)} {ρ:Nat->Nat} {i q:Nat} {R:Rs},(∀ a b,i<=a->a<i+H.length->i<=b->b<i+H.length->ρ a=ρ b->a=b)->H[q]?=some (some R)->FN (ρ (i+q)) (Hg ρ i H)=some (Ic ρ R)
 | [],ρ,i,q,R,_,h=>zbC
 | o::H,ρ,i,0,R,hinj,h=>by
  simp only[List.getElem?_cons_zero,Option.some.injEq] at h
  subst h
  simp only[Hg]
  rw[Cb,if_pos zam]
 | o::H,ρ,i,q+1,R,hinj,h=>by
  have hq:q<H.length:=(List.getElem?_eq_some_iff.1 za0).1
  have ih:=Ug (H:=H) (ρ:=ρ) (i:=i+1) (q:=q) (R:=R) (fun a b h1 h2 h3 h4=>hinj a b zaa zaC zaa zaC) za0
  rw[show i+(q+1)=i+1+q from by omega]
  cases o with
  | none=>simp only[Hg];exact ih
  | some R0 =>
   simp only[Hg]
   rw[Cb,if_neg ?_]
   ·exact ih
   ·intro e
    have:=hinj (i+1+q) i zaa zaC (Nat.le_refl _) zam e
    omega
theorem Yu{H:List (Option Rs)}{k:Nat}{R:Rs}(h:FN k (Hg id 0 H)=some R):H[k]?=some (some R):=by
 obtain⟨q,R2,h1,h2,rfl⟩:=OE h
 simp only[Nat.zero_add,id_eq] at h2
 subst h2
 have:∀ R:Rs,Ic id R=R:=by
  have key:∀ l:List AV,Ib id l=l:=by
   intro l
   have k2:(∀ s:AV,ren id s=s)/\∀ l:List AV,Ib id l=l:=by
    refine⟨fun s=>?_,fun l=>?_⟩
    ·exact AV.rec (motive_1:=fun s=>ren id s=s) (motive_2:=fun l=>Ib id l=l) zaE zaE zaE zaE zaE zaE zaE zaE zaE zaE zaE zaE zaE zaE zaE zaE (fun l h=>by simp only[ren,h]) (fun l h=>by simp only[ren,h]) (fun l h=>by simp only[ren,h]) (fun f a b h1 h2=>by simp_all[ren]) (by simp[Ib]) (fun a l h1 h2=>by simp_all[Ib]) s
    ·exact AV.rec_1 (motive_1:=fun s=>ren id s=s) (motive_2:=fun l=>Ib id l=l) zaE zaE zaE zaE zaE zaE zaE zaE zaE zaE zaE zaE zaE zaE zaE zaE (fun l h=>by simp only[ren,h]) (fun l h=>by simp only[ren,h]) (fun l h=>by simp only[ren,h]) (fun f a b h1 h2=>by simp_all[ren]) (by simp[Ib]) (fun a l h1 h2=>by simp_all[Ib]) l
   exact k2.2 l
  intro R;cases R<;>simp only[Ic,key]
 simp_all
theorem kZ{H:List (Option Rs)}{k:Nat}{R:Rs}(h:H[k]?=some (some R)):has k (Hg id 0 H):=by
 have:=Ug (ρ:=id) (i:=0) (q:=k) (fun a b _ _ _ _ e=>e) h
 simp_all[ED]
theorem zipF_some:∀ {ks:List Nat} {l:List Rs} {k:Nat} {R:Rs},FN k (zipF ks l)=some R->∃ i:Nat,ks[i]?=some k/\l[i]?=some R
 | [],_,k,R,h|_::_,[],k,R,h=>by simp[zipF] at h
 | a::ks,R0::l,k,R,h=>by
  simp only[zipF] at h
  rw[Cb] at h
  split at h
  ·rename_i e;subst e;exact⟨0,rfl,by simpa using h⟩
  ·obtain⟨i,h1,h2⟩:=zipF_some h
   exact⟨i+1,by grind,by grind⟩
theorem Md{k:Nat}:∀ {l:List Nat},Q8 k l=true↔k∈l
 | []=>by simp[Q8]
 | a::r=>by simp[Q8,Md (l:=r)]
theorem Oy:∀ {l:List Nat},nodupB l=true↔l.Nodup
 | []=>by simp[nodupB]
 | a::r=>by
  simp only[nodupB,Bool.and_eq_true,Bool.not_eq_true',List.nodup_cons,Oy (l:=r)]
  rw[<-Md];simp
theorem zipF_get:∀ {ks:List Nat} {l:List Rs} {i k:Nat} {R:Rs},ks.Nodup->ks[i]?=some k->l[i]?=some R->FN k (zipF ks l)=some R
 | [],l,i,k,R,_,h,_|a::ks,[],i,k,R,_,_,h=>zbC
 | a::ks,R0::l,0,k,R,hn,h1,h2=>by
  simp only[List.getElem?_cons_zero,Option.some.injEq] at h1 h2
  subst h1;subst h2
  simp only[zipF];rw[Cb,if_pos rfl]
 | a::ks,R0::l,i+1,k,R,hn,h1,h2=>by
  simp only[List.getElem?_cons_succ] at h1 h2
  have hk:k∈ks:=List.mem_of_getElem? h1
  have:k≠a:=fun e=>(List.nodup_cons.1 hn).1 (e▸hk)
  simp only[zipF];rw[Cb,if_neg this]
  exact zipF_get (List.nodup_cons.1 hn).2 h1 h2
theorem cO{hk:Nat->Option Rs}:∀ {ks:List Nat} {l:List Rs},kM hk ks=some l->l.length=ks.length/\∀(i k:Nat),ks[i]?=some k->∃ R,l[i]?=some R/\hk k=some R
 | [],l,h=>by simp only[kM,Option.some.injEq] at h;simp_all
 | a::ks,l,h=>by
  simp only[kM] at h
  split at h
  ·rename_i R l' h1 h2
   obtain rfl:=Option.some.inj h
   obtain⟨h3,h4⟩:=cO h2
   grind
  ·cases h
theorem NZ{hk:Nat->Option Rs}:∀ {ks:List Nat} {k:Nat} {R:Rs},FN k (rowsOf hk ks)=some R->hk k=some R/\k∈ks/\∃ e t l,R=.row e t l
 | [],k,R,h=>za6
 | a::ks,k,R,h=>by
  simp only[rowsOf] at h
  split at h
  ·rename_i e t l hh
   rw[Cb] at h
   split at h
   ·grind
   ·obtain⟨h1,h2,h3⟩:=NZ h;simp_all
  ·obtain⟨h1,h2,h3⟩:=NZ h;simp_all
theorem Me{hk:Nat->Option Rs}{e:Nat}{t:Ty}{l:List (El t)}:∀ {ks:List Nat} {k:Nat},k∈ks->hk k=some (.row e t l)->FN k (rowsOf hk ks)=some (.row e t l)
 | a::ks,k,h,hh=>by
  simp only[rowsOf]
  rcases List.mem_cons.1 h with rfl|h
  ·rw[hh];simp only;rw[Cb,if_pos rfl]
  ·split
   ·rename_i e' t' l' h'
    rw[Cb]
    by_cases e1:k=a
    ·simp_all
    ·rw[if_neg e1];exact Me h hh
   ·exact Me h hh
theorem Uh:∀ {l acc:List Nat} {k:Nat},k∈nub acc l↔k∈acc\/k∈l
 | [],acc,k=>by simp[nub]
 | a::l,acc,k=>by
  simp only[nub]
  cases h:Q8 a acc with
  | true =>
   simp only[cond_true];rw[Uh (l:=l)]
   have:=Md.1 h
   grind
  | false=>simp only[cond_false];rw[Uh (l:=l)];grind
mutual
theorem A5s{hk:Nat->Option Rs}{c:Cx}{G:Fp}(hres:∀ k R,FN k G=some R->c.N k/\Holds c k R/\∀ b,blk (c.ν k)=some b->c.O b):∀(s:AV) (u:Value),(∀ k∈names s,∀ e t l,hk k=some (.row e t l)->FN k G=some (.row e t l))->Rep c s u->Rep (c.less G) (vw hk s) u
 | .un,u,_,h=>by simp only[vw,Rep]
 | .b _,u,_,h|.i _,u,_,h|.u8 _,u,_,h|.u32 _,u,_,h|.u64 _,u,_,h|.str _,u,_,h|.nil,u,_,h|.gp _,u,_,h=>by simp_all[vw,Rep]
 | .sl t l,u,_,h|.st t l,u,_,h|.sn t l,u,_,h=>Rep.le (c.less_le G) _ _ (Gt _) h
 | .pa k o,u,_,h|.pe k i s o,u,_,h=>by simp only[vw];exact Rep.le (c.less_le G) _ _ (Gt _) h
 | .vs k s a b,u,hn,h=>by
  simp only[vw]
  split
  ·rename_i e t l hh
   cases hc:Nat.beq t.n s with
   | false=>exact Rep.le (c.less_le G) _ _ (Gt _) h
   | true =>
    obtain rfl:=Hl hc
    have hg:=hn k (by simp[names]) e t l hh
    simp only[cond_true,Rep] at h ⊢
    obtain⟨_,p,n,cap,e1,⟨b1,b2,b3,b4⟩,rfl⟩:=h
    obtain⟨_,h2,_⟩:=hres k _ hg
    intro w' hs
    have hr:=JG.reads h2 (fun b hb=>⟨hb.1,fun e=>hb.2 ⟨k,_,hg,e⟩⟩) w' hs
    rw[e1] at hr
    have hnl:n=l.length:=by
     obtain⟨_,_,_,_,hq,_⟩:=hr
     simp_all
    grind[gV]
  ·exact Rep.le (c.less_le G) _ _ (Gt _) h
 | .pt l,u,_,h=>Rep.le (c.less_le G) _ _ (Gt _) h
 | .nm k,u,hn,h=>by
  simp only[vw]
  split
  ·rename_i e t l hh
   have hg:=hn k (by simp[names]) e t l hh
   simp only[Rep] at h ⊢
   obtain⟨_,rfl,_⟩:=h
   obtain⟨_,h2,_⟩:=hres k _ hg
   exact JG.reads h2 fun b hb=>⟨hb.1,fun e=>hb.2 ⟨k,_,hg,e⟩⟩
  ·exact Rep.le (c.less_le G) _ _ (Gt _) h
 | .agg l,u,hn,h=>by
  simp only[vw,Rep] at h ⊢
  obtain⟨us,h1,h2,h3⟩:=h
  exact⟨us,h1,N7 hres l us (by grind[names]) h2,h3⟩
 | .tup l,u,hn,h=>by
  simp only[vw,Rep] at h ⊢
  obtain⟨us,h1,h2⟩:=h
  exact⟨us,h1,N7 hres l us (by grind[names]) h2⟩
 | .fn f a b,u,hn,h=>by
  simp only[vw,Rep] at h ⊢
  obtain⟨us,vs,h1,h2,h3⟩:=h
  simp only[names] at hn
  exact⟨us,vs,h1,N7 hres a us (fun k hk=>hn k (List.mem_append.2 (.inl hk))) h2,N7 hres b vs (fun k hk=>hn k (List.mem_append.2 (.inr hk))) h3⟩
theorem N7{hk:Nat->Option Rs}{c:Cx}{G:Fp}(hres:∀ k R,FN k G=some R->c.N k/\Holds c k R/\∀ b,blk (c.ν k)=some b->c.O b):∀(s:List AV) (u:List Value),(∀ k∈GZ s,∀ e t l,hk k=some (.row e t l)->FN k G=some (.row e t l))->Ai c s u->Ai (c.less G) (kL hk s) u
 | [],u,_,h=>by simp_all[kL,Ai]
 | s::r,u,hn,h=>by
  simp only[kL,Ai] at h ⊢
  simp only[GZ] at hn
  obtain⟨v,t,h1,h2,h3⟩:=h
  exact⟨v,t,h1,A5s hres s v (fun k hk=>hn k (List.mem_append.2 (.inl hk))) h2,N7 hres r t (fun k hk=>hn k (List.mem_append.2 (.inr hk))) h3⟩
end
theorem A28{c:Cx}{t:Option Ty}{a:AV}{u:Value}(h:Rep c a u):Rep c (A1o t a) u:=by
 unfold A1o
 split
 ·exact h
 ·split
  ·grind[Rep,Ua]
  ·split
   ·rename_i x hu
    split
    ·rename_i b hb
     have:=Ua hu (Ai.one h)
     rw[hb] at this
     obtain⟨u',hu',hr⟩:=Ai.un1 this
     simp_all
    ·exact h
   ·exact h
theorem Ui{c:Cx}:∀(ts:List (Option Ty)) {as:List AV} {us:List Value},Ai c as us->Ai c (XL ts as) us
 | t::ts,a::as,us,h=>by
  simp only[XL,Ai] at h ⊢
  obtain⟨u,r,h1,h2,h3⟩:=h
  exact⟨u,r,h1,A28 h2,Ui ts h3⟩
 | [],as,us,h|t::ts,[],us,h=>by simp_all[XL]
end Go.Ax
namespace Go.Ax
open Go Go.RowKit Go.Eng
set_option linter.unusedVariables false
set_option linter.unusedSimpArgs false
mutual
theorem Rep.push{ρ:Nat->Nat}{N N':Nat->Prop}{ν ν':Nat->Value}{O O':Nat->Prop}{w:World}{M:Nat}(hN:∀ k,k<M->N k->N' (ρ k)/\ν' (ρ k)=ν k)(hO:∀ w'',Stp O' w w''->Stp O w w''):∀(s:AV) (u:Value),Py M s=true->Rep ⟨N,ν,O,w⟩ s u->Rep ⟨N',ν',O',w⟩ (Ax.ren ρ s) u
 | .un,u,_,h=>by simp only[Ax.ren,Rep]
 | .b _,u,_,h|.i _,u,_,h|.u8 _,u,_,h|.u32 _,u,_,h|.u64 _,u,_,h|.str _,u,_,h|.nil,u,_,h|.gp _,u,_,h|.sl t l,u,_,h|.st t l,u,_,h|.sn t l,u,_,h=>by simp_all[Ax.ren,Rep]
 | .nm k,u,hn,h=>by
  simp only[Ax.ren,Rep] at h ⊢
  have:=hN k (by simpa [Py] using hn) h.1
  grind
 | .pa k o,u,hn,h=>by
  simp_all[Ax.ren,Rep,Py]
 | .pe k i s o,u,hn,h=>by
  simp_all[Ax.ren,Rep,Py]
 | .vs k s a b,u,hn,h=>by
  simp_all[Ax.ren,Rep,Py]
 | .tup l,u,hn,h=>by
  simp only[Ax.ren,Rep] at h ⊢
  obtain⟨us,h1,h2⟩:=h
  exact⟨us,h1,Ai.push hN hO l us zbQ h2⟩
 | .agg l,u,hn,h=>by
  simp only[Ax.ren,Rep] at h ⊢
  obtain⟨us,h1,h2,h3⟩:=h
  exact⟨us,h1,Ai.push hN hO l us zbQ h2,h3⟩
 | .fn f l q,u,hn,h=>by
  simp only[Ax.ren,Rep] at h ⊢
  obtain⟨us,vs,h1,h2,h3⟩:=h
  simp only[Py,Bool.and_eq_true] at hn
  exact⟨us,vs,h1,Ai.push hN hO l us hn.1 h2,Ai.push hN hO q vs hn.2 h3⟩
 | .pt l,u,hn,h=>by
  simp only[Ax.ren,Rep] at h ⊢
  obtain⟨p,us,h1,h2,h3,h4⟩:=h
  exact⟨p,us,h1,Ai.push hN hO l us (by simp_all[Py]) h2,h3,fun w' hs=>h4 w' (hO w' hs)⟩
theorem Ai.push{ρ:Nat->Nat}{N N':Nat->Prop}{ν ν':Nat->Value}{O O':Nat->Prop}{w:World}{M:Nat}(hN:∀ k,k<M->N k->N' (ρ k)/\ν' (ρ k)=ν k)(hO:∀ w'',Stp O' w w''->Stp O w w''):∀(s:List AV) (u:List Value),NU M s=true->Ai ⟨N,ν,O,w⟩ s u->Ai ⟨N',ν',O',w⟩ (Ib ρ s) u
 | [],u,_,h=>by simp_all[Ib,Ai]
 | s::r,u,hn,h=>by
  simp only[Ib,Ai] at h ⊢
  simp only[NU,Bool.and_eq_true] at hn
  obtain⟨v,t,h1,h2,h3⟩:=h
  exact⟨v,t,h1,Rep.push hN hO s v hn.1 h2,Ai.push hN hO r t hn.2 h3⟩
end
theorem Holds.push{ρ:Nat->Nat}{N N':Nat->Prop}{ν ν':Nat->Value}{O O':Nat->Prop}{w:World}{M k:Nat}{R:Rs}(hN:∀ k,k<M->N k->N' (ρ k)/\ν' (ρ k)=ν k)(hO:∀ w'',Stp O' w w''->Stp O w w'')(hk:ν' (ρ k)=ν k)(hR:rlt M R=true)(h:Holds ⟨N,ν,O,w⟩ k R):Holds ⟨N',ν',O',w⟩ (ρ k) (Ic ρ R):=by
 rw[bP] at hR
 cases R with
 | var cells =>
  obtain⟨b,us,g1,g2,g3,g4⟩:=h
  exact⟨b,us,hk.trans g1,g2,Ai.push hN hO cells us hR g3,g4⟩
 | row e t l =>
  obtain⟨vs,g1,g2,g3⟩:=h
  refine⟨vs,by simp_all,?_,g3⟩
  have this:Ai ⟨N',ν',O',w⟩ (Ib ρ (flatL t l)) vs:=Ai.push hN hO _ vs hR g2
  simp_all[Vz]
 | rowA e sz n cells =>
  obtain⟨vs,g1,g2,g3⟩:=h
  exact⟨vs,by simp_all,Ai.push hN hO cells vs hR g2,g3⟩
theorem rU{k:Nat}:∀ {ks:List Nat},k∈ks->idx k ks<ks.length/\ks[idx k ks]?=some k
 | a::r,h=>by
  simp only[idx]
  cases hb:Nat.beq k a with
  | true=>simp_all
  | false =>
   have hne:k≠a:=fun e=>zaD
   have hr:k∈r:=(List.mem_cons.1 h).resolve_left hne
   obtain⟨h1,h2⟩:=rU hr
   simp_all
theorem A4c{k:Nat}{ks:List Nat}(h:k∈ks):nth ks (idx k ks)=k:=by
 grind[rU,nth]
theorem JX{ks:List Nat}{i k:Nat}(h:ks[i]?=some k):nth ks i=k:=by simp_all[nth]
theorem MO{ks:List Nat}:∀ {l:List Nat},allIn ks l=true↔∀ k∈l,k∈ks
 | []=>by simp[allIn]
 | a::r=>by simp only[allIn,Bool.and_eq_true,Md,MO (l:=r),List.forall_mem_cons]
mutual
theorem kw{ks:List Nat}:∀(s:AV),(∀ k∈names s,k∈ks)->ren (nth ks) (ren (fun k=>idx k ks) s)=s/\Py ks.length (ren (fun k=>idx k ks) s)=true
 | .un,_|.b _,_|.i _,_|.u8 _,_|.u32 _,_|.u64 _,_|.str _,_|.sl _ _,_|.st _ _,_|.sn _ _,_|.nil,_|.gp _,_=>⟨rfl,rfl⟩
 | .nm k,h|.pa k o,h|.vs k s a b,h|.pe k i s o,h=>by simp_all[names,ren,A4c,Py,rU]
 | .pt l,h|.agg l,h|.tup l,h=>by obtain⟨h1,h2⟩:=Jn l (by simpa only[names] using h);simp_all[ren,Py]
 | .fn f a b,h=>by
  simp only[names] at h
  obtain⟨h1,h2⟩:=Jn a (fun k hk=>h k (List.mem_append.2 (.inl hk)))
  obtain⟨h3,h4⟩:=Jn b (fun k hk=>h k (List.mem_append.2 (.inr hk)))
  simp_all[ren,Py]
theorem Jn{ks:List Nat}:∀(s:List AV),(∀ k∈GZ s,k∈ks)->Ib (nth ks) (Ib (fun k=>idx k ks) s)=s/\NU ks.length (Ib (fun k=>idx k ks) s)=true
 | [],_=>⟨rfl,rfl⟩
 | s::r,h=>by
  simp only[GZ] at h
  obtain⟨h1,h2⟩:=kw s (fun k hk=>h k (List.mem_append.2 (.inl hk)))
  obtain⟨h3,h4⟩:=Jn r (fun k hk=>h k (List.mem_append.2 (.inr hk)))
  simp_all[Ib,NU]
end
theorem WV{ks:List Nat}{R:Rs}(h:∀ k∈Ny R,k∈ks):Ic (nth ks) (Ic (fun k=>idx k ks) R)=R/\rlt ks.length (Ic (fun k=>idx k ks) R)=true:=by
 cases R with
 | var l=>obtain⟨h1,h2⟩:=Jn l h;simp_all[Ic,rlt]
 | row e t l=>exact⟨rfl,rfl⟩
 | rowA e s n l=>obtain⟨h1,h2⟩:=Jn l h;simp_all[Ic,rlt]
theorem Yv{ks:List Nat}:∀ {l:List Rs},WM ks l=true↔∀ R∈l,∀ k∈Ny R,k∈ks
 | []=>by simp[WM]
 | a::r=>by simp only[WM,Bool.and_eq_true,MO,Yv (l:=r),List.forall_mem_cons]
theorem OG:∀ {n:Nat} {H:List (Option Rs)} {i:Nat},Q9 n H=true->n<=i->i<H.length->∃ R,H[i]?=some (some R)
 | n,[],i,_,_,h=>zbC
 | 0,none::H,i,h,_,_=>by simp[Q9] at h
 | 0,some R::H,0,_,_,_=>⟨R,rfl⟩
 | 0,some R::H,i+1,h,_,hi=>by
  obtain⟨R',h1⟩:=OG (n:=0) (H:=H) (i:=i) (by grind[Q9]) (Nat.zero_le _) zaJ
  simp_all
 | n+1,o::H,0,_,h,_=>zaa
 | n+1,o::H,i+1,h,hi,hl=>by
  obtain⟨R',h1⟩:=OG (n:=n) (H:=H) (i:=i) (by grind[Q9]) zaa zaJ
  simp_all
theorem Yw:∀ {M:Nat} {H:List (Option Rs)} {i:Nat} {R:Rs},gJ M H=true->H[i]?=some (some R)->rlt M R=true
 | M,[],i,R,_,h|M,none::H,0,R,_,h=>zbC
 | M,none::H,i+1,R,h,hi=>Yw (H:=H) (by simp_all[gJ]) (by simpa using hi)
 | M,some R0::H,0,R,h,hi=>by
  simp_all[gJ]
 | M,some R0::H,i+1,R,h,hi=>by
  simp only[gJ,Bool.and_eq_true] at h
  exact Yw (H:=H) h.2 (by simpa using hi)
theorem Ok.lift {c : Cx} {ks : List Nat} {l : List Rs} {H : List (Option Rs)} {m : Nat} {s : AV} {v : Value} {w' : World} {ν0 : Nat -> Value} (hnd : ks.Nodup) (hlen : l.length = ks.length) (hin : ∀ R ∈ l, ∀ k ∈ Ny R, k ∈ ks) (hle : ks.length <= H.length) (hnew : Q9 ks.length H = true) (hs : Py H.length s = true) (hr : gJ H.length H = true)
    (hks : ∀ k ∈ ks, k < m) (hN : ∀ k ∈ ks, c.N k) (hfresh : ∀ j, m <= j -> j < m + (H.length - ks.length) -> ¬ c.N j)
    (ok : Ok ⟨(· < ks.length), fun i => c.ν (nth ks i), c.O, c.w⟩ (Mc 0 (l.map (Ic fun k => idx k ks))) (Hg id 0 H) s v w' ν0) : ∃ ν', Ok c (zipF ks l) (Hg (Ep ks m) 0 H) (ren (Ep ks m) s) v w' ν' := by
  let n := ks.length
  let ρ := Ep ks m
  have hρ1 : ∀ i, i < n -> ρ i = nth ks i := fun i hi => by
    show (bif Nat.blt i ks.length then nth ks i else _) = _
    rw [show Nat.blt i ks.length = true from by simpa using hi]; rfl
  have hρ2 : ∀ i, n <= i -> ρ i = m + (i - n) := fun i hi => by
    show (bif Nat.blt i ks.length then nth ks i else _) = _
    rw [show Nat.blt i ks.length = false from by rw [Bool.eq_false_iff]; intro e; have : i < ks.length := by simpa using e
                                                 omega]; rfl
  have hmem : ∀ i, i < n -> nth ks i ∈ ks := fun i hi => by
    have h : ks[i]? = some ks[i] := List.getElem?_eq_getElem hi
    grind [JX]
  have hget : ∀ i, i < n -> ks[i]? = some (nth ks i) := fun i hi => by
    grind [JX]
  have hinj : ∀ a b, a < H.length -> b < H.length -> ρ a = ρ b -> a = b := by
    grind [List.getElem?_inj]
  let ν' : Nat -> Value := fun j => if m <= j /\ j < m + (H.length - n) then ν0 (n + (j - m)) else c.ν j
  have hν1 : ∀ j, c.N j -> ν' j = c.ν j := fun j hj => if_neg fun h => hfresh j h.1 h.2 hj
  have hold : ∀ i, i < n -> ν0 i = c.ν (nth ks i) := fun i hi => ok.old i hi
  have hνρ : ∀ i, i < H.length -> ν' (ρ i) = ν0 i := by
    intro i hi
    rcases Nat.lt_or_ge i n with h1 | h1
    · grind
    · rw [hρ2 i h1]
      show (if m <= m + (i - n) /\ m + (i - n) < m + (H.length - n) then ν0 (n + (m + (i - n) - m)) else _) = _
      rw [if_pos ⟨by omega, by omega⟩]; congr 1; omega
  have hF : ∀ k R, FN k (zipF ks l) = some R -> ∃ i, i < n /\ nth ks i = k /\ FN i (Mc 0 (l.map (Ic fun k => idx k ks))) = some (Ic (fun k => idx k ks) R) := by
    grind [zipF_some, QD]
  have hF2 : ∀ i R0, FN i (Mc 0 (l.map (Ic fun k => idx k ks))) = some R0 -> ∃ R, i < n /\ FN (nth ks i) (zipF ks l) = some R := by
    grind [QD, zipF_get]
  have hfb : ∀ b, Em c.ν (zipF ks l) b ↔ Em (fun i => c.ν (nth ks i)) (Mc 0 (l.map (Ic fun k => idx k ks))) b := by
    intro b
    constructor
    · rintro ⟨k, R, hk, hb⟩
      obtain ⟨i, hi, hki, hfi⟩ := hF k R hk
      exact ⟨i, _, hfi, by simp_all⟩
    · rintro ⟨i, R0, hi, hb⟩
      obtain ⟨R, hin, hR⟩ := hF2 i R0 hi
      exact ⟨_, R, hR, hb⟩
  have hG : ∀ j R', FN j (Hg ρ 0 H) = some R' -> ∃ i R, i < H.length /\ H[i]? = some (some R) /\ ρ i = j /\ R' = Ic ρ R /\ has i (Hg id 0 H) := by
    intro j R' h
    obtain ⟨q, R, h1, h2, h3⟩ := OE h
    rw [Nat.zero_add] at h2
    grind [kZ]
  have hG2 : ∀ i R, H[i]? = some (some R) -> FN (ρ i) (Hg ρ 0 H) = some (Ic ρ R) := by
    grind [Ug]
  have hfb' : ∀ b, Em ν' (Hg ρ 0 H) b ↔ Em ν0 (Hg id 0 H) b := by
    intro b
    constructor
    · rintro ⟨j, R', hj, hb⟩
      obtain ⟨i, R, hi, h1, rfl, _, h2⟩ := hG j R' hj
      obtain ⟨R2, hR2⟩ := (ED _ _).1 h2
      exact ⟨i, R2, hR2, by grind⟩
    · rintro ⟨i, R2, hi, hb⟩
      have h1 := Yu hi
      exact ⟨ρ i, _, hG2 i R2 h1, by grind⟩
  have hNp : ∀ k, k < H.length -> (k < n \/ has k (Hg id 0 H)) -> (c.N (ρ k) \/ has (ρ k) (Hg ρ 0 H)) /\ ν' (ρ k) = ν0 k := by
    grind [OG, ED]
  have hOO : ∀ w'', Stp (fun b => (c.O b /\ ¬ Em c.ν (zipF ks l) b) \/ Em ν' (Hg ρ 0 H) b) w' w'' -> Stp (fun b => (c.O b /\ ¬ Em (fun i => c.ν (nth ks i)) (Mc 0 (l.map (Ic fun k => idx k ks))) b) \/ Em ν0 (Hg id 0 H) b) w' w'' :=
    fun w'' hs => hs.mono fun i _ h => h.imp (fun h => ⟨h.1, fun e => h.2 ((hfb i).2 e)⟩) (hfb' i).1
  refine ⟨ν', hν1, ?_, fun j R' hj => ?_, fun j j' R R' b hj hj' hne hb => ?_, ok.stp.mono fun i _ h => (hfb i).2 h⟩
  · exact Rep.push (M := H.length) hNp hOO s v hs ok.rep
  · obtain ⟨i, R, hi, h1, rfl, rfl, h2⟩ := hG j R' hj
    obtain ⟨R2, hR2⟩ := (ED _ _).1 h2
    have h3 := Yu hR2
    rw [h1] at h3
    simp only [Option.some.injEq] at h3
    subst h3
    obtain ⟨q1, q2⟩ := ok.res i R hR2
    refine ⟨Holds.push (M := H.length) hNp hOO (hνρ i hi) (Yw hr h1) q1, fun b hb => ?_⟩
    grind
  · obtain ⟨i, R1, hi, h1, rfl, _, h2⟩ := hG j R hj
    obtain ⟨i', R1', hi', h1', rfl, _, h2'⟩ := hG j' R' hj'
    obtain ⟨R2, hR2⟩ := (ED _ _).1 h2
    obtain ⟨R2', hR2'⟩ := (ED _ _).1 h2'
    rw [hνρ i hi] at hb
    rw [hνρ i' hi']
    exact ok.dist i i' R2 R2' b hR2 hR2' (fun e => hne (by rw [e])) hb
theorem gm{ks:List Nat}:∀ {G:Fp},djB ks G=true->∀ k,has k G->k∉ks
 | [],_,k,h=>absurd h (J3 k)
 | (d,R)::G,h,k,hk=>by
  simp only[djB,Bool.and_eq_true,Bool.not_eq_true'] at h
  unfold has at hk
  rw[Cb] at hk
  split at hk
  ·grind[Md]
  ·exact gm h.2 k hk
section
variable {P:Program}{I:World->Prop}{L:LX}{ty:TypeId}{T:FT}{Q:Req->Option Rsp}{R:Type}{K:Tr->Option R}{r:R}{hk:Nat->Option Rs}{m:Nat}
theorem A00{e:Operand->Value}{fx:Operand}{xs:Array Operand}{ats:Array TypeId}{f:FuncId}{us vs:List Value}{w:World}(hen:Ent P f)(hf:e fx=.func (.func f) us.toArray vs.toArray):
  (execOp e ⟨none,.call {callee:=.value fx,args:=xs,argTypes:=ats},ty, "", #[],none⟩).run P w=.ok (.enter f ((us++xs.toList.map e++vs).toArray)) w:=by
 have h1:execOp e ⟨none,.call {callee:=.value fx,args:=xs,argTypes:=ats},ty, "", #[],none⟩=(do let d<-resolve e {callee:=.value fx,args:=xs,argTypes:=ats} ty;invoke d.target d.args):=rfl
 have hargs:us.toArray++xs.map e++vs.toArray=(us++xs.toList.map e++vs).toArray:=zaD
 rw[h1]
 simp only[resolve,hf,Deferred.ofValue,Sem.run_bind,Sem.run_pure,Result.andThen_ok,invoke,hargs,hen _ w]
def gq(P:Program)(T:FT):Prop:=∀ f fi,Xq f T=some fi->Ent P f
def QOK(P:Program)(I:World->Prop)(Q:Req->Option Rsp):Prop:=∀ f args Hin s H,Q (.call f args Hin)=some (.ret s H)->gZ P I f args Hin s H
theorem Tt{α:Type}:∀(l:List Rs) (K:List Rs->α),Xz l K=K l
 | [],K=>rfl
 | s::r,K=>by simp only[Xz,Qz,Tt]
theorem A01 (hT : gq P T) (hQ : QOK P I Q) (hm : ∀ k R, hk k = some R -> k < m) {fx : Operand} {xs : Array Operand} {ats : Array TypeId} (h : WN T Q hk m (Gl L fx) (gI (Gl L) xs.toList) K = some r) : ∃ tr, K tr = some r /\ TrOK P I L hk m (.call { callee := .value fx, args := xs, argTypes := ats }) tr := by
  have main : ∀ (f : Nat) (fi : FI) (a b l : List AV) (vs : Fp) (all' : List AV), Gl L fx = some (.fn f a b) -> gI (Gl L) xs.toList = some l -> Xq f T = some fi -> (∀ k Rr, FN k vs = some Rr -> hk k = some Rr) ->
      (∀ (c : Cx) (us : List Value), (∀ k Rr, FN k vs = some Rr -> c.N k /\ Holds c k Rr /\ ∀ b, blk (c.ν k) = some b -> c.O b) -> Ai c (a ++ l ++ b) us -> Ai (c.less vs) all' us) -> UZ fi.ro Q hk m f vs all' K = some r -> ∃ tr, K tr = some r /\ TrOK P I L hk m (.call { callee := .value fx, args := xs, argTypes := ats }) tr := by
    intro f fi a b l vs all' hf hl hfi hvk hall h
    unfold UZ at h
    rw [Eo] at h
    generalize hks : close hk 40 [] (GZ all') = ks at h
    unfold UY at h
    split at h
    · rename_i Rl hR
      · cases hc : (nodupB ks && allIn ks (GZ all') && WM ks Rl && djB ks vs) with
        | false => simp_all
        | true =>
          rw [hc] at h
          simp only [Bool.and_eq_true, Oy, MO, Yv] at hc
          obtain ⟨⟨⟨hnd, hin⟩, hinR⟩, hdj⟩ := hc
          simp only [cond_true, Hu, Tt] at h
          obtain ⟨res, hres, h⟩ := Option.bind_eq_some_iff.1 h
          obtain ⟨hlen, hget⟩ := cO hR
          split at h
          · rename_i s H
            cases hc2 : (Nat.ble ks.length H.length && Q9 ks.length H && Py H.length s && gJ H.length H) with
            | false => simp_all
            | true =>
              rw [hc2] at h
              simp only [Bool.and_eq_true] at hc2
              obtain ⟨⟨⟨hle, hnew⟩, hs⟩, hr⟩ := hc2
              have hle : ks.length <= H.length := by simpa using hle
              have hsem := hQ _ _ _ _ _ hres
              have hzk : ∀ k Rr, FN k (zipF ks Rl) = some Rr -> hk k = some Rr := by
                intro k Rr hkk
                obtain ⟨i, h1, h2⟩ := zipF_some hkk
                grind
              have hksm : ∀ k ∈ ks, k < m := by
                grind [List.getElem?_of_mem]
              have hj : Dj vs (zipF ks Rl) := by
                intro k h1 h2
                grind [ED, zipF_some, gm]
              have hnewnm : ∀ k, has k (Hg (Ep ks m) 0 H) -> has k (zipF ks Rl) \/ (m <= k /\ k < m + (H.length - ks.length)) := by
                intro k hkk
                obtain ⟨R', hR'⟩ := (ED _ _).1 hkk
                obtain ⟨q, Rq, h1, h2, _⟩ := OE hR'
                have hq : q < H.length := (List.getElem?_eq_some_iff.1 h1).1
                rw [Nat.zero_add] at h2
                subst h2
                rcases Nat.lt_or_ge q ks.length with h3 | h3
                · left
                  have e1 : Ep ks m q = nth ks q := by unfold Ep; rw [show Nat.blt q ks.length = true from by simpa using h3]; rfl
                  grind [nth, ED, zipF_get]
                · right
                  have e1 : Ep ks m q = m + (q - ks.length) := by
                    unfold Ep
                    rw [show Nat.blt q ks.length = false from by simp_all [Bool.eq_false_iff]]; rfl
                  omega
              have hj' : Dj vs (Hg (Ep ks m) 0 H) := by
                intro k h1 h2
                rcases hnewnm k h2 with h3 | h3
                · exact hj k h1 h3
                grind [ED]
              -- the run
              have core : ∀ (bb : Bool), (bb = true -> noRd (ren (Ep ks m) s) = true) -> (bb = true -> PX (Hg (Ep ks m) 0 H) = true) ->
                  TrOK P I L hk m (.call { callee := .value fx, args := xs, argTypes := ats }) ⟨ren (Ep ks m) s, vs ++ zipF ks Rl, (bif bb then vs else []) ++ Hg (Ep ks m) 0 H, false, H.length - ks.length⟩ := by
                intro bb hb1 hb2
                refine ⟨fun ty c e hG he hP => ?_, fun k Rr hkk => ?_, fun k hkk => ?_, (fun h => by cases h)⟩
                · have hP1 := Pre.less (F'' := Hg (Ep ks m) 0 H) hj hP (fun k hkk => ?_) hG.lt
                  · have h0 := he fx _ hf
                    simp only [Rep] at h0
                    obtain ⟨us, vs', hfx, hu, hv⟩ := h0
                    have hargs := (hu.app (WU he _ _ hl)).app hv
                    unfold xA
                    rw [A00 (hT f fi hfi) hfx]
                    have hres1 : ∀ k Rr, FN k vs = some Rr -> c.N k /\ Holds c k Rr /\ ∀ b, blk (c.ν k) = some b -> c.O b := fun k Rr hkk => hP.res k Rr (GV hkk)
                    have hargs1 : Ai (c.less vs) all' (us ++ xs.toList.map e ++ vs') := hall c _ hres1 hargs
                    have hN : ∀ k ∈ ks, c.N k := by
                      intro k hkk
                      obtain ⟨i, hi⟩ := List.getElem?_of_mem hkk
                      obtain ⟨R2, h3, _⟩ := hget i k hi
                      exact (hP.res k R2 (J5 hj (zipF_get hnd hi h3))).1
                    have hmem : ∀ i, i < ks.length -> ks[i]? = some (nth ks i) := fun i hi => by simp_all [JX]
                    obtain ⟨hb1', hb2'⟩ := Jn all' hin
                    have hlenR : (Rl.map (Ic fun k => idx k ks)).length = ks.length := by simp [hlen]
                    have hrn : ∀ k, k < ks.length -> (c.less vs).N (nth ks k) -> k < (Rl.map (Ic fun k => idx k ks)).length /\ (fun i => (c.less vs).ν (nth ks i)) k = (c.less vs).ν (nth ks k) := fun k hk _ => ⟨by omega, rfl⟩
                    have hGd : Good I ⟨(· < (Rl.map (Ic fun k => idx k ks)).length), fun i => (c.less vs).ν (nth ks i), (c.less vs).O, (c.less vs).w⟩ := ⟨(hG.less vs).lt, (hG.less vs).inv⟩
                    have hRp : Ai ⟨(· < (Rl.map (Ic fun k => idx k ks)).length), fun i => (c.less vs).ν (nth ks i), (c.less vs).O, (c.less vs).w⟩ (Ib (fun k => idx k ks) all') (us ++ xs.toList.map e ++ vs') :=
                      Ai.ren (ρ := nth ks) (N := (c.less vs).N) (ν := (c.less vs).ν) (O := (c.less vs).O) hrn (fun _ h => h) _ _ hb2' zaD
                    have hPr : Pre ⟨(· < (Rl.map (Ic fun k => idx k ks)).length), fun i => (c.less vs).ν (nth ks i), (c.less vs).O, (c.less vs).w⟩ (Mc 0 (Rl.map (Ic fun k => idx k ks))) (Hg id 0 H) := by
                      refine ⟨fun k Rr hkk => ?_, fun k k' Rr Rr' b h1 h2 hne hb => ?_, fun k hkk => ?_⟩
                      · rw [QD, List.getElem?_map, Option.map_eq_some_iff] at hkk
                        obtain ⟨R0, h1, rfl⟩ := hkk
                        have hk1 : k < ks.length := zaJ
                        obtain ⟨q1, q2, q3⟩ := hP1.res (nth ks k) R0 (zipF_get hnd (hmem k hk1) h1)
                        obtain ⟨b1, b2⟩ := WV (hinR R0 (List.mem_of_getElem? h1))
                        exact ⟨by omega, Holds.ren (ρ := nth ks) (N := (c.less vs).N) (ν := (c.less vs).ν) (O := (c.less vs).O) hrn (fun _ h => h) rfl b2 zaD, q3⟩
                      · rw [QD, List.getElem?_map, Option.map_eq_some_iff] at h1 h2
                        obtain ⟨R0, h1, rfl⟩ := h1
                        obtain ⟨R0', h2, rfl⟩ := h2
                        have hk1 : k < ks.length := zaJ
                        have hk2 : k' < ks.length := zaJ
                        exact hP1.dist (nth ks k) (nth ks k') R0 R0' b (zipF_get hnd (hmem k hk1) h1) (zipF_get hnd (hmem k' hk2) h2) (fun e => hne ((List.getElem?_inj hk1 hnd).1 zaD)) hb
                      grind [ED, QD]
                    refine Calls.mono (hsem _ _ _ _ hGd hRp hPr) fun rr w' hh => ?_
                    cases rr with
                    | returned v =>
                      obtain ⟨ν0, ok⟩ := hh
                      have ok' : Ok ⟨(· < ks.length), fun i => (c.less vs).ν (nth ks i), (c.less vs).O, (c.less vs).w⟩ (Mc 0 (Rl.map (Ic fun k => idx k ks))) (Hg id 0 H) s v w' ν0 := by rw [hlenR] at ok; exact ok
                      obtain ⟨ν', ok2⟩ := Ok.lift (c := c.less vs) hnd hlen hinR hle hnew hs hr hksm hN (fun j h1 h2 hNj => by
                        have hj1 : has j (Hg (Ep ks m) 0 H) := by
                          obtain ⟨Rq, hRq⟩ := OG hnew (i := ks.length + (j - m)) zaa zaa
                          have hinj : ∀ a b, 0 <= a -> a < 0 + H.length -> 0 <= b -> b < 0 + H.length -> Ep ks m a = Ep ks m b -> a = b := by
                            intro a b _ ha _ hb e
                            have t1 : ∀ i, i < ks.length -> Ep ks m i = nth ks i := fun i hi => by unfold Ep; rw [show Nat.blt i ks.length = true from by simpa using hi]; rfl
                            have t2 : ∀ i, ks.length <= i -> Ep ks m i = m + (i - ks.length) := fun i hi => by
                              unfold Ep
                              rw [show Nat.blt i ks.length = false from by simp_all [Bool.eq_false_iff]]; rfl
                            grind [List.getElem?_inj]
                          have := Ug (ρ := Ep ks m) (i := 0) (q := ks.length + (j - m)) hinj hRq
                          have e2 : Ep ks m (0 + (ks.length + (j - m))) = j := by
                            unfold Ep
                            rw [show Nat.blt (0 + (ks.length + (j - m))) ks.length = false from by rw [Bool.eq_false_iff]; intro e; have : 0 + (ks.length + (j - m)) < ks.length := by simpa using e
                                                                                                   omega]
                            grind
                          grind [ED]
                        rcases hP.new j (RJ hj1) with h3 | h3
                        · grind [J4, ED]
                        · exact h3 hNj) ok'
                      exact ⟨ν', Ok.lendOr bb hj hj' hG.lt hP.res hP.dist hb1 hb2 ok2⟩
                    | panicked ch | outgrown => exact hh
                  · rcases hP.new k (RJ hkk) with h1 | h1
                    · rcases (J4 _ _ _).1 h1 with h2 | h2
                      · exact absurd hkk (hj' k h2)
                      simp_all
                    simp_all
                · rw [JW] at hkk
                  cases hg : FN k vs with
                  | some R2 | none => simp_all
                grind [J4]
              simp only [cond_true] at h
              cases hro : fi.ro with
              | true =>
                rw [hro, cond_true] at h
                cases hsame : BH (vs ++ zipF ks Rl) (Hg (Ep ks m) 0 H) with
                | false => simp_all
                | true =>
                  rw [hsame, cond_true] at h
                  have hc0 := core false (fun h => by cases h) (fun h => by cases h)
                  have e := zZ hsame
                  simp only [cond_false, List.nil_append, <- e] at hc0
                  exact ⟨_, h, ⟨hc0.opl, hc0.pre, hc0.new, fun _ => rfl⟩⟩
              | false =>
              rw [hro, cond_false] at h
              cases hb : (noRd (ren (Ep ks m) s) && PX (Hg (Ep ks m) 0 H)) with
              | true =>
                rw [hb] at h
                simp only [Bool.and_eq_true] at hb
                exact ⟨_, h, core true (fun _ => hb.1) (fun _ => hb.2)⟩
              | false => rw [hb] at h; exact ⟨_, h, core false (fun h => by cases h) (fun h => by cases h)⟩
          · cases h
    · cases h
  unfold WN at h
  split at h
  · rename_i f a b l hf hl
    split at h
    · rename_i fi hfi
      cases hp : fi.pown with
      | true =>
        rw [hp] at h
        simp only [cond_true, Hu] at h
        exact main f fi a b l [] _ hf hl hfi (fun k Rr h => by cases h) (fun c us _ hr => Ui _ (Ai.le (c.less_le []) _ _ (EM _) hr)) h
      | false =>
        rw [hp] at h
        simp only [cond_false, Hu] at h
        exact main f fi a b l _ _ hf hl hfi (fun k Rr hkk => (NZ hkk).1) (fun c us hres hr => Ui _ (N7 hres _ _ (fun k hkk e' t' l' hh => Me (Uh.2 (.inr hkk)) hh) hr)) h
    · cases h
  · cases h
end
end Go.Ax
namespace Go.Ax
open Go Go.RowKit Go.Eng
set_option linter.unusedVariables false
set_option linter.unusedSimpArgs false
section
variable {P:Program}{I:World->Prop}{L:LX}{T:TT}{G:FT}{Q:Req->Option Rsp}{R:Type}{K:Tr->Option R}{r:R}{hk:Nat->Option Rs}{m:Nat}
theorem Yx(hT:TTok P I T)(hG:gq P G)(hQ:QOK P I Q)(hm:∀ k R,hk k=some R->k<m){op:Op}(h:Ii T G Q (Gl L) hk m op K=some r):∃ tr,K tr=some r/\TrOK P I L hk m op tr:=by
 unfold Ii at h
 split at h
 ·exact A01 hG hQ hm h
 grind[A4b]
end
def A02:Fp->HX->HX
 | [],H=>H
 | (k,r)::F,H=>(k,some r)::A02 F H
def A03:Fp->HX->HX
 | [],H=>H
 | (k,r)::F,H=>(k,none)::A03 F H
def stH(t:Tr)(H:HX):HX:=bif t.rd then H else A02 t.F' (A03 t.F H)
theorem xg{R:Type}:∀(F:Fp) (H:HX) (K:HX->R),A1p F H K=K (A02 F H)
 | [],H,K=>rfl
 | (k,r)::F,H,K=>by simp only[A1p,Qz,xg F,A02]
theorem xh{R:Type}:∀(F:Fp) (H:HX) (K:HX->R),A1q F H K=K (A03 F H)
 | [],H,K=>rfl
 | (k,r)::F,H,K=>by simp only[A1q,xh F,A03]
theorem Uj{R:Type}(d:Option Nat)(t:Tr)(m:Nat)(L:LX)(H:HX)(K:Nat->LX->HX->R):Ir d t m L H K=K (m+t.nn) (Xr d t.s L) (stH t H):=by
 obtain⟨s,F,F',rd,nn⟩:=t
 grind[Ir,force_eq,EN,xh,xg,Xr,stH]
theorem gu(k:Nat):∀(F:Fp) (H:HX),hlk k (A02 F H)=match FN k F with|some R=>some R|none=>hlk k H
 | [],H=>rfl
 | (d,r)::F,H=>by rw[A02,IP,Cb,gu k F];grind
theorem gy(k:Nat):∀(F:Fp) (H:HX),hlk k (A03 F H)=match FN k F with|some R=>none|none=>hlk k H
 | [],H=>rfl
 | (d,r)::F,H=>by rw[A03,IP,Cb,gy k F];grind
theorem xk{t:Tr}{H:HX}(hpre:∀ k R,FN k t.F=some R->hlk k H=some R)(hrd:t.rd=true->t.F'=t.F)(k:Nat):hlk k (stH t H)=upd t.F t.F' (fun k=>hlk k H) k:=by
 unfold stH upd
 cases h:t.rd with
 | false=>simp only[cond_false,gu,gy];grind
 | true =>
  grind
section
variable {P:Program}{I:World->Prop}{n:Nat}{g:Gx}{Q:PostX}{m:Nat}{L:LX}{H:HX}{ops:Array Oper}{rest:List Oper}
theorem A7g(h:(∀ k R,hlk k H=some R->k<m)->RS P I n g ops Q rest m L H):RS P I n g ops Q rest m L H:=fun a w ν S=>h (fun k R hk=>(S.res k R hk).1) a w ν S
theorem A4d{L':LX}(hL:∀ t,JM t L'=JM t L)(h:RS P I n g ops Q rest m L' H):RS P I n g ops Q rest m L H:=fun a w ν S=>h a w ν (S.fewer fun t s hs=>by simp_all)
theorem xm{op:Op}{ty:TypeId}{t:Tr}{K:AV->Nat->HX->Prop}(h:TrOK P I L (fun k=>hlk k H) m op t)(hm:∀ k R,hlk k H=some R->k<m)(hK:K t.s (m+t.nn) (stH t H)):OS P I n g op ty m L H K:=by
 refine A7d (h.opl ty) h.pre (fun k hk=>(h.new k hk).imp id fun e=>by omega) (fun k hk=>?_) (Nat.le_add_right _ _) (xk h.pre h.rd) hK
 rcases h.new k hk with h1|h1
 ·obtain⟨R,h2⟩:=(ED _ _).1 h1
  have:=hm k R (h.pre k R h2);omega
 ·exact h1.2
theorem A04{d:Nat}{s:AV}(h:JM d L=some s)(t:Nat):JM t ((d,s)::L)=JM t L:=by
 simp_all[GU]
end
section
variable {P:Program}{I:World->Prop}{n:Nat}{g:Gx}{T:TT}{G:FT}{Q:Req->Option Rsp}{r:Rsp}
theorem RP{n d:Nat}(h:Yf n (some d)=true):d<n:=by simpa [Yf] using h
theorem A29(hT:TTok P I T)(hG:gq P G)(hQ:QOK P I Q){ops:List Oper}{Φ:PostX}{K:Nat->LX->HX->Option Rsp}(hK:∀ m L H,K m L H=some r->Φ .normal m L H)(l:List Oper):∀(m:Nat) (L:LX) (H:HX),JD T G Q n ops l m L H K=some r->RS P I n g ops.toArray Φ l m L H:=by
 induction l with
 | nil=>intro m L H h;exact A6V (hK _ _ _ h)
 | cons o l ih =>
  intro m L H h
  refine A7g fun hm=>?_
  obtain⟨dst,op,ty,pos,af,gd⟩:=o
  rw[JD] at h
  cases gd with
  | none =>
   simp only at h
   cases hd:Yf n dst with
   | false=>simp_all
   | true =>
    rw[hd,cond_true] at h
    obtain⟨t,ht,ok⟩:=Yx hT hG hQ hm h
    rw[Uj] at ht
    have hn:=ih _ _ _ ht
    cases dst with
    | none=>exact sx0 (xm ok hm hn)
    | some d=>exact sx (xm ok hm hn) (RP hd)
  | some p =>
   obtain⟨j,want⟩:=p
   simp only at h
   split at h
   ·rename_i d' hd'
    have hj:(ops.toArray[j]?).bind (·.dst)=some d':=zaJ
    split at h
    ·rename_i c hc
     cases hd:(Yf n dst&&Nat.blt d' n) with
     | false=>simp_all
     | true =>
      rw[hd,cond_true] at h
      rw[Bool.and_eq_true] at hd
      have hdn:d'<n:=zaD
      refine A4d (L':=(d',.b c)::L) (A04 hc) ?_
      have hb:JM d' ((d',.b c)::L)=some (.b c):=by rw[GU,if_pos rfl]
      have run:c=want->Ii T G Q (Gl ((d',.b c)::L)) (fun k=>hlk k H) m op (fun t=>Ir dst t m ((d',.b c)::L) H fun m L H=>JD T G Q n ops l m L H K)=some r->RS P I n g ops.toArray Φ (⟨dst,op,ty,pos,af,some (j,want)⟩::l) m ((d',.b c)::L) H:=by
       clear h
       intro e1 h9
       subst e1
       obtain⟨t,ht,ok⟩:=Yx hT hG hQ hm h9
       rw[Uj] at ht
       have hn:=ih _ _ _ ht
       cases dst with
       | none=>exact A8R hj hb hdn (xm ok hm hn)
       | some d=>exact sxY hj hb hdn (xm ok hm hn) (RP hd.1)
      have skip:c = !want->JD T G Q n ops l m (Xr dst (AV.tup []) ((d',AV.b c)::L)) H K=some r->RS P I n g ops.toArray Φ (⟨dst,op,ty,pos,af,some (j,want)⟩::l) m ((d',.b c)::L) H:=by
       clear h run
       intro e1 h9
       have hn:=ih _ _ _ h9
       cases dst with
       | none=>exact A8S hj hb e1 hn hdn
       | some d=>exact sxN hj hb e1 hn (RP hd.1) hdn
      cases c with
      | true =>
       cases want with
       | true=>grind
       | false=>exact skip rfl (by cases dst<;>exact h)
      | false =>
       cases want with
       | true=>exact skip rfl (by cases dst<;>exact h)
       | false=>grind
    ·rename_i hc
     cases hd:(Yf n dst&&Nat.blt d' n) with
     | false=>simp_all
     | true =>
      rw[hd,cond_true] at h
      rw[Bool.and_eq_true] at hd
      have hdn:d'<n:=zaD
      have hn:=ih _ _ _ h
      cases dst with
      | none=>exact A8T hj hc hn hdn
      | some d=>exact sxU hj hc hn (RP hd.1) hdn
    ·cases h
   ·cases h
end
end Go.Ax
namespace Go.Ax
variable {t:Tr}{k:Nat}
noncomputable section
open Go Go.RowKit Go.Eng
set_option linter.unusedVariables false
set_option linter.unusedSimpArgs false
theorem iC{lk:List Nat}{t:Nat}{s:AV}:∀ {L:LX},JM t (kN lk L)=some s->Q8 t lk=true/\JM t L=some s
 | [],h=>za6
 | (d,v)::L,h=>by
  simp only[kN] at h
  rw[GU]
  cases hm:Q8 d lk with
  | false =>
   rw[hm] at h
   obtain⟨h1,h2⟩:=iC (L:=L) h
   grind
  | true =>
   rw[hm] at h
   simp only[cond_true] at h
   rw[GU] at h
   by_cases e:t=d
   ·simp_all
   ·rw[if_neg e] at h ⊢;exact iC (L:=L) h
def Obl(P:Program)(I:World->Prop)(ops:Array Oper)(o:Oper)(L:LX)(t:Tr):Prop:=match o.guard with
 | none=>OPL P I (kN (o.looksAt ops) L) t.F o.op o.type t.s t.F'
 | some (j,want)=>∃ d v,I7 ops j=some d/\JM d L=some v/\((v=.b want/\OPL P I (kN (o.looksAt ops) L) t.F o.op o.type t.s t.F')\/((v=.b (!want)\/v=.tup [])/\t.F=[]/\t.F'=[]/\t.s=.tup []))
abbrev kz(t:Tr)(H:HX):HX:=stH t H
abbrev xn(d:Option Nat)(s:AV)(L:LX):LX:=Xr d s L
def stepM(t:Tr)(m:Nat):Nat:=m+t.nn
structure StepOK (P:Program) (I:World->Prop) (ops:Array Oper) (o:Oper) (t:Tr) (m:Nat) (L:LX) (H:HX):Prop where
 obl:Obl P I ops o L t
 pre:∀ k R,FN k t.F=some R->hlk k H=some R
 new:∀ k,has k t.F'->has k t.F\/(m<=k/\k<m+t.nn)
 rd:t.rd=true->t.F'=t.F
def DRX(P:Program)(I:World->Prop)(ops:Array Oper)(fin:List Tr->Nat->LX->HX->Prop):List Oper->List Tr->Nat->LX->HX->Prop
 | [],tr,m,L,H=>fin tr m L H
 | o::r,tr,m,L,H=>∃ t,StepOK P I ops o t m L H/\DRX P I ops fin r (tr++[t]) (stepM t m) (xn o.dst t.s L) (kz t H)
def wr(t:Tr)(k:Nat):Option (Option Rs):=bif t.rd then none else match FN k t.F' with
 | some R=>some (some R)
 | none=>(match FN k t.F with|some _=>some none|none=>none)
def touches(t:Tr)(k:Nat):Bool:=(FN k t.F).isSome||(FN k t.F').isSome
def Vx(D:Nat->Bool)(ops:Array Oper)(T:List Tr)(t:Nat)(v:Option AV):Nat->Option AV
 | 0=>v
 | n+1=>bif D n then(match I7 ops n,T[n]? with
  | some d,some tr=>if d=t then some tr.s else Vx D ops T t v n
  | _,_=>Vx D ops T t v n) else Vx D ops T t v n
def hvn(D:Nat->Bool)(T:List Tr)(k:Nat)(v:Option Rs):Nat->Option Rs
 | 0=>v
 | n+1=>bif D n then(match(T[n]?).bind (wr · k) with|some x=>x|none=>hvn D T k v n) else hvn D T k v n
def Pv(T:List Tr)(m:Nat):Nat->Nat
 | 0=>m
 | n+1=>match T[n]? with|some t=>stepM t (Pv T m n)|none=>Pv T m n
theorem A2A(t:Tr)(H:HX)(k:Nat):hlk k (kz t H)=match wr t k with|some x=>x|none=>hlk k H:=by
 unfold kz stH wr
 cases t.rd
 ·simp only[cond_false,gu,gy]
  grind
 ·rfl
theorem A6b(t:Tr)(hk:Nat->Option Rs)(k:Nat)(hr:t.rd=false):upd t.F t.F' hk k=match wr t k with|some x=>x|none=>hk k:=by
 unfold upd wr
 grind
theorem N8{x:Option Rs}(h:wr t k=some x):touches t k=true/\t.rd=false:=by
 unfold wr at h
 cases hr:t.rd with
 | true=>simp_all
 | false =>
  rw[hr] at h
  simp only[cond_false] at h
  refine⟨?_,rfl⟩
  grind[touches]
theorem A4e{R:Rs}(h:wr t k=some (some R)):has k t.F':=by
 unfold wr at h
 cases hr:t.rd with
 | true=>simp_all
 | false =>
  rw[hr] at h
  simp only[cond_false] at h
  grind[has]
theorem RQ{D D':Nat->Bool}{T:List Tr}{k:Nat}{v:Option Rs}:∀ {n:Nat},(∀ i,i<n->∀ t x,T[i]?=some t->wr t k=some x->D i=D' i)->hvn D T k v n=hvn D' T k v n
 | 0,_=>rfl
 | n+1,h=>by
  have ih:=RQ (D:=D) (D':=D') (T:=T) (k:=k) (v:=v) (n:=n) fun i hi=>h i zaa
  grind[hvn]
theorem Uk{D:Nat->Bool}{T:List Tr}{k:Nat}{v:Option Rs}{j:Nat}:∀ {n:Nat},j<=n->(∀ i,j<=i->i<n->∀ t x,T[i]?=some t->wr t k=some x->D i=false)->hvn D T k v n=hvn D T k v j
 | 0,hj,_=>zaD
 | n+1,hj,h=>by
  by_cases e:j=n+1
  ·rw[e]
  ·rw[<-Uk (n:=n) zaa fun i hi hi'=>h i hi zaa]
   grind[hvn]
theorem RU{D D':Nat->Bool}{ops:Array Oper}{T:List Tr}{t:Nat}{v:Option AV}:∀ {n:Nat},(∀ i,i<n->I7 ops i=some t->D i=D' i)->Vx D ops T t v n=Vx D' ops T t v n
 | 0,_=>rfl
 | n+1,h=>by
  have ih:=RU (D:=D) (D':=D') (ops:=ops) (T:=T) (t:=t) (v:=v) (n:=n) fun i hi=>h i zaa
  simp only[Vx]
  grind
theorem Ul{D:Nat->Bool}{ops:Array Oper}{T:List Tr}{t:Nat}{v:Option AV}{j:Nat}:∀ {n:Nat},j<=n->(∀ i,j<=i->i<n->I7 ops i=some t->D i=false)->Vx D ops T t v n=Vx D ops T t v j
 | 0,hj,_=>zaD
 | n+1,hj,h=>by
  by_cases e:j=n+1
  ·rw[e]
  ·rw[<-Ul (n:=n) zaa fun i hi hi'=>h i hi zaa]
   simp only[Vx]
   grind
def keysOf(F:Fp):List Nat:=F.map (·.1)
theorem lC{F:Fp}(h:has k F):k∈keysOf F:=by
 induction F with
 | nil=>simp[has] at h
 | cons p F ih =>
  obtain⟨d,v⟩:=p
  unfold has at h
  rw[Cb] at h
  by_cases e:k=d
  ·simp[keysOf,e]
  ·rw[if_neg e] at h;exact List.mem_cons_of_mem _ (ih h)
def XP(ops:Array Oper)(i j:Nat)(ti tj:Tr):Bool :=
 (match I7 ops i,ops[j]? with|some d,some o=>(o.looksAt ops).contains d|_,_=>false) ||
 (match I7 ops j,ops[i]? with|some d,some o=>(o.looksAt ops).contains d|_,_=>false) ||
 (bif ti.rd&&tj.rd then false else(keysOf ti.F++keysOf ti.F').any fun k=>touches tj k)
def drawChk0(n:Nat)(ops:Array Oper)(T:List Tr):Bool :=
 let ms:=masks ops.toList []
 (Nat.beq T.length ops.size&&allB ops.size fun j=>match ops[j]? with
  | none=>false
  | some o=>o.after.toList.all (fun e => !Region.binds .any e||Nat.blt e.on j)&&(match o.dst with|some d=>Nat.blt d n|none=>true)&&(match o.op with|.select .. => false|_=>true)) &&
 allB ops.size fun j=>allB j fun i=>(match I7 ops i,I7 ops j with|some d,some d' => !Nat.beq d d'|_,_=>true)&&(match T[i]?,T[j]? with
  | some ti,some tj => !XP ops i j ti tj||A7a ms j i
  | _,_=>false)
structure Chk (n:Nat) (ops:Array Oper) (T:List Tr):Prop where
 len:T.length=ops.size
 edge:∀(j:Nat) (o:Oper),ops[j]?=some o->∀ e∈o.after,Region.binds .any e=true->e.on<j
 dstn:∀(j:Nat) (o:Oper) (d:Nat),ops[j]?=some o->o.dst=some d->d<n
 sel:∀(j:Nat) (o:Oper),ops[j]?=some o->∀ cs b,o.op≠.select cs b
 uniq:∀ i j d:Nat,i<j->j<ops.size->I7 ops i=some d->I7 ops j≠some d
 conf:∀(i j:Nat) (ti tj:Tr),i<j->j<ops.size->T[i]?=some ti->T[j]?=some tj->XP ops i j ti tj=true->Anc ops j i
theorem iD{n:Nat}{ops:Array Oper}{T:List Tr}(h:drawChk0 n ops T=true):Chk n ops T:=by
 simp only[drawChk0,Bool.and_eq_true] at h
 obtain⟨⟨hl,h1⟩,h2⟩:=h
 have h1:=Qx h1
 have h2:=Qx h2
 have hlt:∀ j (o:Oper),ops[j]?=some o->j<ops.size:=fun j o ho=>(Array.getElem?_eq_some_iff.1 ho).1
 have edge:∀ j (o:Oper),ops[j]?=some o->∀ e∈o.after,Region.binds .any e=true->e.on<j:=by
  intro j o ho e he hbd
  have:=h1 j (hlt j o ho)
  rw[ho] at this
  simp only[Bool.and_eq_true,List.all_eq_true] at this
  have h3:=this.1.1 e (Array.mem_toList_iff.2 he)
  simp_all
 have hm:qj ops (masks ops.toList []):=A1K ops _ _ zam edge (fun j i hj=>by simp at hj)
 have hml:(masks ops.toList []).length=ops.size:=by
  have:∀(l:List Oper) acc,(masks l acc).length=l.length+acc.length:=by
   intro l
   induction l with
   | nil|cons o r ih=>grind[masks]
  grind
 have hanc:∀ j i,j<ops.size->A7a (masks ops.toList []) j i=true->Anc ops j i:=fun j i hj hb=>hm j i zaa hb
 refine⟨by simpa using hl,edge,?_,?_,?_,?_⟩
 ·intro j o d ho hd
  have:=h1 j (hlt j o ho)
  rw[ho] at this
  simp_all
 ·grind
 ·intro i j d hij hj hdi hdj
  have:=Qx (h2 j hj) i hij
  simp_all
 ·intro i j ti tj hij hj hti htj hc
  have:=Qx (h2 j hj) i hij
  simp_all
structure Steps (P:Program) (I:World->Prop) (ops:Array Oper) (T:List Tr) (m0:Nat) (L0:LX) (H0:HX):Prop where
 at':∀(j:Nat) (o:Oper),ops[j]?=some o->∃ t m L H,T[j]?=some t/\StepOK P I ops o t m L H/\m=Pv T m0 j/\(∀ x,JM x L=Vx (fun _=>true) ops T x (JM x L0) j)/\(∀ k,hlk k H=hvn (fun _=>true) T k (hlk k H0) j)
theorem iE{D:Nat->Bool}{ops:Array Oper}{T T':List Tr}{t:Nat}{v:Option AV}:∀ {n:Nat},n<=T.length->Vx D ops (T++T') t v n=Vx D ops T t v n
 | 0,_=>rfl
 | n+1,h=>by simp only[Vx,iE (n:=n) (show n<=T.length by omega),List.getElem?_append_left (show n<T.length by omega)]
theorem iF{D:Nat->Bool}{T T':List Tr}{k:Nat}{v:Option Rs}:∀ {n:Nat},n<=T.length->hvn D (T++T') k v n=hvn D T k v n
 | 0,_=>rfl
 | n+1,h=>by simp only[hvn,iF (n:=n) (show n<=T.length by omega),List.getElem?_append_left (show n<T.length by omega)]
theorem iG{T T':List Tr}{m:Nat}:∀ {n:Nat},n<=T.length->Pv (T++T') m n=Pv T m n
 | 0,_=>rfl
 | n+1,h=>by simp only[Pv,iG (n:=n) (show n<=T.length by omega),List.getElem?_append_left (show n<T.length by omega)]
theorem DRX.steps{P:Program}{I:World->Prop}{ops:Array Oper}{fin:List Tr->Nat->LX->HX->Prop}{m0:Nat}{L0:LX}{H0:HX}:∀(l:List Oper) (tr:List Tr) (m:Nat) (L:LX) (H:HX),DRX P I ops fin l tr m L H->(∀ i,i<l.length->l[i]?=ops[tr.length+i]?) ->
  m=Pv tr m0 tr.length->(∀ x,JM x L=Vx (fun _=>true) ops tr x (JM x L0) tr.length)->(∀ k,hlk k H=hvn (fun _=>true) tr k (hlk k H0) tr.length) ->
  ∃ T m' L' H',T.length=tr.length+l.length/\(∀ i,i<tr.length->T[i]?=tr[i]?)/\fin T m' L' H'/\m'=Pv T m0 T.length/\(∀ x,JM x L'=Vx (fun _=>true) ops T x (JM x L0) T.length)/\(∀ k,hlk k H'=hvn (fun _=>true) T k (hlk k H0) T.length) /\
   ∀(j:Nat) (o:Oper),tr.length<=j->j<T.length->ops[j]?=some o->∃ t m L H,T[j]?=some t/\StepOK P I ops o t m L H/\m=Pv T m0 j/\(∀ x,JM x L=Vx (fun _=>true) ops T x (JM x L0) j)/\(∀ k,hlk k H=hvn (fun _=>true) T k (hlk k H0) j)
 | [],tr,m,L,H,h,_,hm,hL,hH=>⟨tr,m,L,H,by simp,fun _ _=>rfl,h,hm,hL,hH,fun j o h1 h2=>by omega⟩
 | o::r,tr,m,L,H,h,hl,hm,hL,hH=>by
  obtain⟨t,hs,hr⟩:=h
  have ho:ops[tr.length]?=some o:=by have:=hl 0 zam;simp_all
  have hlast:(tr++[t])[tr.length]?=some t:=zam
  obtain⟨T,m',L',H',g1,g2,g3,g4,g5,g6,g7⟩:=DRX.steps (m0:=m0) (L0:=L0) (H0:=H0) r (tr++[t]) _ _ _ hr (fun i hi=>by
    have:=hl (i+1) zaC
    grind) (by
    simp_all[Pv,iG]) (fun x=>by
    rw[show(tr++[t]).length=tr.length+1 from by simp]
    simp only[Vx,hlast,iE (Nat.le_refl _),cond_true,I7,ho,Option.bind_some]
    unfold xn
    cases o.dst with
    | none=>exact hL x
    | some d =>
     simp only[Xr,GU]
     grind) (fun k=>by
    simp_all[hvn,iF,A2A])
  have hT:∀ i,i<=tr.length->T[i]?=(tr++[t])[i]?:=fun i hi=>g2 i zaC
  have hpre:∃ T2,T=(tr++[t])++T2:=⟨T.drop (tr.length+1),by
   apply List.ext_getElem?
   intro i
   rcases Nat.lt_or_ge i (tr.length+1) with hi|hi
   ·grind
   ·rw[List.getElem?_append_right zaC,List.getElem?_drop];simp_all⟩
  obtain⟨T2,rfl⟩:=hpre
  refine⟨_,m',L',H',by grind,fun i hi=>by grind,g3,g4,g5,g6,fun j o' h1 h2 ho'=>?_⟩
  rcases Nat.lt_or_ge j (tr++[t]).length with hj|hj
  ·have hj':j=tr.length:=zaJ
   subst hj'
   rw[ho] at ho';obtain rfl:=Option.some.inj ho'
   have hle:tr.length<=(tr++[t]).length:=zam
   exact⟨t,m,L,H,by simp_all,hs,by simp_all[iG],fun x=>by simp_all[iE],fun k=>by simp_all[iF]⟩
  ·exact g7 j o' hj h2 ho'
section
variable {P:Program}{I:World->Prop}{n:Nat}{g:Gx}{ops:Array Oper}{T:List Tr}{m0:Nat}{L0:LX}{H0:HX}
theorem A2B(t:Tr)(m:Nat):m<=stepM t m:=Nat.le_add_right _ _
theorem LQ {j : Nat} : ∀ {i : Nat}, j <= i -> Pv T m0 j <= Pv T m0 i
  | 0, h => by have : j = 0 := by omega
               rw [this]; exact Nat.le_refl _
  | i + 1, h => by
    by_cases e : j = i + 1
    · rw [e]; exact Nat.le_refl _
    · refine Nat.le_trans (LQ (i := i) zaa) ?_
      simp only [Pv]
      split
      · exact A2B _ _
      · exact Nat.le_refl _
theorem Steps.names(St:Steps P I ops T m0 L0 H0)(hT:T.length=ops.size)(h0:∀ k R,hlk k H0=some R->k<m0):∀(j:Nat),j<=ops.size->∀ k R,hvn (fun _=>true) T k (hlk k H0) j=some R->k<Pv T m0 j
 | 0,_,k,R,h=>h0 k R h
 | j+1,hj,k,R,h=>by
  obtain⟨t,m,L,H,h1,h2,h3,h4,h5⟩:=St.at' j ops[j] (Array.getElem?_eq_getElem zaa)
  simp only[hvn,h1,Option.bind_some,cond_true] at h
  have hle:Pv T m0 j<=Pv T m0 (j+1):=LQ zaa
  cases hw:wr t k with
  | none=>rw[hw] at h;exact Nat.lt_of_lt_of_le (St.names hT h0 j zaa k R h) hle
  | some x =>
   rw[hw] at h
   simp only at h
   subst h
   rcases h2.new k (A4e hw) with hF|hF
   ·obtain⟨R0,hF⟩:=(ED _ _).1 hF
    have:=h2.pre k R0 hF
    rw[h5] at this
    exact Nat.lt_of_lt_of_le (St.names hT h0 j zaa k R0 this) hle
   simp_all[Pv,stepM]
def NDr(T:List Tr)(m0:Nat)(D:Nat->Bool)(k:Nat):Prop:=k<m0\/∃ i t,D i=true/\T[i]?=some t/\has k t.F'
structure InvX (P:Program) (I:World->Prop) (n:Nat) (g:Gx) (ops:Array Oper) (T:List Tr) (m0:Nat) (L0:LX) (H0:HX) (listed:Array Bool) (a:Act) (w:World):Prop where
 len:listed.size=ops.size
 closed:∀ j (o:Oper),ops[j]?=some o->Ia listed j->∀ e∈o.after,Region.binds .any e=true->Ia listed e.on
 sat:∃ ν,Sat I n g (NDr T m0 (listed.getD · false)) (fun t=>Vx (listed.getD · false) ops T t (JM t L0) ops.size) (fun k=>hvn (listed.getD · false) T k (hlk k H0) ops.size) a w ν
theorem A05(C:Chk n ops T)(St:Steps P I ops T m0 L0 H0)(h0:∀ k R,hlk k H0=some R->k<m0){Q:Exit->Act->World->Prop}
  (hfin:∀ a w ν,Sat I n g (· < Pv T m0 ops.size) (fun t=>Vx (fun _=>true) ops T t (JM t L0) ops.size) (fun k=>hvn (fun _=>true) T k (hlk k H0) ops.size) a w ν->Q .normal a w) :
  ∀(fuel:Nat) (listed:Array Bool) (a:Act) (w:World),InvX P I n g ops T m0 L0 H0 listed a w->unl listed ops.size=fuel->wpAny P .any ops Q fuel listed a w:=by
 have hTget:∀ i,i<ops.size->∃ t,T[i]?=some t:=fun i hi=>⟨T[i]'(by rw[C.len];exact hi),List.getElem?_eq_getElem _⟩
 have hTlt:∀ i t,T[i]?=some t->i<ops.size:=fun i t h=>by rw[<-C.len];grind
 intro fuel
 induction fuel with
 | zero =>
  intro listed a w hI hf
  have hall:=jq.1 hf
  have hr:Region.ready .any ops listed=[]:=by
   cases hr:Region.ready .any ops listed with
   | nil=>rfl
   | cons i r =>
    obtain⟨h0',o,ho,_⟩:=mem_ready.1 (show i∈Region.ready .any ops listed by rw[hr];simp)
    grind[Ia]
  refine⟨hr,?_⟩
  obtain⟨ν,S⟩:=hI.sat
  refine hfin a w ν ?_
  have e1:(fun t=>Vx (listed.getD · false) ops T t (JM t L0) ops.size)=fun t=>Vx (fun _=>true) ops T t (JM t L0) ops.size:=funext fun t=>RU fun i hi _=>hall i hi
  have e2:(fun k=>hvn (listed.getD · false) T k (hlk k H0) ops.size)=fun k=>hvn (fun _=>true) T k (hlk k H0) ops.size:=funext fun k=>RQ fun i hi _ _ _ _=>hall i hi
  rw[<-e1,<-e2]
  refine S.moreN fun k hk=>?_
  rcases hk with h|⟨i,t,hi,ht,hF'⟩
  ·exact Nat.lt_of_lt_of_le h (LQ (j:=0) (Nat.zero_le _))
  ·have hilt:=hTlt i t ht
   obtain⟨t',m,L,H,h1,h2,h3,h4,h5⟩:=St.at' i ops[i] (Array.getElem?_eq_getElem hilt)
   rw[ht] at h1;obtain rfl:=Option.some.inj h1
   have hle:Pv T m0 (i+1)<=Pv T m0 ops.size:=LQ zaa
   rcases h2.new k hF' with hF|hF
   ·obtain⟨R0,hF⟩:=(ED _ _).1 hF
    have:=h2.pre k R0 hF
    rw[h5] at this
    exact Nat.lt_of_lt_of_le (St.names C.len h0 i zaa k R0 this) (LQ zaa)
   ·have e:Pv T m0 (i+1)=stepM t (Pv T m0 i):=by grind[Pv]
    show k<Pv T m0 ops.size
    have e2:stepM t (Pv T m0 i)=Pv T m0 i+t.nn:=rfl
    omega
 | succ fuel ih =>
  intro listed a w hI hf
  have hunl:∀ i,i<ops.size->(listed.getD i true=false↔¬Ia listed i):=by
   intro i hi
   have:=hI.len
   simp_all[Ia]
  refine⟨fun hr0=>?_,fun j hj=>?_⟩
  ·exfalso
   have hex:∃ i,i<ops.size/\¬Ia listed i:=by
    rcases Classical.em (∃ i,i<ops.size/\¬Ia listed i) with h|h
    ·exact h
    ·have:=jq.2 fun i hi=>Classical.byContradiction fun hn=>h ⟨i,hi,hn⟩
     omega
   obtain⟨i,⟨hik,hin⟩,hmin⟩:=exists_least (p:=fun i=>i<ops.size/\¬Ia listed i) hex
   have ho:ops[i]?=some ops[i]:=Array.getElem?_eq_getElem hik
   have:i∈Region.ready .any ops listed:=by
    rw[mem_ready]
    refine⟨(hunl i hik).2 hin,_,ho,fun e he hb=>?_⟩
    have hlt:=C.edge i _ ho e he hb
    grind
   simp_all
  ·obtain⟨h0',o,ho,hedge⟩:=mem_ready.1 hj
   have hjlt:=(Array.getElem?_eq_some_iff.1 ho).1
   have hjn:¬Ia listed j:=(hunl j hjlt).1 h0'
   have hDj:listed.getD j false=false:=zaJ
   have hrd:∀ o',ops[j]?=some o'->∀ e∈o'.after,Region.binds .any e=true->Ia listed e.on:=fun o' ho' e he hb=>by
    rw[ho] at ho';obtain rfl:=Option.some.inj ho';exact hedge e he hb
   obtain⟨t,m,L,H,hTj,hst,hm,hL,hH⟩:=St.at' j o ho
   obtain⟨ν,S⟩:=hI.sat
   -- what is forced
   have before:∀ i ti,i<j->T[i]?=some ti->XP ops i j ti t=true->listed.getD i false=true:=fun i ti hi hti hc=>(C.conf i j ti t hi hjlt hti hTj hc).ready hI.closed hrd
   have after:∀ i ti,j<i->T[i]?=some ti->XP ops j i t ti=true->listed.getD i false=false:=fun i ti hi hti hc=>by
    cases hb:listed.getD i false with
    | false=>rfl
    | true=>exact absurd ((C.conf j i t ti hi (hTlt i ti hti) hTj hti hc).listed hI.closed hb) hjn
   have slotB:∀ i d,i<j->I7 ops i=some d->(o.looksAt ops).contains d=true->listed.getD i false=true:=fun i d hi hd hc=>by
    grind[XP]
   have slotA:∀ i d,j<i->I7 ops i=some d->(o.looksAt ops).contains d=true->listed.getD i false=false:=fun i d hi hd hc=>by
    grind[I7,XP]
   have keyin:∀(q:Tr) k,touches q k=true->k∈keysOf q.F++keysOf q.F':=fun q k h=>by
    unfold touches at h
    rw[Bool.or_eq_true] at h
    exact List.mem_append.2 (h.imp lC lC)
   have cf:∀(i1 i2:Nat) (t1 t2:Tr) (k:Nat),touches t1 k=true->touches t2 k=true->(t1.rd=false\/t2.rd=false)->XP ops i1 i2 t1 t2=true:=fun i1 i2 t1 t2 k h1 h2 h3=>by
    unfold XP
    grind
   have resB:∀ i ti k x,i<j->T[i]?=some ti->wr ti k=some x->touches t k=true->listed.getD i false=true:=fun i ti k x hi hti hw hk =>
    before i ti hi hti (cf i j ti t k (N8 hw).1 hk (.inl (N8 hw).2))
   have resA:∀ i ti k x,j<i->T[i]?=some ti->wr ti k=some x->touches t k=true->listed.getD i false=false:=fun i ti k x hi hti hw hk =>
    after i ti hi hti (cf j i t ti k hk (N8 hw).1 (.inr (N8 hw).2))
   -- what is looked at
   have hlook:∀ x s,Q8 x (o.looksAt ops)=true->JM x L=some s->Rep ⟨NDr T m0 (listed.getD · false),ν,G9 g.Oa (fun k=>hvn (listed.getD · false) T k (hlk k H0) ops.size) ν,w⟩ s (a.tmps.getD x undef):=fun x s hx hs=>by
    have hc:(o.looksAt ops).contains x=true:=by grind[Md]
    refine S.slots x s ?_
    show Vx (listed.getD · false) ops T x (JM x L0) ops.size=some s
    rw[Ul (j:=j) zaa (fun i hi _ hd=>by
     grind),RU (D':=fun _=>true) (fun i hi hd=>slotB i x hi hd hc),<-hL]
    exact hs
   have hval:W9 ⟨NDr T m0 (listed.getD · false),ν,G9 g.Oa (fun k=>hvn (listed.getD · false) T k (hlk k H0) ops.size) ν,w⟩ (kN (o.looksAt ops) L) a.eval:=by
    intro x s hx
    cases x with
    | tmp q=>obtain⟨h1,h2⟩:=iC hx;exact hlook q s h1 h2
    | const c=>simp only[Gl,Option.some.injEq] at hx;subst hx;exact AV.of_rep _ c
    | global g=>simp only[Gl,Option.some.injEq] at hx;subst hx;simp only[Rep];rfl
    | func g=>simp only[Gl,Option.some.injEq] at hx;subst hx;simp only[Rep,Ai];exact⟨[],[],rfl,rfl,rfl⟩
   have hpre:∀ k R,FN k t.F=some R->hvn (listed.getD · false) T k (hlk k H0) ops.size=some R:=fun k R hF=>by
    have htk:touches t k=true:=by simp[touches,hF]
    rw[Uk (j:=j) zaa (fun i hi _ ti x hti hw=>by
     grind),RQ (D':=fun _=>true) (fun i hi ti x hti hw=>resB i ti k x hi hti hw htk),<-hH]
    exact hst.pre k R hF
   have hnew:∀ k,has k t.F'->has k t.F\/¬NDr T m0 (listed.getD · false) k:=fun k hF'=>by
    have htk:touches t k=true:=by grind[has,touches]
    rcases hst.new k hF' with h|h
    ·exact .inl h
    ·by_cases hF:has k t.F
     ·exact .inl hF
     ·right
      have hrdj:t.rd=false:=by
       cases hr:t.rd with
       | false=>rfl
       | true=>exact absurd (by rw[<-hst.rd hr];exact hF') hF
      have ej:Pv T m0 (j+1)=Pv T m0 j+t.nn:=by grind[Pv,stepM]
      rintro(hlt|⟨i,ti,hDi,hti,hFi⟩)
      ·have:m0<=Pv T m0 j:=LQ (j:=0) (Nat.zero_le _)
       omega
      ·have hDi:listed.getD i false=true:=hDi
       have hij:i≠j:=fun e=>zaJ
       have htik:touches ti k=true:=by grind[has,touches]
       have hilt:=hTlt i ti hti
       obtain⟨t',m',L',H',g1,g2,g3,g4,g5⟩:=St.at' i ops[i] (Array.getElem?_eq_getElem hilt)
       rw[hti] at g1;obtain rfl:=Option.some.inj g1
       rcases Nat.lt_or_gt_of_ne hij with hlt|hgt
       ·rcases g2.new k hFi with hFi2|hFi2
        ·obtain⟨R0,hq⟩:=(ED _ _).1 hFi2
         have:=g2.pre k R0 hq
         rw[g5] at this
         have:=St.names C.len h0 i zaa k R0 this
         have hmm:Pv T m0 i<=Pv T m0 j:=LQ zaa
         omega
        ·have ei:Pv T m0 (i+1)=Pv T m0 i+ti.nn:=by grind[Pv,stepM]
         have hmm:Pv T m0 (i+1)<=Pv T m0 j:=LQ zaa
         omega
       grind
   -- what follows
   have hls:∀ i,Ia (listed.setIfInBounds j true) i↔i=j\/Ia listed i:=fun i=>A1M zaJ
   have hD':∀ i,i≠j->(listed.setIfInBounds j true).getD i false=listed.getD i false:=fun i hi=>getD_set_ne false (fun e=>hi e.symm)
   have hD'j:(listed.setIfInBounds j true).getD j false=true:=by have:=hI.len;simp[show j<listed.size by omega]
   have hlen':(listed.setIfInBounds j true).size=ops.size:=by simp[hI.len]
   have hcl':∀ i (o:Oper),ops[i]?=some o->Ia (listed.setIfInBounds j true) i->∀ e∈o.after,Region.binds .any e=true->Ia (listed.setIfInBounds j true) e.on:=fun i o' ho' h e he hb=>(hls _).2 (by
    rcases(hls i).1 h with rfl|h
    ·grind
    ·exact .inr (hI.closed i o' ho' h e he hb))
   have hunl':unl (listed.setIfInBounds j true) ops.size=fuel:=by grind[A4N]
   have hN:∀ k,NDr T m0 ((listed.setIfInBounds j true).getD · false) k↔NDr T m0 (listed.getD · false) k\/has k t.F':=fun k=>by
    constructor
    ·rintro(h|⟨i,ti,h1,h2,h3⟩)
     ·exact .inl (.inl h)
     ·by_cases e:i=j
      ·grind
      ·have h1:(listed.setIfInBounds j true).getD i false=true:=h1
       rw[hD' i e] at h1;exact .inl (.inr ⟨i,ti,h1,h2,h3⟩)
    ·rintro((h|⟨i,ti,h1,h2,h3⟩)|h)
     ·exact .inl h
     ·have h1:listed.getD i false=true:=h1
      by_cases e:i=j
      ·grind
      ·exact .inr ⟨i,ti,by grind,h2,h3⟩
     ·exact .inr ⟨j,t,hD'j,hTj,h⟩
   have hkq:∀ k,hvn ((listed.setIfInBounds j true).getD · false) T k (hlk k H0) ops.size=upd t.F t.F' (fun k=>hvn (listed.getD · false) T k (hlk k H0) ops.size) k:=fun k=>by
    have same:wr t k=none->hvn ((listed.setIfInBounds j true).getD · false) T k (hlk k H0) ops.size=hvn (listed.getD · false) T k (hlk k H0) ops.size:=fun hw=>RQ fun i _ ti x hti hwi=>by
     grind
    cases hr:t.rd with
    | true =>
     have hw:wr t k=none:=by grind[wr]
     rw[same hw]
     have hFF:=hst.rd hr
     grind[upd]
    | false =>
     rw[A6b t _ k hr]
     cases hw:wr t k with
     | none=>exact same hw
     | some x =>
      have htk:=(N8 hw).1
      rw[Uk (j:=j+1) zaa (fun i hi _ ti x hti hwi=>by
       grind)]
      simp only[hvn,hTj,Option.bind_some,hw,hD'j,cond_true]
   have hlq:∀ x,Vx ((listed.setIfInBounds j true).getD · false) ops T x (JM x L0) ops.size=if o.dst=some x then some t.s else Vx (listed.getD · false) ops T x (JM x L0) ops.size:=fun x=>by
    have hdj:I7 ops j=o.dst:=by simp[I7,ho]
    by_cases e:o.dst=some x
    ·rw[if_pos e,Ul (j:=j+1) zaa (fun i hi hi2 hd=>absurd hd (C.uniq j i x zaa hi2 zaJ))]
     simp only[Vx,hdj,e,hTj,hD'j,cond_true,if_true]
    ·rw[if_neg e]
     grind[RU]
   have next:∀(v:Value) (w':World) (ν':Nat->Value),Ok ⟨NDr T m0 (listed.getD · false),ν,G9 g.Oa (fun k=>hvn (listed.getD · false) T k (hlk k H0) ops.size) ν,w⟩ t.F t.F' t.s v w' ν'->wpAny P .any ops Q fuel (listed.setIfInBounds j true) (a.put o.dst v) w':=by
    intro v w' ν' ok
    obtain⟨S',hr⟩:=S.step (N':=NDr T m0 ((listed.setIfInBounds j true).getD · false)) (hk':=fun k=>hvn ((listed.setIfInBounds j true).getD · false) T k (hlk k H0) ops.size) hpre ok hN hkq
    refine ih _ _ _ ⟨hlen',hcl',ν',?_⟩ hunl'
    cases hd:o.dst with
    | none =>
     have e1:(fun x=>Vx ((listed.setIfInBounds j true).getD · false) ops T x (JM x L0) ops.size)=fun x=>Vx (listed.getD · false) ops T x (JM x L0) ops.size:=funext fun x=>zaJ
     rw[e1]
     exact S'
    | some d =>
     exact S'.put (C.dstn j o d ho hd) hr fun x=>by
      grind
   unfold wpOp
   rw[ho]
   show if _ then _ else _
   have hobl:=hst.obl
   unfold Obl at hobl
   cases hg:o.guard with
   | none =>
    rw[hg] at hobl
    rw[if_pos (by simp[Region.wanted,hg])]
    refine .inl (KQ (Jz (hobl _ a.eval (S.good) hval ⟨fun k R hF=>?_,fun k k' R R' b h h'=>S.dist k k' R R' b (hpre k R h) (hpre k' R' h'),hnew⟩) ?_))
    ·obtain⟨r0,r1,r2⟩:=S.res k R (hpre k R hF)
     exact⟨r0,r1,fun b hb=>.inr ⟨k,R,hpre k R hF,hb⟩⟩
    grind
   | some p =>
    obtain⟨gi,want⟩:=p
    rw[hg] at hobl
    obtain⟨d',vd,hd',hb,hcase⟩:=hobl
    have hlkd:Q8 d' (o.looksAt ops)=true:=by
     refine Md.2 (List.mem_append_right _ ?_)
     have:(ops[gi]?).bind (·.dst)=some d':=hd'
     grind
    have hvb:=hlook d' _ hlkd hb
    have hgl:∃ og,ops[gi]?=some og/\og.dst=some d':=by
     have:(ops[gi]?).bind (·.dst)=some d':=hd'
     cases hog:ops[gi]? with
     | none|some og=>grind
    obtain⟨og,hog,hogd⟩:=hgl
    have hdn':=C.dstn gi og d' hog hogd
    have hyb:∀ b,vd=.b b->yielded ops a.tmps gi=some b:=by
     rintro b rfl
     simp only[Rep] at hvb
     simp only[yielded,hog,Option.bind_some,hogd]
     rw[Array.getD_eq_getD_getElem?] at hvb
     have hlt:d'<a.tmps.size:=by rw[S.size];exact hdn'
     grind
    have hyu:vd=.tup []->yielded ops a.tmps gi=none:=by
     rintro rfl
     simp only[Rep,Ai] at hvb
     obtain⟨us,hvb,rfl⟩:=hvb
     simp only[yielded,hog,Option.bind_some,hogd]
     rw[Array.getD_eq_getD_getElem?] at hvb
     grind
    rcases hcase with⟨hv,hy⟩|⟨hv,e1,e2,e3⟩
    ·rw[if_pos (by grind[Region.wanted])]
     refine .inl (KQ (Jz (hy _ a.eval (S.good) hval ⟨fun k R hF=>?_,fun k k' R R' b h h'=>S.dist k k' R R' b (hpre k R h) (hpre k' R' h'),hnew⟩) ?_))
     ·obtain⟨r0,r1,r2⟩:=S.res k R (hpre k R hF)
      exact⟨r0,r1,fun b hb=>.inr ⟨k,R,hpre k R hF,hb⟩⟩
     grind
    ·rw[if_neg (by
      grind[Region.wanted])]
     have:=Ok.pure (c:=⟨NDr T m0 (listed.getD · false),ν,G9 g.Oa (fun k=>hvn (listed.getD · false) T k (hlk k H0) ops.size) ν,w⟩) (s:=.tup []) (v:=undef) (w':=w) zbK (Stp.refl _ _)
     grind
theorem A4g{Q:PostX}{id:Nat}{l:List Oper}{m:Nat}{L:LX}{H:HX}(hm:P.follows .mixedOrders=true)(h:DRX P I l.toArray (fun tr m' L' H'=>drawChk0 n l.toArray tr=true/\Q .normal m' L' H') l [] m L H):Wc P I n g (.region id l.toArray true) Q m L H:=by
 intro a w ν S
 obtain⟨T,m',L',H',g1,g2,⟨g3,g3'⟩,g4,g5,g6,g7⟩:=h.steps (m0:=m) (L0:=L) (H0:=H) l [] m L H (fun i hi=>by simp) rfl (fun x=>rfl) (fun k=>rfl)
 have C:=iD g3
 have hTl:T.length=l.toArray.size:=zaJ
 have St:Steps P I l.toArray T m L H:=⟨fun j o ho=>g7 j o (Nat.zero_le _) zaJ ho⟩
 refine wp_region_any hm ?_
 have hno:∀ j,(Array.replicate l.toArray.size false).getD j false=false:=fun j=>by
  simp only[Array.getD_eq_getD_getElem?,Array.getElem?_replicate]
  split<;>rfl
 have hu:unl (Array.replicate l.toArray.size false) l.toArray.size=l.toArray.size:=by
  have:=zU (listed:=Array.replicate l.toArray.size false) (m:=0) l.toArray.size (fun i hi=>by
   simp_all[Ia])
  omega
 have S1:JO I n g m L H a {w with drawn:=w.drawn+1} ν:=by
  have hst:Stp No w {w with drawn:=w.drawn+1}:=⟨rfl,rfl,rfl,Nat.le_refl _,fun _ _ _=>rfl⟩
  have hle:Cx.Le none ⟨(· < m),ν,G9 g.Oa (fun k=>hlk k H) ν,w⟩ ⟨(· < m),ν,G9 g.Oa (fun k=>hlk k H) ν,{w with drawn:=w.drawn+1}⟩:=⟨fun _ _ h=>⟨h,rfl⟩,fun w'' hs=>hst.then hs (fun i _ h=>h.elim) fun i _ h=>h⟩
  refine⟨S.size,S.defers,S.stp.then hst (fun i _ h=>h) (fun i _ h=>h.elim),S.amb,fun w' hs=>S.inv w' (hle.st w' hs),S.pin,fun t s hs=>Rep.le hle s _ (Gt s) (S.slots t s hs),fun k R hR=>?_,S.dist⟩
  obtain⟨r0,r1,r2⟩:=S.res k R hR
  exact⟨r0,Holds.le hle (EM _) rfl (fun b hb=>⟨(r2 b hb).1,rfl⟩) r1,r2⟩
 refine A05 (g:=g) C St (fun k R hk=>(S.res k R hk).1) (Q:=kE I n g Q) ?_ _ _ a _ ⟨by simp,(fun j o _ h=>by simp_all[Ia]),ν,?_⟩ hu
 ·intro a' w' ν' S'
  refine⟨m',L',H',ν',g3',?_⟩
  grind
 ·have e1:(fun t=>Vx ((Array.replicate l.toArray.size false).getD · false) l.toArray T t (JM t L) l.toArray.size)=fun t=>JM t L:=funext fun t=>Ul (j:=0) (Nat.zero_le _) fun i _ _ _=>hno i
  have e2:(fun k=>hvn ((Array.replicate l.toArray.size false).getD · false) T k (hlk k H) l.toArray.size)=fun k=>hlk k H:=funext fun k=>Uk (j:=0) (Nat.zero_le _) fun i _ _ _ _ _ _=>hno i
  rw[e1,e2]
  exact S1.moreN fun k hk=>.inl hk
end
def Am:Nat->Array Oper->List Tr->Bool:=Ac drawChk0
theorem cZ:Am=drawChk0:=BJ _
theorem drw{n:Nat}{ops:Array Oper}{tr:List Tr}(h:drawChk0 n ops tr=true):Am n ops tr=true:=by rw[cZ];exact h
def Jc{R:Type}:LX->(LX->R)->R
 | [],K=>K []
 | (t,s)::L,K=>force s fun s=>Jc L fun L=>K ((t,s)::L)
theorem Ey{R:Type}:∀(l:LX) (K:LX->R),Jc l K=K l
 | [],K=>rfl
 | (t,s)::r,K=>by simp only[Jc,force_eq,Ey r]
def Ij{R:Type}(T:TT)(G:FT)(Q:Req->Option Rsp)(ops:List Oper):List Oper->List Tr->Nat->LX->HX->(List Tr->Nat->LX->HX->Option R)->Option R
 | [],tr,m,L,H,K=>K tr m L H
 | o::r,tr,m,L,H,K=>match o.guard with
  | none=>Iz (o.looksAt ops.toArray) fun lk=>Jc (kN lk L) fun L'=>Ii T G Q (Gl L') (fun k=>hlk k H) m o.op fun t=>Ir o.dst t m L H fun m L H=>Ij T G Q ops r (tr++[t]) m L H K
  | some (j,want)=>(match(ops[j]?).bind (·.dst) with
   | some d'=>(match JM d' L with
    | some (.b c)=>bif c then
      bif want then Iz (o.looksAt ops.toArray) fun lk=>Jc (kN lk L) fun L'=>Ii T G Q (Gl L') (fun k=>hlk k H) m o.op fun t=>Ir o.dst t m L H fun m L H=>Ij T G Q ops r (tr++[t]) m L H K
      else Ij T G Q ops r (tr++[⟨.tup [],[],[],true,0⟩]) m (Xr o.dst (.tup []) L) H K
     else
      bif want then Ij T G Q ops r (tr++[⟨.tup [],[],[],true,0⟩]) m (Xr o.dst (.tup []) L) H K
      else Iz (o.looksAt ops.toArray) fun lk=>Jc (kN lk L) fun L'=>Ii T G Q (Gl L') (fun k=>hlk k H) m o.op fun t=>Ir o.dst t m L H fun m L H=>Ij T G Q ops r (tr++[t]) m L H K
    | some (.tup [])=>Ij T G Q ops r (tr++[⟨.tup [],[],[],true,0⟩]) m (Xr o.dst (.tup []) L) H K
    | _=>none)
   | none=>none)
theorem A4h{m:Nat}{H:HX}(hm:∀ k R,hlk k H=some R->k<m)(hpre:∀ k R,FN k t.F=some R->hlk k H=some R)(hnew:∀ k,has k t.F'->has k t.F\/(m<=k/\k<m+t.nn))(hrd:t.rd=true->t.F'=t.F):∀ k R,hlk k (stH t H)=some R->k<m+t.nn:=by
 intro k R h
 rw[xk hpre hrd] at h
 rcases bM h with h|⟨h,_,_⟩
 ·rcases hnew k ((ED _ _).2 ⟨R,h⟩) with h1|h1
  ·obtain⟨R0,h2⟩:=(ED _ _).1 h1
   have:=hm k R0 (hpre k R0 h2);omega
  ·exact h1.2
 ·have:=hm k R h;omega
section
variable {P:Program}{I:World->Prop}{n:Nat}{g:Gx}{T:TT}{G:FT}{Q:Req->Option Rsp}{α:Type}{r:α}
theorem A2C(hT:TTok P I T)(hG:gq P G)(hQ:QOK P I Q){ops:List Oper}{fin:List Tr->Nat->LX->HX->Prop}{K:List Tr->Nat->LX->HX->Option α}(hK:∀ tr m L H,K tr m L H=some r->fin tr m L H)(l:List Oper):∀(tr:List Tr) (m:Nat) (L:LX) (H:HX),(∀ k R,hlk k H=some R->k<m)->Ij T G Q ops l tr m L H K=some r->DRX P I ops.toArray fin l tr m L H:=by
 induction l with
 | nil=>intro tr m L H _ h;exact hK _ _ _ _ h
 | cons o l ih =>
  intro tr m L H hm h
  rw[Ij] at h
  have run:∀ lk,lk=o.looksAt ops.toArray->Ii T G Q (Gl (kN lk L)) (fun k=>hlk k H) m o.op (fun t=>Ir o.dst t m L H fun m L H=>Ij T G Q ops l (tr++[t]) m L H K)=some r->∃ t,(OPL P I (kN (o.looksAt ops.toArray) L) t.F o.op o.type t.s t.F')/\(∀ k R,FN k t.F=some R->hlk k H=some R)/\(∀ k,has k t.F'->has k t.F\/(m<=k/\k<m+t.nn))/\(t.rd=true->t.F'=t.F)/\DRX P I ops.toArray fin l (tr++[t]) (stepM t m) (xn o.dst t.s L) (kz t H):=by
   clear h
   rintro lk rfl h9
   obtain⟨t,ht,ok⟩:=Yx hT hG hQ hm h9
   rw[Uj] at ht
   exact⟨t,ok.opl _,ok.pre,ok.new,ok.rd,ih _ _ _ _ (A4h hm ok.pre ok.new ok.rd) ht⟩
  have skip:Ij T G Q ops l (tr++[⟨.tup [],[],[],true,0⟩]) m (Xr o.dst (.tup []) L) H K=some r->DRX P I ops.toArray fin l (tr++[⟨.tup [],[],[],true,0⟩]) (stepM ⟨.tup [],[],[],true,0⟩ m) (xn o.dst (.tup []) L) (kz ⟨.tup [],[],[],true,0⟩ H):=fun h=>ih _ _ _ _ hm h
  have hnil:∀ k R,FN k ([]:Fp)=some R->hlk k H=some R:=fun k R h=>za6
  have hnil2:∀ k,has k ([]:Fp)->has k ([]:Fp)\/(m<=k/\k<m+0):=fun k h=>absurd h (J3 k)
  split at h
  ·rename_i hg
   rw[Eo,Ey] at h
   obtain⟨t,h1,h2,h3,h4,h5⟩:=run _ rfl h
   exact⟨t,⟨by simp_all[Obl],h2,h3,h4⟩,h5⟩
  ·rename_i j want hg
   split at h
   ·rename_i d' hd'
    have hj:I7 ops.toArray j=some d':=by grind[I7]
    split at h
    ·rename_i c hc
     have run2:c=want->Ii T G Q (Gl (kN (o.looksAt ops.toArray) L)) (fun k=>hlk k H) m o.op (fun t=>Ir o.dst t m L H fun m L H=>Ij T G Q ops l (tr++[t]) m L H K)=some r->DRX P I ops.toArray fin (o::l) tr m L H:=by
      intro e h9
      obtain⟨t,h1,h2,h3,h4,h5⟩:=run _ rfl h9
      exact⟨t,⟨by simp_all[Obl],h2,h3,h4⟩,h5⟩
     have skip2:c = !want->Ij T G Q ops l (tr++[⟨.tup [],[],[],true,0⟩]) m (Xr o.dst (.tup []) L) H K=some r->DRX P I ops.toArray fin (o::l) tr m L H:=by
      intro e h9
      exact⟨⟨.tup [],[],[],true,0⟩,⟨by unfold Obl;simp_all,hnil,hnil2,fun _=>rfl⟩,skip h9⟩
     cases c with
     | true =>
      cases want with
      | true=>simp only[cond_true,Eo,Ey] at h;simp_all
      | false=>simp_all
     | false =>
      cases want with
      | true=>simp_all
      | false=>simp only[cond_false,Eo,Ey] at h;simp_all
    ·rename_i hc
     exact⟨⟨.tup [],[],[],true,0⟩,⟨by unfold Obl;simp_all,hnil,hnil2,fun _=>rfl⟩,skip h⟩
    ·cases h
   ·cases h
end
end
end Go.Ax
namespace Go.Ax
noncomputable section
open Go Go.RowKit Go.Eng
set_option linter.unusedVariables false
set_option linter.unusedSimpArgs false
def Yy(keep:List Nat)(L:LX):LX:=match keep with
 | []=>[]
 | t::r=>(match JM t L with|some s=>(t,s)::Yy r L|none=>Yy r L)
def Tu:LX->List Nat
 | []=>[]
 | (_,s)::L=>names s++Tu L
def A4i(ρ:Nat->Nat):LX->LX
 | []=>[]
 | (t,s)::L=>(t,ren ρ s)::A4i ρ L
def upto(n:Nat):List Nat:=List.range n
def hIn(ρ:Nat->Nat)(hk:Nat->Option Rs):Nat->List Nat->HX
 | _,[]=>[]
 | i,k::r=>match hk k with
  | some R=>(i,some (Ic ρ R))::hIn ρ hk (i+1) r
  | none=>hIn ρ hk (i+1) r
variable {R:Type}
def Nz:HX->(HX->R)->R
 | [],K=>K []
 | (k,some r)::H,K=>WA r fun r=>Nz H fun H=>K ((k,some r)::H)
 | (k,none)::H,K=>Nz H fun H=>K ((k,none)::H)
theorem IV:∀(l:HX) (K:HX->R),Nz l K=K l
 | [],K=>rfl
 | (k,some r)::H,K=>by simp only[Nz,Qz,IV H]
 | (k,none)::H,K=>by simp only[Nz,IV H]
def preB:Nat->Nat->List Nat->Bool
 | 0,_,_=>true
 | n+1,i,k::r=>Nat.beq k i&&preB n (i+1) r
 | _+1,_,[]=>false
def Tv(hk:Nat->Option Rs)(ks:List Nat):List Nat->Bool
 | []=>true
 | k::r=>(match hk k with|some R=>allIn ks (Ny R)|none=>true)&&Tv hk ks r
def canon(keep:List Nat)(n0:Nat)(L:LX)(H:HX)(K:Nat->LX->HX->Option R):Option R :=
 Jc (Yy keep L) fun L1=>Iz (close (fun k=>hlk k H) 60 [] (upto n0++Tu L1)) fun ks =>
  bif nodupB ks&&preB n0 0 ks&&allIn ks (Tu L1)&&Tv (fun k=>hlk k H) ks ks then
   Jc (A4i (fun k=>idx k ks) L1) fun L=>Nz (hIn (fun k=>idx k ks) (fun k=>hlk k H) 0 ks) fun H=>addN 0 ks.length fun m=>K m L H
  else none
theorem A2D{keep:List Nat}{L:LX}{t:Nat}{s:AV}(h:JM t (Yy keep L)=some s):JM t L=some s:=by
 induction keep with
 | nil=>cases h
 | cons d r ih =>
  grind[Yy,GU]
theorem lD{ρ:Nat->Nat}{t:Nat}{s:AV}:∀ {L:LX},JM t (A4i ρ L)=some s->∃ s1,JM t L=some s1/\s=ren ρ s1
 | [],h=>za6
 | (d,v)::L,h=>by
  simp only[A4i] at h
  rw[GU] at h ⊢
  split at h
  ·simp_all
  ·rename_i e;rw[if_neg e];exact lD h
theorem Yz{t:Nat}{s:AV}{k:Nat}(hk:k∈names s):∀ {L:LX},JM t L=some s->k∈Tu L
 | [],h=>za6
 | (d,v)::L,h=>by
  rw[GU] at h
  simp only[Tu]
  split at h
  ·simp_all
  ·exact List.mem_append.2 (.inr (Yz hk h))
theorem QE{ρ:Nat->Nat}{hk:Nat->Option Rs}{R:Rs}{j:Nat}:∀ {ks:List Nat} {i:Nat},hlk j (hIn ρ hk i ks)=some R->∃ q k R1,ks[q]?=some k/\j=i+q/\hk k=some R1/\R=Ic ρ R1
 | [],i,h=>za6
 | k::ks,i,h=>by
  simp only[hIn] at h
  split at h
  ·rename_i R1 h1
   rw[IP] at h
   split at h
   ·rename_i e;exact⟨0,k,R1,rfl,by simpa using e,h1,(Option.some.inj h).symm⟩
   ·obtain⟨q,k',R',g1,g2,g3,g4⟩:=QE h
    exact⟨q+1,k',R',by grind,by omega,g3,g4⟩
  ·obtain⟨q,k',R',g1,g2,g3,g4⟩:=QE h
   exact⟨q+1,k',R',by grind,by omega,g3,g4⟩
theorem Z4:∀ {n i:Nat} {ks:List Nat} {j:Nat},preB n i ks=true->j<n->ks[j]?=some (i+j)
 | 0,i,ks,j,_,hj=>zaa
 | n+1,i,[],j,h,_=>za6
 | n+1,i,k::r,0,h,_=>by simp_all[preB]
 | n+1,i,k::r,j+1,h,hj=>by
  simp only[preB,Bool.and_eq_true] at h
  have:=Z4 (j:=j) h.2 zaa
  grind
theorem Tz{hk:Nat->Option Rs}{ks:List Nat}:∀ {l:List Nat} {k:Nat} {R:Rs},Tv hk ks l=true->k∈l->hk k=some R->∀ q∈Ny R,q∈ks
 | a::l,k,R,h,hm,hR=>by
  simp only[Tv,Bool.and_eq_true] at h
  rcases List.mem_cons.1 hm with rfl|hm
  ·simp_all[MO]
  ·exact Tz h.2 hm hR
theorem A2E{keep:List Nat}{n0:Nat}{L:LX}{H:HX}{K:Nat->LX->HX->Option R}{r:R}(h:canon keep n0 L H K=some r):∃(m':Nat) (L':LX) (H':HX) (ρ:Nat->Nat),K m' L' H'=some r /\
  ∀ {I:World->Prop} {n:Nat} {g:Gx} {m:Nat} {a:Act} {w:World} {ν:Nat->Value},g.n0=n0->JO I n g m L H a w ν->JO I n g m' L' H' a w (fun k=>ν (ρ k)):=by
 unfold canon at h
 rw[Ey,Eo] at h
 generalize hks:close (fun k=>hlk k H) 60 [] (upto n0++Tu (Yy keep L))=ks at h
 cases hc:(nodupB ks&&preB n0 0 ks&&allIn ks (Tu (Yy keep L))&&Tv (fun k=>hlk k H) ks ks) with
 | false=>simp_all
 | true =>
  rw[hc] at h
  simp only[cond_true,Ey,IV,EN,Nat.zero_add] at h
  simp only[Bool.and_eq_true,Oy,MO] at hc
  obtain⟨⟨⟨hnd,hpre⟩,hin⟩,hinH⟩:=hc
  refine⟨_,_,_,nth ks,h,fun {I n g m a w ν} hg S=>?_⟩
  refine S.cut (nth ks) (fun k hk=>?_) (fun t s hs=>?_) (fun k R hR=>?_) (fun k k' R R' h1 h2 e=>?_)
  ·rw[hg] at hk
   have:=Z4 hpre hk
   rw[Nat.zero_add] at this
   grind[JX]
  ·obtain⟨s1,h1,rfl⟩:=lD hs
   grind[kw,Yz,A2D]
  ·obtain⟨q,k',R1,h1,h2,h3,rfl⟩:=QE hR
   rw[Nat.zero_add] at h2
   subst h2
   obtain⟨h4,h5⟩:=WV (R:=R1) (Tz hinH (List.mem_of_getElem? h1) h3)
   grind[JX]
  ·obtain⟨q,k1,R1,g1,g2,_,_⟩:=QE h1
   obtain⟨q',k2,R2,f1,f2,_,_⟩:=QE h2
   rw[Nat.zero_add] at g2 f2
   grind[JX,List.getElem?_inj]
def one1(k e:Nat)(t:Ty)(l:List (El t)):Nat->Option Rs:=fun j=>bif Nat.beq j k then some (.row e t l) else none
def vwX(hk:Nat->Option Rs):LX->LX
 | []=>[]
 | (t,s)::L=>(t,vw hk s)::vwX hk L
def A6c(hk:Nat->Option Rs):Rs->Rs
 | .var l=>.var (kL hk l)
 | .rowA e s n l=>.rowA e s n (kL hk l)
 | R=>R
def vwH(hk:Nat->Option Rs):HX->HX
 | []=>[]
 | (k,some R)::H=>(k,some (A6c hk R))::vwH hk H
 | (k,none)::H=>(k,none)::vwH hk H
theorem xq(hk:Nat->Option Rs)(t:Nat):∀(L:LX),JM t (vwX hk L)=(JM t L).map (vw hk)
 | []=>rfl
 | (d,s)::L=>by rw[vwX,GU,GU,xq hk t L];split<;>rfl
theorem xu(hk:Nat->Option Rs)(k:Nat):∀(H:HX),hlk k (vwH hk H)=(hlk k H).map (A6c hk)
 | []=>rfl
 | (d,some R)::H|(d,none)::H=>by rw[vwH,IP,IP,xu hk k H];split<;>rfl
theorem Sat.giveUp{I:World->Prop}{n:Nat}{g:Gx}{m:Nat}{L:LX}{H:HX}{a:Act}{w:World}{ν:Nat->Value}(S:JO I n g m L H a w ν){k e:Nat}{t:Ty}{l:List (El t)}(hkk:hlk k H=some (.row e t l)):
  JO I n g m (vwX (one1 k e t l) L) ((k,none)::vwH (one1 k e t l) H) a w ν:=by
 have hG:∀ q R,FN q [(k,Rs.row e t l)]=some R->q=k/\R=.row e t l:=fun q R h=>by
  rw[Cb] at h
  simp_all
 have hres:∀ q R,FN q [(k,Rs.row e t l)]=some R->q<m/\Holds ⟨(· < m),ν,G9 g.Oa (fun k=>hlk k H) ν,w⟩ q R/\∀ b,blk (ν q)=some b->G9 g.Oa (fun k=>hlk k H) ν b:=fun q R h=>by
  obtain⟨rfl,rfl⟩:=hG q R h
  obtain⟨r0,r1,r2⟩:=S.res _ _ hkk
  exact⟨r0,r1,fun b hb=>.inr ⟨_,_,hkk,hb⟩⟩
 have hin:∀ q,∀ e' t' l',one1 k e t l q=some (.row e' t' l')->FN q [(k,Rs.row e t l)]=some (.row e' t' l'):=fun q e' t' l' h=>by
  unfold one1 at h
  cases hb:Nat.beq q k with
  | false=>simp_all
  | true =>
   simp_all[Cb]
 have hk':∀ q R,hlk q ((k,none)::vwH (one1 k e t l) H)=some R->q≠k/\∃ R0,hlk q H=some R0/\R=A6c (one1 k e t l) R0:=fun q R h=>by
  grind[IP,xu,Option.map_eq_some_iff]
 have hfb:∀ b,Em ν [(k,Rs.row e t l)] b↔blk (ν k)=some b:=fun b=>by
  constructor
  ·rintro⟨q,R,h,hb⟩;grind
  ·intro hb;exact⟨k,_,by rw[Cb,if_pos rfl],hb⟩
 have hown:∀ b,G9 g.Oa (fun q=>hlk q ((k,none)::vwH (one1 k e t l) H)) ν b->G9 g.Oa (fun k=>hlk k H) ν b/\¬Em ν [(k,Rs.row e t l)] b:=by
  rintro b (hb|⟨q,R,hq,hb⟩)
  ·refine⟨.inl hb,fun hf=>?_⟩
   have h1:=S.amb b hb
   have h2:=((S.res _ _ hkk).2.2 b ((hfb b).1 hf)).2
   grind
  ·obtain⟨hne,R0,h1,_⟩:=hk' q R hq
   refine⟨.inr ⟨q,R0,h1,hb⟩,fun hf=>?_⟩
   exact S.dist q k R0 _ b h1 hkk hne hb ((hfb b).1 hf)
 have hle:Cx.Le none (Cx.less ⟨(· < m),ν,G9 g.Oa (fun k=>hlk k H) ν,w⟩ [(k,Rs.row e t l)]) ⟨(· < m),ν,G9 g.Oa (fun q=>hlk q ((k,none)::vwH (one1 k e t l) H)) ν,w⟩ :=
  ⟨fun k _ h=>⟨h,rfl⟩,fun w'' hs=>hs.mono fun i _ h=>hown i h⟩
 refine⟨S.size,S.defers,S.stp,S.amb,fun w'' hs=>S.inv w'' (hs.mono fun i _ h=>(hown i h).1),S.pin,fun d s hs=>?_,fun q R hR=>?_,fun q q' R R' b h h' hne=>?_⟩
 ·rw[xq] at hs
  obtain⟨s0,h1,rfl⟩:=Option.map_eq_some_iff.1 hs
  exact Rep.le hle _ _ (Gt _) (A5s hres s0 _ (fun q _ e' t' l' h=>hin q e' t' l' h) (S.slots d s0 h1))
 ·obtain⟨hne,R0,h1,rfl⟩:=hk' q R hR
  obtain⟨r0,r1,r2⟩:=S.res q R0 h1
  refine⟨r0,Holds.le hle (EM _) rfl (fun b hb=>⟨(r2 b hb).1,rfl⟩) ?_,r2⟩
  cases R0 with
  | var l0 =>
   obtain⟨b,us,g1,g2,g3,g4⟩:=r1
   exact⟨b,us,g1,g2,N7 hres l0 us (fun q _ e' t' l' h=>hin q e' t' l' h) g3,g4⟩
  | row e0 t0 l0=>exact Holds.le (Cx.less_le _ _) (EM _) rfl (fun b hb=>⟨(r2 b hb).1,rfl⟩) r1
  | rowA e0 s0 n0 l0 =>
   obtain⟨us,g1,g2,g3⟩:=r1
   exact⟨us,g1,N7 hres l0 us (fun q _ e' t' l' h=>hin q e' t' l' h) g2,g3⟩
 ·obtain⟨_,R0,h1,_⟩:=hk' q R h
  obtain⟨_,R1,h2,_⟩:=hk' q' R' h'
  exact S.dist q q' R0 R1 b h1 h2 hne
def WW(L0:LX):LX->List Nat
 | []=>[]
 | (t,.nm k)::L=>(match JM t L0 with|some (.nm j)=>bif Nat.beq j k then k::WW L0 L else WW L0 L|_=>WW L0 L)
 | _::L=>WW L0 L
def heldBy(L:LX):List Nat->List Nat
 | []=>[]
 | t::r=>(match JM t L with|some s=>names s++heldBy L r|none=>heldBy L r)
def YA:HX->List Nat
 | []=>[]
 | (_,some R)::H=>Ny R++YA H
 | (_,none)::H=>YA H
def Z5(ks:List Nat):List Nat->List Nat
 | []=>[]
 | k::r=>bif Q8 k ks then Z5 ks r else k::Z5 ks r
def LU:List Nat->LX->HX->(LX->HX->R)->R
 | [],L,H,K=>K L H
 | k::r,L,H,K=>(match hlk k H with
  | some (.row e t l)=>Jc (vwX (one1 k e t l) L) fun L=>Nz ((k,none)::vwH (one1 k e t l) H) fun H=>LU r L H K
  | _=>LU r L H K)
def xw(sz n:Nat)(cells:List AV):Option (List (El (.sl (.sl .u8)))):=bif Nat.beq sz 1 then rE (.sl (.sl .u8)) n cells else none
def H9:List Nat->LX->HX->(LX->HX->R)->R
 | [],L,H,K=>K L H
 | k::r,L,H,K=>(match hlk k H with
  | some (.row e t l)=>Jc (vwX (one1 k e t l) L) fun L=>Nz ((k,none)::vwH (one1 k e t l) H) fun H=>H9 r L H K
  | some (.rowA _ _ _ cells)=>LU (GZ cells) L H fun L H=>(match hlk k H with
   | some (.rowA e sz n cells)=>(match xw sz n cells with
    | some l=>Jc (vwX (one1 k e (.sl (.sl .u8)) l) L) fun L=>Nz ((k,none)::vwH (one1 k e (.sl (.sl .u8)) l) ((k,some (.row e (.sl (.sl .u8)) l))::H)) fun H=>H9 r L H K
    | none=>H9 r L H K)
   | _=>H9 r L H K)
  | _=>H9 r L H K)
def Z7(need:Option (List Nat))(n0:Nat)(L:LX)(H:HX)(K:LX->HX->R):R:=match need with
 | none=>K L H
 | some need=>Iz (bif Q8 999999 need then Z5 (upto n0++heldBy L need) (nub [] (WW L L++YA H)) else Z5 (upto n0++heldBy L need++YA H) (nub [] (WW L L))) fun ks=>H9 ks L H K
theorem Sat.conv{I:World->Prop}{n:Nat}{g:Gx}{m:Nat}{L:LX}{H:HX}{a:Act}{w:World}{ν:Nat->Value}(S:JO I n g m L H a w ν){k:Nat}{R R':Rs}(hkk:hlk k H=some R)(hR:∀ c,Holds c k R->Holds c k R'):
  JO I n g m L ((k,some R')::H) a w ν:=by
 have hk':∀ q Q,hlk q ((k,some R')::H)=some Q->∃ Q0,hlk q H=some Q0/\∀ c,Holds c q Q0->Holds c q Q:=fun q Q h=>by
  rw[IP] at h
  grind
 have hown:G9 g.Oa (fun q=>hlk q ((k,some R')::H)) ν=G9 g.Oa (fun q=>hlk q H) ν:=by
  funext b
  refine propext (or_congr Iff.rfl ⟨fun⟨q,Q,h1,h2⟩=>?_,fun⟨q,Q,h1,h2⟩=>?_⟩)
  ·grind
  ·by_cases e:q=k
   ·subst e;exact⟨q,R',(IP q q (some R') H).trans (if_pos rfl),h2⟩
   ·exact⟨q,Q,((IP q k (some R') H).trans (if_neg e)).trans h1,h2⟩
 refine⟨S.size,S.defers,S.stp,S.amb,?_,S.pin,?_,fun q Q h=>?_,fun q q' Q Q' b h h' hne=>?_⟩
 ·rw[hown];exact S.inv
 ·rw[hown];exact S.slots
 ·obtain⟨Q0,h1,h2⟩:=hk' q Q h
  obtain⟨r0,r1,r2⟩:=S.res q Q0 h1
  simp_all
 ·obtain⟨Q0,h1,_⟩:=hk' q Q h
  obtain⟨Q1,h2,_⟩:=hk' q' Q' h'
  exact S.dist q q' Q0 Q1 b h1 h2 hne
theorem A2F{e sz n k:Nat}{cells:List AV}{l:List (El (.sl (.sl .u8)))}(h:xw sz n cells=some l)(c:Cx)(hh:Holds c k (.rowA e sz n cells)):Holds c k (.row e (.sl (.sl .u8)) l):=by
 unfold xw at h
 cases hb:Nat.beq sz 1 with
 | false=>simp_all
 | true =>
  rw[hb,cond_true] at h
  obtain rfl:sz=1:=by simpa using hb
  obtain⟨vs,h1,h2,h3⟩:=hh
  obtain⟨h4,h5⟩:=gX h h2
  exact⟨vs,by rw[h5];exact h1,h4,h3⟩
theorem QF{I:World->Prop}{n:Nat}{g:Gx}{m:Nat}{a:Act}{w:World}{ν:Nat->Value}:∀(ks:List Nat) {L:LX} {H:HX} {K:LX->HX->R},JO I n g m L H a w ν->∃ L' H',LU ks L H K=K L' H'/\JO I n g m L' H' a w ν
 | [],L,H,K,S=>⟨L,H,rfl,S⟩
 | k::r,L,H,K,S=>by
  unfold LU
  split
  ·rename_i e t l hkk
   simp only[Ey,IV]
   exact QF r (Sat.giveUp S hkk)
  ·exact QF r S
theorem Jo{I:World->Prop}{n:Nat}{g:Gx}{m:Nat}{a:Act}{w:World}{ν:Nat->Value}:∀(ks:List Nat) {L:LX} {H:HX} {K:LX->HX->R},JO I n g m L H a w ν->∃ L' H',H9 ks L H K=K L' H'/\JO I n g m L' H' a w ν
 | [],L,H,K,S=>⟨L,H,rfl,S⟩
 | k::r,L,H,K,S=>by
  unfold H9
  split
  ·rename_i e t l hkk
   simp only[Ey,IV]
   exact Jo r (Sat.giveUp S hkk)
  ·rename_i cells hkk
   obtain⟨L',H',h1,S'⟩:=QF (K:=fun L H=>(match hlk k H with
    | some (.rowA e sz n cells)=>(match xw sz n cells with
     | some l=>Jc (vwX (one1 k e (.sl (.sl .u8)) l) L) fun L=>Nz ((k,none)::vwH (one1 k e (.sl (.sl .u8)) l) ((k,some (.row e (.sl (.sl .u8)) l))::H)) fun H=>H9 r L H K
     | none=>H9 r L H K)
    | _=>H9 r L H K)) (GZ cells) S
   rw[h1]
   split
   ·rename_i e sz n' cells' hkk'
    split
    ·rename_i l hl
     simp only[Ey,IV]
     exact Jo r (Sat.giveUp (Sat.conv S' hkk' (R':=.row e (.sl (.sl .u8)) l) (A2F hl)) (by rw[IP,if_pos rfl]))
    ·exact Jo r S'
   ·exact Jo r S'
  ·exact Jo r S
theorem A2G{I:World->Prop}{n:Nat}{g:Gx}{m:Nat}{a:Act}{w:World}{ν:Nat->Value}{need:Option (List Nat)}{n0:Nat}{L:LX}{H:HX}{K:LX->HX->R}(S:JO I n g m L H a w ν):∃ L' H',Z7 need n0 L H K=K L' H'/\JO I n g m L' H' a w ν:=by
 unfold Z7
 split
 ·grind
 ·rw[Eo];exact Jo _ S
theorem U0:∀(ks:List Nat) {L:LX} {H:HX} {R':Type} {K:LX->HX->R} {K':LX->HX->R'} {Z:R->R'->Prop},(∀ L H,Z (K L H) (K' L H))->Z (LU ks L H K) (LU ks L H K')
 | [],L,H,R',K,K',Z,h=>h L H
 | k::r,L,H,R',K,K',Z,h=>by
  unfold LU
  split
  ·simp only[Ey,IV];exact U0 r h
  ·exact U0 r h
theorem KW:∀(ks:List Nat) {L:LX} {H:HX} {R':Type} {K:LX->HX->R} {K':LX->HX->R'} {Z:R->R'->Prop},(∀ L H,Z (K L H) (K' L H))->Z (H9 ks L H K) (H9 ks L H K')
 | [],L,H,R',K,K',Z,h=>h L H
 | k::r,L,H,R',K,K',Z,h=>by
  unfold H9
  split
  ·simp only[Ey,IV];exact KW r h
  ·refine U0 _ fun L H=>?_
   split
   ·split
    ·simp only[Ey,IV];exact KW r h
    ·exact KW r h
   ·exact KW r h
  ·exact KW r h
theorem A4j{need:Option (List Nat)}{n0:Nat}{L:LX}{H:HX}{R':Type}{K:LX->HX->R}{K':LX->HX->R'}{Z:R->R'->Prop}(h:∀ L H,Z (K L H) (K' L H)):Z (Z7 need n0 L H K) (Z7 need n0 L H K'):=by
 unfold Z7
 split
 ·exact h L H
 ·simp only[Eo];exact KW _ h
def lF:List (Nat×Nat×Ty)->Nat->LX->HX->(Nat->LX->HX->R)->R
 | [],m,L,H,K=>K m L H
 | (t,e,τ)::r,m,L,H,K=>(match JM t L with
  | some .nil=>addN 1 m fun m'=>lF r m' ((t,.nm m)::L) ((m,some (.row e τ []))::H) K
  | _=>lF r m L H K)
theorem Sat.nilRow{I:World->Prop}{n:Nat}{g:Gx}{m:Nat}{L:LX}{H:HX}{a:Act}{w:World}{ν:Nat->Value}(S:JO I n g m L H a w ν){t e:Nat}{τ:Ty}(ht:JM t L=some .nil):
  JO I n g (m+1) ((t,.nm m)::L) ((m,some (.row e τ []))::H) a w (fun q=>if q=m then .slice none 0 0 else ν q):=by
 have hv:=S.slots t _ ht
 simp only[Rep] at hv
 have hO:∀ b,G9 g.Oa (fun k=>hlk k H) ν b->b<w.heap.size:=by
  rintro b (h|⟨k,R,h1,h2⟩)
  ·exact Nat.lt_of_lt_of_le (S.amb b h).1 S.stp.size
  ·exact((S.res k R h1).2.2 b h2).1
 have ok:Ok ⟨(· < m),ν,G9 g.Oa (fun k=>hlk k H) ν,w⟩ [] [(m,.row e τ [])] (.nm m) (.slice none 0 0) w (fun q=>if q=m then .slice none 0 0 else ν q) :=
  Ok.newM (sz:=τ.n) (n:=0) (e:=e) (cells:=[]) (vs:=[]) (Nat.lt_irrefl m) hO (Stp.refl _ _) (World.ownsG_nil w 0 e τ.n) (fun b h=>by cases h) (by simp only[Ai]) (fun u hu=>by cases hu) (fun c' hh=>hh)
 have hh:∀ k,has k [(m,Rs.row e τ [])]↔k=m:=fun k=>by
  unfold has
  rw[Cb]
  by_cases h:k=m
  ·simp[h]
  ·simp[h]
 obtain⟨S1,hr⟩:=Sat.step S (N':=(· < m+1)) (hk':=fun k=>hlk k ((m,some (.row e τ []))::H)) (fun k R h=>by cases h) ok (fun k=>by rw[hh];omega) (fun k=>by
  unfold upd
  rw[IP,Cb]
  by_cases h:k=m
  ·simp[h]
  ·simp[h])
 refine⟨S1.size,S1.defers,S1.stp,S1.amb,S1.inv,S1.pin,fun d s hs=>?_,S1.res,S1.dist⟩
 rw[GU] at hs
 split at hs
 ·rename_i he
  obtain rfl:=Option.some.inj hs
  subst he
  rw[hv];exact hr
 ·exact S1.slots d s hs
theorem iH{I:World->Prop}{n:Nat}{g:Gx}{a:Act}{w:World}:∀(l:List (Nat×Nat×Ty)) {m:Nat} {ν:Nat->Value} {L:LX} {H:HX} {K:Nat->LX->HX->R},JO I n g m L H a w ν->∃ m' L' H' ν',lF l m L H K=K m' L' H'/\JO I n g m' L' H' a w ν'
 | [],m,ν,L,H,K,S=>⟨m,L,H,ν,rfl,S⟩
 | (t,e,τ)::r,m,ν,L,H,K,S=>by
  unfold lF
  split
  ·rename_i h
   rw[EN,Nat.add_comm 1 m]
   exact iH r (Sat.nilRow S h)
  ·exact iH r S
theorem rV:∀(l:List (Nat×Nat×Ty)) {m:Nat} {L:LX} {H:HX} {R':Type} {K:Nat->LX->HX->R} {K':Nat->LX->HX->R'} {Z:R->R'->Prop},(∀ m L H,Z (K m L H) (K' m L H))->Z (lF l m L H K) (lF l m L H K')
 | [],m,L,H,R',K,K',Z,h=>h m L H
 | (t,e,τ)::r,m,L,H,R',K,K',Z,h=>by
  unfold lF
  split
  ·simp only[EN];exact rV r h
  ·exact rV r h
def O3(E:Plc)(n0 m:Nat)(L:LX)(H:HX)(K:Nat->LX->HX->Option R):Option R:=lF E.nils m L H fun m L H=>Z7 E.need n0 L H fun L H=>match E.keep with
 | some keep=>canon keep n0 L H K
 | none=>K m L H
theorem RV{E:Plc}{n0 m:Nat}{L:LX}{H:HX}{K:Nat->LX->HX->Option R}{r:R}{I:World->Prop}{n:Nat}{g:Gx}{a:Act}{w:World}{ν:Nat->Value}(hg:g.n0=n0)(S:JO I n g m L H a w ν)(h:O3 E n0 m L H K=some r):
  ∃ m' L' H' ν',K m' L' H'=some r/\JO I n g m' L' H' a w ν':=by
 unfold O3 at h
 obtain⟨m1,L1,H1,ν1,h1,S1⟩:=iH E.nils (K:=fun m L H=>Z7 E.need n0 L H fun L H=>match E.keep with|some keep=>canon keep n0 L H K|none=>K m L H) S
 rw[h1] at h
 obtain⟨L2,H2,h2,S2⟩:=A2G (need:=E.need) (n0:=n0) (K:=fun L H=>match E.keep with|some keep=>canon keep n0 L H K|none=>K m1 L H) S1
 rw[h2] at h
 revert h
 cases E.keep with
 | none=>grind
 | some keep =>
  intro h
  obtain⟨m',L',H',ρ,h3,h4⟩:=A2E h
  exact⟨_,_,_,_,h3,h4 hg S2⟩
def XQ(G:FT)(f id:Nat):Plc:=match Xq f G with
 | some fi=>(match fi.give with
  | []=>{}
  | l=>(match l.find? fun p=>Nat.beq p.1 id with|some p=>p.2|none=>{}))
 | none=>{}
theorem iI(a j:Nat):Nat.blt (a+j) a=false:=by
 simp_all[Bool.eq_false_iff]
def Dx:Code->Nat
 | .seq a b|.cond _ a b=>Dx a+Dx b
 | .block _ c=>Dx c
 | .loop c=>Dx c+1
 | _=>0
def Fb:Code->Nat->Option Code
 | .seq a b,k|.cond _ a b,k=>bif Nat.blt k (Dx a) then Fb a k else Fb b (k-Dx a)
 | .block _ c,k=>Fb c k
 | .loop c,k=>bif Nat.beq k 0 then some c else Fb c (k-1)
 | _,_=>none
def PY(T:TT)(G:FT)(Q:Req->Option Rsp)(n f n0:Nat)(keep:List (Plc×Plc)):Code->Nat->Nat->LX->HX->(Exit->Nat->LX->HX->Option Rsp)->Option Rsp
 | .skip,k,m,L,H,K|.label _,k,m,L,H,K=>K .normal m L H
 | .seq a b,k,m,L,H,K=>PY T G Q n f n0 keep a k m L H fun e m L H=>match e with
  | .normal=>PY T G Q n f n0 keep b (k+Dx a) m L H K
  | e=>K e m L H
 | .cond c a b,k,m,L,H,K=>(match Gl L c with
  | some (.b t)=>bif t then PY T G Q n f n0 keep a k m L H K else PY T G Q n f n0 keep b (k+Dx a) m L H K
  | _=>none)
 | .block id c,k,m,L,H,K=>PY T G Q n f n0 keep c k m L H fun e m L H=>match e with
  | .exit id'=>bif Nat.beq id' id then K .normal m L H else K (.exit id') m L H
  | e=>K e m L H
 | .exit id,k,m,L,H,K=>K (.exit id) m L H
 | .ret,k,m,L,H,K=>K .ret m L H
 | .region id ops false,k,m,L,H,K=>O3 (XQ G f id) n0 m L H fun m L H=>JD T G Q n ops.toList ops.toList m L H fun m L H=>K .normal m L H
 | .region id ops true,k,m,L,H,K=>O3 (XQ G f id) n0 m L H fun m L H=>Ij T G Q ops.toList ops.toList [] m L H fun tr m L H=>bif Am n ops.toList.toArray tr then K .normal m L H else none
 | .loop c,k,m,L,H,K=>addN 0 k fun k=>(match keep[k]? with
  | some kp=>O3 kp.1 n0 m L H fun m L H=>(Q (.loop f k n0 m L H)).bind fun r=>match r with
   | .fin e m L H=>K e m L H
   | _=>none
  | none=>none)
 | _,_,_,_,_,_=>none
def SY(P:Program)(c:Code)(Q:Exit->Act->World->Prop)(a:Act)(w:World):Prop:=∀ b k cs,∃ e a' w',Q e a' w'/\Arrives P (lone (b.at a (.code c::.inLoop c::k)) cs w) b k cs e a' w'
theorem SY.wp{P:Program}{c:Code}{Q:Exit->Act->World->Prop}{a:Act}{w:World}(h:SY P c Q a w):(Code.loop c).wp P Q a w:=by
 intro b k cs
 obtain⟨e,a',w',hq,harr⟩:=h b k cs
 exact⟨e,a',w',hq,.of_steps (.one step_loop) harr⟩
theorem SY.mono{P:Program}{c:Code}{Q Q':Exit->Act->World->Prop}{a:Act}{w:World}(h:SY P c Q a w)(hq:∀ e a w,Q e a w->Q' e a w):SY P c Q' a w:=by
 intro b k cs
 obtain⟨e,a',w',h1,harr⟩:=h b k cs
 grind
theorem SY.unroll{P:Program}{c:Code}{Q:Exit->Act->World->Prop}{a:Act}{w:World}(h:c.wp P (Exit.then (fun a w=>SY P c Q a w) Q) a w):SY P c Q a w:=by
 intro b k cs
 obtain⟨e,a₁,w₁,hq,harr⟩:=h b (.inLoop c::k) cs
 cases e with
 | normal =>
  obtain⟨e₂,a₂,w₂,hq₂,harr₂⟩:=hq b k cs
  exact⟨e₂,a₂,w₂,hq₂,.of_steps (Steps.trans harr (.one step_inLoop)) harr₂⟩
 | exit id|goto l|ret|panic ch|outgrown=>exact⟨_,a₁,w₁,hq,.pass (x:=.inLoop c) rfl (fun _ _=>.inl zam) harr⟩
def A7h(P:Program)(I:World->Prop)(n:Nat)(c:Code)(n0 m:Nat)(L:LX)(H:HX)(e:Exit)(m':Nat)(L':LX)(H':HX):Prop :=
 ∀ g:Gx,g.n0=n0->∀ a w ν,JO I n g m L H a w ν->SY P c (kE I n g fun e1 m1 L1 H1=>e1=e/\m1=m'/\L1=L'/\H1=H') a w
section
variable {P:Program}{I:World->Prop}{n f n0:Nat}{g:Gx}{T:TT}{G:FT}{Q:Req->Option Rsp}{r:Rsp}{keep:List (Plc×Plc)}{tab:Nat->Option Code}
theorem A2H(hT:TTok P I T)(hG:gq P G)(hQ:QOK P I Q)(hx:P.follows .mixedOrders=true)(hg:g.n0=n0)(hL:∀ k c m L H e m' L' H',tab k=some c->Q (.loop f k n0 m L H)=some (.fin e m' L' H')->A7h P I n c n0 m L H e m' L' H'):
  ∀(c:Code) (k m:Nat) (L:LX) (H:HX) (K:Exit->Nat->LX->HX->Option Rsp) (Φ:PostX),(∀ j c',Fb c j=some c'->j<Dx c->tab (k+j)=some c')->PY T G Q n f n0 keep c k m L H K=some r->(∀ e m L H,K e m L H=some r->Φ e m L H)->Wc P I n g c Φ m L H:=by
 intro c
 induction c with
 | skip=>intro k m L H K Φ hk h hK;exact A4P (hK _ _ _ _ h)
 | label l=>intro k m L H K Φ hk h hK;exact A1S (hK _ _ _ _ h)
 | exit id=>intro k m L H K Φ hk h hK;exact A4Q (hK _ _ _ _ h)
 | ret=>intro k m L H K Φ hk h hK;exact A6U (hK _ _ _ _ h)
 | seq a b iha ihb =>
  intro k m L H K Φ hk h hK
  rw[PY] at h
  refine A6T (fun e m L H=>(match e with|.normal=>PY T G Q n f n0 keep b (k+Dx a) m L H K|e=>K e m L H)=some r) (iha k m L H _ _ (fun j c' hj hlt=>hk j c' ?_ ?_) h fun e m L H h=>h) (fun m L H h=>ihb _ _ _ _ _ _ (fun j c' hj hlt=>?_) h hK) (fun e m L H he h=>hK e m L H ?_)
  ·simp only[Fb];rw[show Nat.blt j (Dx a)=true from by simpa using hlt];exact hj
  ·grind[Dx]
  ·simp_all[Nat.add_assoc,Dx,Fb,iI]
  simp_all
 | cond x a b iha ihb =>
  intro k m L H K Φ hk h hK
  rw[PY] at h
  split at h
  ·rename_i t ht
   refine A4R ht ?_
   cases t with
   | true =>
    refine iha k m L H _ _ (fun j c' hj hlt=>hk j c' ?_ ?_) h hK
    ·simp only[Fb];rw[show Nat.blt j (Dx a)=true from by simpa using hlt];exact hj
    grind[Dx]
   | false =>
    refine ihb _ m L H _ _ (fun j c' hj hlt=>?_) h hK
    simp_all[Nat.add_assoc,Dx,Fb,iI]
  ·cases h
 | block id c ih =>
  intro k m L H K Φ hk h hK
  rw[PY] at h
  refine A1U (fun e m L H=>(match e with|.exit id'=>bif Nat.beq id' id then K .normal m L H else K (.exit id') m L H|e=>K e m L H)=some r) (ih k m L H _ _ (fun j c' hj hlt=>hk j c' hj hlt) h fun e m L H h=>h) (fun m L H h=>hK _ _ _ _ ?_) (fun e m L H he h=>hK e m L H ?_)
  ·simp_all
  ·cases e with
   | exit id' =>
    have:Nat.beq id' id=false:=by simp_all[Bool.eq_false_iff]
    simp_all
   | _=>exact h
 | region id ops b =>
  intro k m L H K Φ hk h hK
  obtain⟨l⟩:=ops
  cases b with
  | false =>
   rw[PY] at h
   intro a w ν S
   obtain⟨m',L',H',ν',h2,S'⟩:=RV hg S h
   exact zV (A29 hT hG hQ (fun m L H h=>hK _ _ _ _ h) l m' L' H' h2) a w ν' S'
  | true =>
   rw[PY] at h
   intro a w ν S
   obtain⟨m',L',H',ν',h,S'⟩:=RV hg S h
   refine A4g (n:=n) hx (A2C (fin:=fun tr m L H=>drawChk0 n l.toArray tr=true/\Φ .normal m L H) hT hG hQ (fun tr m L H h=>?_) l [] m' L' H' (fun k R hk=>(S'.res k R hk).1) h) a w ν' S'
   grind[cZ]
 | loop c ih =>
  intro k m L H K Φ hk h hK
  rw[PY,EN,Nat.zero_add] at h
  split at h
  ·rename_i kp hkp
   intro a w ν S
   obtain⟨m',L',H',ν',h1,S'⟩:=RV hg S h
   obtain⟨rr,h3,h4⟩:=Option.bind_eq_some_iff.1 h1
   split at h4
   ·rename_i e m2 L2 H2
    have hs:=hL k c m' L' H' e m2 L2 H2 (by have:=hk 0 c (by simp[Fb]) (by simp[Dx]);omega) h3 g hg
    exact wp_mono (hs a w _ S').wp fun e' a' w' ⟨m3,L3,H3,ν3,q,S3⟩=>by
     obtain⟨rfl,rfl,rfl,rfl⟩:=q
     exact⟨_,_,_,ν3,hK _ _ _ _ h4,S3⟩
   ·cases h4
  ·cases h
 | _=>simp_all[PY]
end
end
end Go.Ax
namespace Go.Ax
variable {fn:Func}
noncomputable section
open Go Go.RowKit Go.Eng
set_option linter.unusedVariables false
set_option linter.unusedSimpArgs false
def argX(k:Nat):List AV->LX
 | []=>[]
 | v::r=>(k,v)::argX (k+1) r
theorem A4k(vs:List AV):∀(k t:Nat) (s:AV),JM t (argX k vs)=some s->k<=t/\vs[t-k]?=some s:=by
 induction vs with
 | nil=>intro k t s h;cases h
 | cons v r ih =>
  intro k t s h
  rw[argX,GU] at h
  by_cases e:t=k
  ·simp_all
  grind
def hOf(k:Nat):List Rs->HX
 | []=>[]
 | r::l=>(k,some r)::hOf (k+1) l
theorem YB:∀(l:List Rs) (i k:Nat),hlk k (hOf i l)=FN k (Mc i l)
 | [],i,k=>rfl
 | R::l,i,k=>by rw[hOf,Mc,IP,Cb,YB l]
def rv(tmps:Array Value)(r:ResultVar):Sem Value:=match r with|.tmp t=>pure (tmps.getD t undef)|.cell x t=>do loadVar t (<-asAddr (tmps.getD x undef))
theorem rW(fn:Func)(tmps:Array Value):results fn tmps=(do let vs<-fn.results.mapM (rv tmps);pure (if h:vs.size=1 then vs[0] else .tuple vs)):=rfl
def lG(T:TT)(L:LX)(H:HX):List ResultVar->Option (List AV)
 | []=>some []
 | .tmp t::r=>(match JM t L,lG T L H r with|some s,some l=>some (s::l)|_,_=>none)
 | .cell t ty::r=>(match JM t L,UW ty T,lG T L H r with
  | some (.pa k o),some i,some l=>(match hlk k H with
   | some (.var cells)=>(match JV (scalar i.u) i.size (cells.drop o) with|some s=>some (s::l)|none=>none)
   | _=>none)
  | _,_,_=>none)
def A4l(l:List AV):AV:=match l with|[s]=>s|l=>.tup l
def A4m(us:List Value):Value:=match us with|[u]=>u|us=>.tuple us.toArray
variable {R:Type}
def RX:List (Option Rs)->(List (Option Rs)->R)->R
 | [],K=>K []
 | some s::r,K=>WA s fun s=>RX r fun r=>K (some s::r)
 | none::r,K=>RX r fun r=>K (none::r)
theorem U1:∀(l:List (Option Rs)) (K:List (Option Rs)->R),RX l K=K l
 | [],K=>rfl
 | some s::r,K=>by simp only[RX,Qz,U1]
 | none::r,K=>by simp only[RX,U1]
def hrw(n0:Nat)(hk:Nat->Option Rs)(k:Nat):Option Rs:=bif Nat.blt k n0 then none else hk k
def hvw(n0:Nat)(hk:Nat->Option Rs)(k:Nat):Option Rs:=match hk k with
 | some (.var l)=>some (.var (kL (hrw n0 hk) l))
 | some (.rowA e s n l)=>some (.rowA e s n (kL (hrw n0 hk) l))
 | R=>R
def Z8(hk:Nat->Option Rs):List Nat->List Nat
 | []=>[]
 | k::r=>(match hk k with|some R=>Ny R|none=>[])++Z8 hk r
def A2I(T:TT)(fi:FI)(n0:Nat)(rs:List ResultVar)(L:LX)(H:HX):Option Rsp:=match lG T L H rs with
 | some l=>Iq (XL fi.rs (bif fi.own then l else kL (hrw n0 fun k=>hlk k H) l)) fun l'=>Iz (close (bif fi.own then(fun k=>hlk k H) else hvw n0 fun k=>hlk k H) 60 [] (upto n0++GZ l')) fun ks =>
   RX (ks.map fun k=>((bif fi.own then(fun k=>hlk k H) else hvw n0 fun k=>hlk k H) k).map (Ic fun k=>idx k ks)) fun Hout =>
    bif nodupB ks&&preB n0 0 ks&&allIn ks (GZ l')&&Tv (bif fi.own then(fun k=>hlk k H) else hvw n0 fun k=>hlk k H) ks ks&&Q9 n0 Hout&&djB ks (bif fi.own then [] else rowsOf (hrw n0 fun k=>hlk k H) (nub [] (GZ l++Z8 (fun k=>hlk k H) ks)))&&Nat.ble n0 ks.length then
     Iq (Ib (fun k=>idx k ks) l') fun l=>force (A4l l) fun s=>some (.ret s Hout)
    else none
 | none=>none
def A6e(T:TT)(fi:FI)(n0:Nat)(rs:List ResultVar)(m:Nat)(L:LX)(H:HX):Option Rsp:=O3 fi.fin n0 m L H fun _ L H=>A2I T fi n0 rs L H
section
variable {P:Program}{I:World->Prop}{n:Nat}{g:Gx}{m:Nat}{L:LX}{H:HX}{a:Act}{w:World}{ν:Nat->Value}{T:TT}
theorem A2J(hT:TTok P I T)(S:JO I n g m L H a w ν):∀ {rs:List ResultVar} {l:List AV},lG T L H rs=some l->∃ us,(rs.mapM (rv a.tmps)).run P w=.ok us w/\Ai ⟨(· < m),ν,G9 g.Oa (fun k=>hlk k H) ν,w⟩ l us
 | [],l,h=>by simp_all[lG,Ai]
 | .tmp t::rs,l,h=>by
  simp only[lG] at h
  split at h
  ·rename_i s l' h1 h2
   obtain rfl:=Option.some.inj h
   obtain⟨us,h3,h4⟩:=A2J hT S h2
   refine⟨a.tmps.getD t undef::us,?_,by simp only[Ai];exact⟨_,us,rfl,S.slots _ _ h1,h4⟩⟩
   simp_all[rv]
  ·cases h
 | .cell t ty::rs,l,h=>by
  simp only[lG] at h
  split at h
  ·rename_i k o i l' h1 hi h2
   split at h
   ·rename_i cells hk
    split at h
    ·rename_i s hs
     obtain rfl:=Option.some.inj h
     obtain⟨us,h3,h4⟩:=A2J hT S h2
     obtain⟨_,⟨b,vs,e1,e2,e3,e4⟩,_⟩:=S.res k _ hk
     have hp:=A1v (S.slots _ _ h1) e1
     obtain⟨v,hv,hr⟩:=Yk (w:=w) (hT _ _ hi) hs (e3.drop o) (fun u hu=>e4 u (List.mem_of_mem_drop hu)) (e2.cs o)
     refine⟨v::us,?_,by simp only[Ai];grind⟩
     simp_all[rv,asAddr]
    ·cases h
   ·cases h
  ·cases h
theorem rX(hT:TTok P I T)(S:JO I n g m L H a w ν){rs:List ResultVar}(hrs:fn.results.toList=rs){l:List AV}(h:lG T L H rs=some l):
  ∃ us,(results fn a.tmps).run P w=.ok (A4m us) w/\Ai ⟨(· < m),ν,G9 g.Oa (fun k=>hlk k H) ν,w⟩ l us:=by
 obtain⟨us,h1,h2⟩:=A2J hT S h
 refine⟨us,?_,h2⟩
 rw[rW]
 have h3:(fn.results.mapM (rv a.tmps)).run P w=.ok us.toArray w:=by
  rw[show fn.results=rs.toArray from by rw[<-hrs]]
  simp_all
 simp only[Sem.run_bind,h3,Result.andThen_ok,Sem.run_pure]
 match us with
 | []|[u]=>rfl
 | u::v::r=>simp;rfl
theorem A2K{c:Cx}:∀ {l:List AV} {us:List Value},Ai c l us->Rep c (A4l l) (A4m us)
 | [s],us,h=>by obtain⟨u,rfl,hr⟩:=Ai.un1 h;exact hr
 | [],us,h=>by
  have h':=h
  simp only[Ai] at h
  subst h
  simp only[A4l,A4m,Rep];simp_all
 | s::s'::l,us,h=>by
  have h':=h
  simp only[Ai] at h
  obtain⟨u,t,rfl,h1,u',t',rfl,h2,h3⟩:=h
  simp only[A4l,A4m,Rep];simp_all
theorem A2L{hk:Nat->Option Rs}{ks:List Nat}{k:Nat}{R:Rs}(h:FN k (Hg id 0 (ks.map fun k=>(hk k).map (Ic fun k=>idx k ks)))=some R):∃ q R1,ks[k]?=some q/\hk q=some R1/\R=Ic (fun k=>idx k ks) R1:=by
 have:=Yu h
 grind[Option.map_eq_some_iff]
theorem Z9{hk:Nat->Option Rs}{k:Nat}{R:Rs}{q:Nat}(hR:hk k=some R)(hq:q∈Ny R):∀ {ks:List Nat},k∈ks->q∈Z8 hk ks
 | a::ks,h=>by
  simp only[Z8]
  rcases List.mem_cons.1 h with rfl|h
  ·simp_all
  ·exact List.mem_append.2 (.inr (Z9 hR hq h))
theorem A2M{n0:Nat}{hk:Nat->Option Rs}{k:Nat}{R:Rs}(h:hrw n0 hk k=some R):hk k=some R:=by
 grind[hrw]
theorem A2N{n0:Nat}{hk:Nat->Option Rs}{k:Nat}{R:Rs}(h:hvw n0 hk k=some R):∃ R0,hk k=some R0/\(R=R0\/(∃ l,R0=.var l/\R=.var (kL (hrw n0 hk) l))\/∃ e s n l,R0=.rowA e s n l/\R=.rowA e s n (kL (hrw n0 hk) l)):=by
 unfold hvw at h
 grind
theorem A2O(hT:TTok P I T){fi:FI}{n0:Nat}{rs:List ResultVar}{r:Rsp}{w0:World}{O:Nat->Prop}{F:Fp}{ν0:Nat->Value}(hrs:fn.results.toList=rs)(hO:∀ b,Em ν0 F b->O b)(S:JO I n ⟨w0,Em ν0 F,fun b=>O b/\¬Em ν0 F b,n0,ν0⟩ m L H a w ν)(h:A2I T fi n0 rs L H=some r):
  ∃ s Hout v ν',r=.ret s Hout/\(results fn a.tmps).run P w=.ok v w/\Ok ⟨(· < n0),ν0,O,w0⟩ F (Hg id 0 Hout) s v w ν':=by
 unfold A2I at h
 split at h
 ·rename_i l hl
  obtain⟨us,hrun,hreps⟩:=rX hT S hrs hl
  rw[Hu,Eo,U1] at h
  generalize hl':XL fi.rs (bif fi.own then l else kL (hrw n0 fun k=>hlk k H) l)=l' at h
  generalize hhv:(bif fi.own then(fun k=>hlk k H) else hvw n0 fun k=>hlk k H)=hv at h
  generalize hks:close hv 60 [] (upto n0++GZ l')=ks at h
  generalize hvs:(bif fi.own then [] else rowsOf (hrw n0 fun k=>hlk k H) (nub [] (GZ l++Z8 (fun k=>hlk k H) ks)))=vs at h
  cases hc:(nodupB ks&&preB n0 0 ks&&allIn ks (GZ l')&&Tv hv ks ks&&Q9 n0 (ks.map fun k=>(hv k).map (Ic fun k=>idx k ks))&&djB ks vs&&Nat.ble n0 ks.length) with
  | false=>simp_all
  | true =>
   rw[hc] at h
   simp only[cond_true,Hu,force_eq,Option.some.injEq] at h
   simp only[Bool.and_eq_true,Oy,MO] at hc
   obtain⟨⟨⟨⟨⟨⟨hnd,hpre⟩,hin⟩,hinH⟩,hnew⟩,hdj⟩,hn0⟩:=hc
   have hn0:n0<=ks.length:=by simpa using hn0
   have hdj:=gm hdj
   have hvH:∀ k R,FN k vs=some R->hlk k H=some R:=by
    intro k R hk
    rw[<-hvs] at hk
    cases ho:fi.own with
    | true=>simp_all
    | false=>rw[ho] at hk;exact A2M (NZ hk).1
   have hresG:∀ k R,FN k vs=some R->k<m/\Holds ⟨(· < m),ν,G9 (fun b=>O b/\¬Em ν0 F b) (fun k=>hlk k H) ν,w⟩ k R/\∀ b,blk (ν k)=some b->G9 (fun b=>O b/\¬Em ν0 F b) (fun k=>hlk k H) ν b:=fun k R hk=>by
    obtain⟨r0,r1,r2⟩:=S.res k R (hvH k R hk)
    exact⟨r0,r1,fun b hb=>.inr ⟨k,R,hvH k R hk,hb⟩⟩
   -- the values, without the rows that are read from now on
   have hr1:Ai (Cx.less ⟨(· < m),ν,G9 (fun b=>O b/\¬Em ν0 F b) (fun k=>hlk k H) ν,w⟩ vs) l' us:=by
    grind[Ui,Ai.le,Cx.less_le,EM,N7,Me,Uh]
   -- the things
   have hthing:∀ k R,k∈ks->hv k=some R->∃ R0,hlk k H=some R0/\Holds (Cx.less ⟨(· < m),ν,G9 (fun b=>O b/\¬Em ν0 F b) (fun k=>hlk k H) ν,w⟩ vs) k R:=by
    intro k R hkk hR
    rw[<-hhv] at hR
    have same:∀ R,hlk k H=some R->Holds (Cx.less ⟨(· < m),ν,G9 (fun b=>O b/\¬Em ν0 F b) (fun k=>hlk k H) ν,w⟩ vs) k R:=fun R hR=>by
     obtain⟨r0,r1,r2⟩:=S.res k R hR
     exact Holds.le (Cx.less_le _ _) (EM _) rfl (fun b hb=>⟨(r2 b hb).1,rfl⟩) r1
    cases ho:fi.own with
    | true=>grind
    | false =>
     rw[ho] at hR
     have hvw:∀ R0,hlk k H=some R0->∀ q∈Ny R0,∀ e t l,hrw n0 (fun k=>hlk k H) q=some (.row e t l)->FN q vs=some (.row e t l):=fun R0 h0 q hq e t l0 hh=>by
      grind[Me,Uh,Z9]
     obtain⟨R0,h0,h1⟩:=A2N (n0:=n0) (hk:=fun k=>hlk k H) hR
     refine⟨R0,h0,?_⟩
     rcases h1 with rfl|⟨l0,rfl,rfl⟩|⟨e,sz,n1,l0,rfl,rfl⟩
     ·grind
     ·obtain⟨_,⟨b,vs1,g1,g2,g3,g4⟩,_⟩:=S.res k _ h0
      exact⟨b,vs1,g1,g2,N7 hresG l0 vs1 (hvw _ h0) g3,g4⟩
     ·obtain⟨_,⟨vs1,g1,g2,g3⟩,_⟩:=S.res k _ h0
      exact⟨vs1,g1,N7 hresG l0 vs1 (hvw _ h0) g2,g3⟩
   obtain⟨hback,hlt⟩:=Jn l' hin
   have hHout:=fun {k R} h=>A2L (hk:=hv) (ks:=ks) (k:=k) (R:=R) h
   have hOb:∀ b,((O b/\¬Em ν0 F b)\/Em (fun k=>ν (nth ks k)) (Hg id 0 (ks.map fun k=>(hv k).map (Ic fun k=>idx k ks))) b)->G9 (fun b=>O b/\¬Em ν0 F b) (fun k=>hlk k H) ν b/\¬Em ν vs b:=by
    rintro b (hb|⟨k,R,hk,hb⟩)
    ·refine⟨.inl hb,?_⟩
     rintro⟨q,R1,hq,hqb⟩
     obtain⟨_,_,r2⟩:=S.res q R1 (hvH q R1 hq)
     have:=S.amb b hb
     grind
    ·obtain⟨q,R1,h1,h2,rfl⟩:=hHout hk
     have hb:blk (ν (nth ks k))=some b:=hb
     rw[JX h1] at hb
     obtain⟨R0,h0,_⟩:=hthing q R1 (List.mem_of_getElem? h1) h2
     refine⟨.inr ⟨q,R0,h0,hb⟩,?_⟩
     rintro⟨q',R2,hq',hqb⟩
     refine S.dist q q' R0 R2 b h0 (hvH q' R2 hq') ?_ hb hqb
     rintro rfl
     grind[ED]
   have hN:∀ k,k<ks.length->nth ks k<m->(k<n0\/has k (Hg id 0 (ks.map fun k=>(hv k).map (Ic fun k=>idx k ks))))/\(fun k=>ν (nth ks k)) k=ν (nth ks k):=by
    intro k hk _
    refine⟨?_,rfl⟩
    grind[OG,kZ]
   have hpin:∀ k,k<n0->nth ks k=k:=fun k hk=>by
    have:=Z4 hpre hk
    simp_all[JX]
   refine⟨_,_,_,fun k=>ν (nth ks k),h.symm,hrun,fun k hk=>?_,?_,fun k R hk=>?_,fun k k' R R' b hk hk' hne hb=>?_,S.stp⟩
   ·show ν (nth ks k)=ν0 k
    rw[hpin k hk];exact(S.pin k hk).2
   ·refine A2K ?_
    exact Ai.ren (ρ:=nth ks) (N:=(· < m)) (ν:=ν) (m:=ks.length) hN (fun w'' hs=>hs.mono fun i _ hi=>hOb i hi) _ us hlt (by rw[hback];exact hr1)
   ·obtain⟨q,R1,h1,h2,rfl⟩:=hHout hk
    have hkl:k<ks.length:=(List.getElem?_eq_some_iff.1 h1).1
    obtain⟨R0,h0,hold⟩:=hthing q R1 (List.mem_of_getElem? h1) h2
    obtain⟨r0,r1,r2⟩:=S.res q R0 h0
    obtain⟨b1,b2⟩:=WV (R:=R1) (Tz hinH (List.mem_of_getElem? h1) h2)
    refine⟨?_,fun b hb=>?_⟩
    ·refine Holds.ren (ρ:=nth ks) (N:=(· < m)) (ν:=ν) (O:=fun b=>G9 (fun b=>O b/\¬Em ν0 F b) (fun k=>hlk k H) ν b/\¬Em ν vs b) (m:=ks.length) hN (fun w'' hs=>hs.mono fun i _ hi=>hOb i hi) rfl b2 ?_
     rw[b1,JX h1];exact hold
    simp_all[JX]
   ·obtain⟨q,R1,h1,h2,rfl⟩:=hHout hk
    obtain⟨q',R2,h3,h4,rfl⟩:=hHout hk'
    have hb:blk (ν (nth ks k))=some b:=hb
    show blk (ν (nth ks k'))≠some b
    rw[JX h1] at hb
    rw[JX h3]
    obtain⟨R0,h0,_⟩:=hthing q R1 (List.mem_of_getElem? h1) h2
    obtain⟨R0',h0',_⟩:=hthing q' R2 (List.mem_of_getElem? h3) h4
    refine S.dist q q' R0 R0' b h0 h0' ?_ hb
    rintro rfl
    grind[List.getElem?_inj]
 ·cases h
theorem A4n{f:FuncId}{c:Code}{fi:FI}{ins:List AV}{Hin:List Rs}{s:AV}{Hout:List (Option Rs)}(hT:TTok P I T)(hf:P.funcs[f]?=some fn)(hb:fn.body=some c)(hlen:Nat.ble ins.length fn.ntmps=true)(h:∀ g:Gx,g.n0=Hin.length->Wc P I fn.ntmps g c (fun e m L H=>(e=.normal\/e=.ret)/\A6e T fi Hin.length fn.results.toList m L H=some (.ret s Hout)) Hin.length (argX 0 ins) (hOf 0 Hin)):gZ P I f ins Hin s Hout:=by
 intro ν O w args hG hin hP
 have hlen:ins.length<=fn.ntmps:=zaD
 have hl:=hin.len
 refine calls_of_wp hf hb ?_
 have hsz:(args.toArray++Array.replicate (fn.ntmps-args.toArray.size) undef).size=fn.ntmps:=zaC
 have hF:(fun k=>hlk k (hOf 0 Hin))=fun k=>FN k (Mc 0 Hin):=funext fun k=>YB Hin 0 k
 have hO:∀ b,Em ν (Mc 0 Hin) b->O b:=by rintro b ⟨k,R,hk,hb⟩;exact(hP.res k R hk).2.2 b hb
 have hown:G9 (fun b=>O b/\¬Em ν (Mc 0 Hin) b) (fun k=>FN k (Mc 0 Hin)) ν=O:=by
  funext b
  refine propext ⟨fun hb=>hb.elim (·.1) fun⟨k,R,hk,h⟩=>hO b ⟨k,R,hk,h⟩,fun hb=>?_⟩
  rcases Classical.em (Em ν (Mc 0 Hin) b) with h|h
  ·exact .inr h
  ·exact .inl ⟨hb,h⟩
 refine wp_mono (h ⟨w,Em ν (Mc 0 Hin),fun b=>O b/\¬Em ν (Mc 0 Hin) b,Hin.length,ν⟩ rfl _ w ν ⟨hsz,rfl,Stp.refl _ _,fun b hb=>⟨hG.lt b hb.1,hb.2⟩,fun w' hs=>hG.inv w' zaD,fun k hk=>⟨hk,rfl⟩,?_,?_,?_⟩) ?_
 ·intro t s hs
  rw[hF,hown]
  obtain⟨_,hv⟩:=A4k _ _ _ _ hs
  simp only[Nat.sub_zero] at hv
  obtain⟨u,hu,hr⟩:=hin.get hv
  have hlt:t<args.length:=(List.getElem?_eq_some_iff.1 hu).1
  simp_all[Array.getElem?_append_left]
 ·intro k R hk
  rw[hF,hown]
  rw[YB] at hk
  obtain⟨h1,h2,h3⟩:=hP.res k R hk
  exact⟨h1,h2,fun b hb=>⟨hG.lt b (h3 b hb),.inr ⟨k,R,hk,hb⟩⟩⟩
 ·intro k k' R R' b h1 h2
  rw[YB] at h1 h2
  exact hP.dist k k' R R' b h1 h2
 ·rintro e a w' ⟨m',L',H',ν',⟨he,q⟩,S'⟩
  obtain⟨m',L',H',ν',q,S'⟩:=RV rfl S' q
  obtain⟨s1,H1,v,ν2,e1,hrun,ok⟩:=A2O hT rfl hO S' q
  simp only[Rsp.ret.injEq] at e1
  obtain⟨rfl,rfl⟩:=e1
  rcases he with rfl|rfl
  ·exact⟨S'.defers,v,hrun,ν2,ok⟩
  ·exact⟨S'.defers,v,hrun,ν2,ok⟩
end
end
end Go.Ax
