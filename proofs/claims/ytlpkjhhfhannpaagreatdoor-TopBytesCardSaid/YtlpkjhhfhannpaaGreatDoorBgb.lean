/-
  Own texts, laid together for this claim: the rules that every walk uses, which claim nothing of any program.
-/
import Derived.Deep.Upon
import Derived.Test.YtlpkjhhfhannpaaGreatDoorBga
set_option linter.all false
namespace Go.Ax
open Go Go.RowKit Go.Eng
variable {c:Cx}{G:Fp}{k:Nat}{F:Fp}{R:Rs}{F':Fp}{s:AV}{v:Value}{w':World}
theorem Iy(k:Nat):∀(G F:Fp),Ez k (G++F)=(Ez k G).or (Ez k F)
 | [],F=>rfl
 | (d,v)::G,F=>by rw[List.cons_append,DF,DF,Iy k G F];split<;>rfl
theorem Gy(k:Nat)(G F:Fp):has k (G++F)↔has k G\/has k F:=by
 simp_all[has,Iy]
theorem Di(k:Nat)(F:Fp):has k F↔∃ R,Ez k F=some R:=by unfold has;exact Option.isSome_iff_exists
def Dj(G F:Fp):Prop:=∀ k,has k G->¬has k F
theorem Iz(h:Dj G F)(hk:Ez k F=some R):Ez k (G++F)=some R:=by
 rw[Iy]
 cases hg:Ez k G with
 | none=>exact hk
 | some R'=>exact absurd ((Di k F).2 ⟨R,hk⟩) (h k ((Di k G).2 ⟨R',hg⟩))
theorem Fa(hk:Ez k G=some R):Ez k (G++F)=some R:=by rw[Iy,hk];rfl
theorem MJ{ν:Nat->Value}(h:Dj G F)(b:Nat):ER ν (G++F) b↔ER ν G b\/ER ν F b:=by
 constructor
 ·rintro⟨k,R,hk,hb⟩
  rw[Iy] at hk
  cases hg:Ez k G with
  | none=>rw[hg] at hk;exact .inr ⟨k,R,hk,hb⟩
  | some R'=>exact .inl ⟨k,R',hg,hb⟩
 ·rintro(⟨k,R,hk,hb⟩|⟨k,R,hk,hb⟩)
  ·exact⟨k,R,Fa hk,hb⟩
  ·exact⟨k,R,Iz h hk,hb⟩
theorem A2N(ν:Nat->Value)(b:Nat):¬ER ν [] b:=fun⟨k,R,h,_⟩=>za0
theorem Kw{ν:Nat->Value}(b:Nat):ER ν [(k,R)] b↔blk (ν k)=some b:=by
 constructor
 ·rintro⟨q,R',h,hb⟩
  simp_all[DF]
 ·intro h;exact⟨k,R,by rw[DF,if_pos rfl],h⟩
theorem DK(k q:Nat)(R:Rs):has q [(k,R)]↔q=k:=by
 simp_all[has,DF]
theorem QO{k:Nat}:∀ {G:Fp},RF k G=true↔¬has k G
 | []=>by simp[RF,has]
 | (d,v)::G=>by
  unfold has
  rw[DF]
  simp only[RF,Bool.and_eq_true,Bool.not_eq_true']
  rw[QO (G:=G)]
  unfold has
  by_cases h:k=d
  ·subst h;simp
  ·have:Nat.beq k d=false:=by simp_all[Bool.eq_false_iff]
   grind
def Cx.less(c:Cx)(G:Fp):Cx:=⟨c.N,c.ν,fun b=>c.O b/\¬ER c.ν G b,c.w⟩
theorem Cx.less_le(c:Cx)(G:Fp):Cx.Le none c (c.less G):=⟨fun k _ h=>⟨h,rfl⟩,fun w'' hs=>hs.mono fun i _ h=>h.1⟩
theorem Good.less{I:World->Prop}{c:Cx}(h:Good I c)(G:Fp):Good I (c.less G):=⟨fun b hb=>h.lt b hb.1,fun w' hs=>h.inv w' ((c.less_le G).st w' hs)⟩
theorem Pre.left(h:Pre c (G++F) F'):(∀ k R,Ez k G=some R->c.N k/\Holds c k R/\∀ b,blk (c.ν k)=some b->c.O b)/\(∀ k k' R R' b,Ez k G=some R->Ez k' G=some R'->k≠k'->blk (c.ν k)=some b->blk (c.ν k')≠some b) :=
 ⟨fun k R hk=>h.res k R (Fa hk),fun k k' R R' b h1 h2=>h.dist k k' R R' b (Fa h1) (Fa h2)⟩
theorem Pre.less{c:Cx}{G F F' F'':Fp}(hj:Dj G F)(h:Pre c (G++F) F')(hn:∀ k,has k F''->has k F\/¬c.N k)(hlt:∀ b,c.O b->b<c.w.heap.size):Pre (c.less G) F F'':=by
 refine⟨fun k R hk=>?_,fun k k' R R' b h1 h2=>h.dist k k' R R' b (Iz hj h1) (Iz hj h2),hn⟩
 obtain⟨h1,h2,h3⟩:=h.res k R (Iz hj hk)
 refine⟨h1,Holds.le (c.less_le G) (Dc _) rfl (fun b hb=>⟨hlt b (h3 b hb),rfl⟩) h2,fun b hb=>⟨h3 b hb,?_⟩⟩
 rintro⟨q,R',hq,hb'⟩
 refine h.dist q k R' R b (Fa hq) (Iz hj hk) ?_ hb' hb
 rintro rfl
 exact hj q ((Di _ _).2 ⟨_,hq⟩) ((Di _ _).2 ⟨_,hk⟩)
theorem IC.reads{e:Nat}{t:Ty}{l:List (El t)}(h:IC c k e t.n l.length (flatL t l)){O':Nat->Prop}(hO:∀ b,O' b->c.O b/\blk (c.ν k)≠some b):∀ w',Stp O' c.w w'->Rd t l (c.ν k) w':=by
 obtain⟨vs,h1,h2,h3⟩:=h
 obtain⟨cs,rfl,hcs⟩:=h2.flatL
 intro w' hs
 refine⟨cs,hcs.mono fun x m hm=>hm.cr w' (hs.mono fun i _ hi=>(hO i hi).1),?_⟩
 exact Sl.of_ownG (A1t h1 hs fun b hb hq=>(hO b hq).2 hb)
theorem SH{hk:Nat->Option Rs}{a b:AV}(h:rdA hk a=some (b,G)):(∀ k R,Ez k G=some R->hk k=some R)/\(∀ k R,Ez k G=some R->∃ e t l,R=.row e t l) /\
  ∀(c:Cx) (v:Value),Rep c a v->(∀ k R,Ez k G=some R->c.N k/\Holds c k R/\∀ b,blk (c.ν k)=some b->c.O b)->∀ G',(∀ b,ER c.ν G b->ER c.ν G' b)->Rep (c.less G') b v:=by
 unfold rdA at h
 split at h
 ·rename_i k
  split at h
  ·rename_i e t l hkk
   simp only[Option.some.injEq,Prod.mk.injEq] at h
   obtain⟨rfl,rfl⟩:=h
   refine⟨fun q R hq=>?_,fun q R hq=>?_,fun c v hr hres G' hG'=>?_⟩
   ·rw[DF] at hq
    simp_all
   ·rw[DF] at hq
    split at hq
    ·grind
    ·cases hq
   ·simp only[Rep] at hr ⊢
    obtain⟨_,rfl,_⟩:=hr
    obtain⟨_,h2,_⟩:=hres k _ (by rw[DF,if_pos rfl])
    refine IC.reads h2 fun b hb=>⟨hb.1,fun e=>hb.2 (hG' b ((Kw b).2 e))⟩
  ·cases h
 ·simp only[Option.some.injEq,Prod.mk.injEq] at h
  obtain⟨rfl,rfl⟩:=h
  exact⟨(fun k R h=>by cases h),(fun k R h=>by cases h),fun c v hr _ G' _=>Rep.le (c.less_le G') _ _ (GU _) hr⟩
mutual
theorem Rep.noRd{N:Nat->Prop}{ν:Nat->Value}{O O':Nat->Prop}{w:World}:∀(s:AV) (u:Value),Ax.noRd s=true->Rep ⟨N,ν,O,w⟩ s u->Rep ⟨N,ν,O',w⟩ s u
 | .un,u,_,hr=>zbz
 | .b _,u,_,hr|.i _,u,_,hr|.u8 _,u,_,hr|.u32 _,u,_,hr|.u64 _,u,_,hr|.str _,u,_,hr|.nil,u,_,hr|.gp _,u,_,hr=>by simp_all[Rep]
 | .nm k,u,_,hr=>by grind[Rep]
 | .pa k o,u,_,hr|.pe k i s o,u,_,hr|.vs k s a b,u,_,hr=>by simp_all[Rep]
 | .sl t l,u,h,hr|.st t l,u,h,hr|.sn t l,u,h,hr|.pt l,u,h,hr=>za0
 | .tup l,u,h,hr=>by
  simp only[Rep] at hr ⊢
  obtain⟨us,h1,h2⟩:=hr
  exact⟨us,h1,Af.noRd l us (by simpa only[Ax.noRd] using h) h2⟩
 | .agg l,u,h,hr=>by
  simp only[Rep] at hr ⊢
  obtain⟨us,h1,h2,h3⟩:=hr
  exact⟨us,h1,Af.noRd l us (by simpa only[Ax.noRd] using h) h2,h3⟩
 | .fn f l p,u,h,hr=>by
  simp only[Rep] at hr ⊢
  obtain⟨us,vs,h1,h2,h3⟩:=hr
  simp only[Ax.noRd,Bool.and_eq_true] at h
  exact⟨us,vs,h1,Af.noRd l us h.1 h2,Af.noRd p vs h.2 h3⟩
theorem Af.noRd{N:Nat->Prop}{ν:Nat->Value}{O O':Nat->Prop}{w:World}:∀(s:List AV) (u:List Value),Ld s=true->Af ⟨N,ν,O,w⟩ s u->Af ⟨N,ν,O',w⟩ s u
 | [],u,_,hr=>by simp_all[Af]
 | s::r,u,h,hr=>by
  simp only[Af] at hr ⊢
  obtain⟨v,t,h1,h2,h3⟩:=hr
  simp only[Ld,Bool.and_eq_true] at h
  exact⟨v,t,h1,Rep.noRd s v h.1 h2,Af.noRd r t h.2 h3⟩
end
theorem VF:∀(l r:List AV),Ld (l++r)=(Ld l&&Ld r)
 | [],r=>by simp[Ld]
 | s::l,r=>by simp only[List.cons_append,Ld,VF l r,Bool.and_assoc]
theorem VG:∀(t:Ty) (x:El t),t.plain=true->Ld (flat t x)=true
 | .bool,_,_|.i64,_,_|.u8,_,_|.u32,_,_|.u64,_,_|.str,_,_|.unit,_,_=>rfl
 | .sl _,_,h=>za0
 | .pair a b,x,h=>by
  simp only[Ty.plain,Bool.and_eq_true] at h
  rw[flat,VF,VG a _ h.1,VG b _ h.2];rfl
theorem Xk(t:Ty)(h:t.plain=true):∀(l:List (El t)),Ld (flatL t l)=true
 | []=>rfl
 | x::l=>by rw[flatL,VF,VG t x h,Xk t h l];rfl
theorem kV(R:Rs)(h:Xf R=true):Ld R.cells=true:=by
 cases R with
 | var l|rowA e sz n l=>exact h
 | row e t l=>exact Xk t h l
theorem Holds.noRd{N:Nat->Prop}{ν:Nat->Value}{O O':Nat->Prop}{w:World}{k:Nat}{R:Rs}(hR:Xf R=true)(h:Holds ⟨N,ν,O,w⟩ k R):Holds ⟨N,ν,O',w⟩ k R:=by
 have hc:=kV R hR
 cases R with
 | var l=>obtain⟨b,us,h1,h2,h3,h4⟩:=h;exact⟨b,us,h1,h2,Af.noRd _ _ hc h3,h4⟩
 | row e t l|rowA e sz n l=>obtain⟨vs,h1,h2,h3⟩:=h;exact⟨vs,h1,Af.noRd _ _ hc h2,h3⟩
theorem aA:∀ {F:Fp} {k:Nat} {R:Rs},NF F=true->Ez k F=some R->Xf R=true
 | [],k,R,_,h=>za0
 | (d,v)::F,k,R,h,hk=>by
  simp only[NF,Bool.and_eq_true] at h
  rw[DF] at hk
  split at hk
  ·simp_all
  ·exact aA h.2 hk
theorem Ok.consume{ν':Nat->Value}(hj:Dj G F)(ok:Ok (c.less G) F F' s v w' ν'):Ok c (G++F) F' s v w' ν':=by
 have hO:(fun b=>((c.less G).O b/\¬ER (c.less G).ν F b)\/ER ν' F' b)=fun b=>(c.O b/\¬ER c.ν (G++F) b)\/ER ν' F' b:=by
  funext b
  have:=MJ (ν:=c.ν) hj b
  refine propext ⟨fun h=>h.imp (fun h=>⟨h.1.1,fun e=>?_⟩) id,fun h=>h.imp (fun h=>⟨⟨h.1,fun e=>h.2 (this.2 (.inl e))⟩,fun e=>h.2 (this.2 (.inr e))⟩) id⟩
  exact(this.1 e).elim h.1.2 h.2
 obtain⟨h1,h2,h3,h4,h5⟩:=ok
 rw[hO] at h2 h3
 exact⟨h1,h2,fun k R hk=>⟨(h3 k R hk).1,fun b hb=>⟨((h3 k R hk).2 b hb).1,((h3 k R hk).2 b hb).2.imp id fun e=>(MJ hj b).2 (.inr e)⟩⟩,h4,h5.mono fun i _ h=>(MJ hj i).2 (.inr h)⟩
theorem Ok.borrow{ν':Nat->Value}(hj:Dj G F)(hj':Dj G F')(hlt:∀ b,c.O b->b<c.w.heap.size)(hres:∀ k R,Ez k (G++F)=some R->c.N k/\Holds c k R/\∀ b,blk (c.ν k)=some b->c.O b)(hdist:∀ k k' R R' b,Ez k (G++F)=some R->Ez k' (G++F)=some R'->k≠k'->blk (c.ν k)=some b->blk (c.ν k')≠some b)(hs:noRd s=true)(hF:NF F'=true)(ok:Ok (c.less G) F F' s v w' ν'):Ok c (G++F) (G++F') s v w' ν':=by
 obtain⟨h1,h2,h3,h4,h5⟩:=ok
 have hνG:∀ k R,Ez k G=some R->ν' k=c.ν k:=fun k R hk=>h1 k (hres k R (Fa hk)).1
 have hbG:∀ b,ER ν' G b↔ER c.ν G b:=fun b=>⟨fun⟨k,R,hk,hb⟩=>⟨k,R,hk,by simp_all⟩,fun⟨k,R,hk,hb⟩=>⟨k,R,hk,by simp_all⟩⟩
 have hGF:∀ b,ER c.ν G b->¬ER c.ν F b:=by
  rintro b ⟨k,R,hk,hb⟩ ⟨q,R',hq,hb'⟩
  refine hdist k q R R' b (Fa hk) (Iz hj hq) ?_ hb hb'
  rintro rfl
  exact hj k ((Di _ _).2 ⟨_,hk⟩) ((Di _ _).2 ⟨_,hq⟩)
 have hGO:∀ b,ER c.ν G b->c.O b:=by rintro b ⟨k,R,hk,hb⟩;grind[Fa]
 have hN:(fun k=>c.N k\/has k (G++F'))=fun k=>(c.less G).N k\/has k F':=by
  funext k
  refine propext ⟨fun h=>?_,fun h=>h.imp id fun h=>(Gy _ _ _).2 (.inr h)⟩
  rcases h with h|h
  ·exact .inl h
  ·rcases(Gy _ _ _).1 h with h|h
   ·obtain⟨R,hR⟩:=(Di _ _).1 h;exact .inl (hres k R (Fa hR)).1
   grind
 -- names that are kept: which blocks are whose
 have hold:∀ b,(c.O b/\¬ER c.ν (G++F) b)\/ER ν' (G++F') b->b<c.w.heap.size->c.O b:=by
  rintro b (h|h) hb
  ·exact h.1
  ·rcases(MJ hj' b).1 h with h|h
   ·simp_all
   ·obtain⟨k,R,hk,hb'⟩:=h
    rcases((h3 k R hk).2 b hb').2 with h6|h6
    ·exact absurd hb (Nat.not_lt.2 h6)
    ·obtain⟨q,R',hq,hb2⟩:=h6;exact(hres q R' (Iz hj hq)).2.2 b hb2
 have hFO:∀ b,ER c.ν F b->c.O b:=by rintro b ⟨k,R,hk,hb⟩;grind[Iz]
 refine⟨h1,?_,fun k R hk=>?_,fun k k' R R' b hk hk' hne hb=>?_,h5.mono fun i _ h=>(MJ hj i).2 (.inr h)⟩
 ·grind[Rep.noRd]
 ·rw[hN]
  rw[Iy] at hk
  cases hg:Ez k G with
  | some R0 =>
   rw[hg] at hk
   obtain rfl:=Option.some.inj hk
   obtain⟨q1,q2,q3⟩:=hres k R0 (Fa hg)
   refine⟨Holds.le (c:=c) (m:=none) ⟨fun q _ h=>⟨.inl h,h1 q h⟩,fun w'' hs=>h5.then hs (fun i _ h=>hFO i h) fun i hi h=>hold i h hi⟩ (Dc _) (h1 k q1) (fun b hb=>?_) q2,fun b hb=>?_⟩
   ·exact⟨hlt b (q3 b hb),h5.block b (hlt b (q3 b hb)) (hGF b ⟨k,R0,hg,hb⟩)⟩
   ·rw[hνG k R0 hg] at hb
    exact⟨Nat.lt_of_lt_of_le (hlt b (q3 b hb)) h5.size,.inr ((MJ hj b).2 (.inl ⟨k,R0,hg,hb⟩))⟩
  | none =>
   rw[hg] at hk
   have hk:Ez k F'=some R:=hk
   obtain⟨q1,q2⟩:=h3 k R hk
   exact⟨Holds.noRd (aA hF hk) q1,fun b hb=>⟨(q2 b hb).1,(q2 b hb).2.imp id fun e=>(MJ hj b).2 (.inr e)⟩⟩
 ·rw[Iy] at hk hk'
  have cross:∀ k k' R R' b,Ez k G=some R->Ez k' F'=some R'->blk (ν' k)=some b->blk (ν' k')≠some b:=by
   intro k k' R R' b hk hk' hb hb'
   rw[hνG k R hk] at hb
   have hbl:b<c.w.heap.size:=hlt b ((hres k R (Fa hk)).2.2 b hb)
   rcases((h3 k' R' hk').2 b hb').2 with h6|h6
   ·exact absurd hbl (Nat.not_lt.2 h6)
   ·exact hGF b ⟨k,R,hk,hb⟩ h6
  cases hg:Ez k G with
  | some R0 =>
   cases hg':Ez k' G with
   | some R0' =>
    grind[Fa]
   | none=>grind
  | none =>
   rw[hg] at hk
   cases hg':Ez k' G with
   | some R0'|none=>grind
theorem Ok.same(hlt:∀ b,c.O b->b<c.w.heap.size)(hres:∀ k R,Ez k F=some R->c.N k/\Holds c k R/\∀ b,blk (c.ν k)=some b->c.O b)(hdist:∀ k k' R R' b,Ez k F=some R->Ez k' F=some R'->k≠k'->blk (c.ν k)=some b->blk (c.ν k')≠some b)(hr:Rep c s v):Ok c F F s v c.w c.ν:=by
 have hle:Cx.Le none c ⟨fun q=>c.N q\/has q F,c.ν,fun b=>(c.O b/\¬ER c.ν F b)\/ER c.ν F b,c.w⟩:=⟨fun q _ h=>⟨.inl h,rfl⟩,fun w'' hs=>hs.mono fun i _ hi=>by
  rcases hi with h|⟨k,R,hk,hb⟩
  ·exact h.1
  ·exact(hres k R hk).2.2 i hb⟩
 refine⟨fun _ _=>rfl,Rep.le hle s v (GU s) hr,fun k R hk=>?_,hdist,Stp.refl _ _⟩
 obtain⟨h1,h2,h3⟩:=hres k R hk
 exact⟨Holds.le hle (Dc _) rfl (fun b hb=>⟨hlt b (h3 b hb),rfl⟩) h2,fun b hb=>⟨hlt b (h3 b hb),.inr ⟨k,R,hk,hb⟩⟩⟩
theorem Ok.change{R':Rs}(hN:c.N k)(hO:∀ b,blk (c.ν k)=some b->c.O b)(hlt:∀ b,c.O b->b<c.w.heap.size)(hs:Stp (fun b=>blk (c.ν k)=some b) c.w w')(hA:Holds ⟨c.N,c.ν,c.O,w'⟩ k R')(hr:Rep ⟨c.N,c.ν,c.O,w'⟩ s v):Ok c [(k,R)] [(k,R')] s v w' c.ν:=by
 have hle:Cx.Le none ⟨c.N,c.ν,c.O,w'⟩ ⟨fun q=>c.N q\/has q [(k,R')],c.ν,fun x=>(c.O x/\¬ER c.ν [(k,R)] x)\/ER c.ν [(k,R')] x,w'⟩ :=
  ⟨fun q _ h=>⟨.inl h,rfl⟩,fun w'' h=>h.mono fun i _ hi=>by
   grind[Kw]⟩
 have hbw:∀ b,blk (c.ν k)=some b->b<w'.heap.size:=fun b hb=>Nat.lt_of_lt_of_le (hlt b (hO b hb)) hs.size
 refine⟨fun _ _=>rfl,Rep.le hle s v (GU s) hr,fun q R0 hq=>?_,fun q q' R0 R0' b hq hq' hne=>?_,hs.mono fun i _ h=>(Kw i).2 h⟩
 ·rw[DF] at hq
  split at hq
  ·rename_i e;subst e
   obtain rfl:=Option.some.inj hq
   exact⟨Holds.le hle (Dc _) rfl (fun b hb=>⟨hbw b hb,rfl⟩) hA,fun b hb=>⟨hbw b hb,.inr ((Kw b).2 hb)⟩⟩
  ·cases hq
 ·have h1:=(DK k q R').1 ((Di _ _).2 ⟨_,hq⟩)
  have h2:=(DK k q' R').1 ((Di _ _).2 ⟨_,hq'⟩)
  omega
theorem Ok.new{u:Value}(hk:¬c.N k)(hs:Stp No c.w w')(hb:∀ b,blk u=some b->c.w.heap.size<=b/\b<w'.heap.size)(hA:Holds ⟨fun q=>c.N q\/q=k,fun q=>if q=k then u else c.ν q,fun b=>c.O b\/blk u=some b,w'⟩ k R)(hr:Rep ⟨fun q=>c.N q\/q=k,fun q=>if q=k then u else c.ν q,fun b=>c.O b\/blk u=some b,w'⟩ s v):Ok c [] [(k,R)] s v w' (fun q=>if q=k then u else c.ν q):=by
 have hkk:(if k=k then u else c.ν k)=u:=if_pos rfl
 have hN:(fun q=>c.N q\/has q [(k,R)])=fun q=>c.N q\/q=k:=by simp_all[DK]
 have hO:(fun b=>(c.O b/\¬ER c.ν [] b)\/ER (fun q=>if q=k then u else c.ν q) [(k,R)] b)=fun b=>c.O b\/blk u=some b:=by
  simp_all[Kw,A2N]
 refine⟨fun q hq=>if_neg fun(e:q=k)=>hk (e▸hq),?_,fun q R0 hq=>?_,fun q q' R0 R0' b hq hq' hne=>?_,hs.mono fun i _ h=>h.elim⟩
 ·simp_all
 ·rw[hN,hO]
  have h1:=(DK k q R).1 ((Di _ _).2 ⟨_,hq⟩)
  subst h1
  rw[DF,if_pos rfl] at hq
  simp_all
 ·have h1:=(DK k q R).1 ((Di _ _).2 ⟨_,hq⟩)
  have h2:=(DK k q' R).1 ((Di _ _).2 ⟨_,hq'⟩)
  omega
theorem Ok.turn{k':Nat}{R':Rs}{u:Value}(hk:c.N k)(hk':¬c.N k')(hO:∀ b,blk (c.ν k)=some b->c.O b)(hs:Stp (fun b=>blk (c.ν k)=some b) c.w w')(hb:∀ b,blk u=some b->b<w'.heap.size/\(c.w.heap.size<=b\/blk (c.ν k)=some b))(hA:Holds ⟨fun q=>c.N q\/q=k',fun q=>if q=k' then u else c.ν q,fun b=>(c.O b/\blk (c.ν k)≠some b)\/blk u=some b,w'⟩ k' R')(hr:Rep ⟨fun q=>c.N q\/q=k',fun q=>if q=k' then u else c.ν q,fun b=>(c.O b/\blk (c.ν k)≠some b)\/blk u=some b,w'⟩ s v):
  Ok c [(k,R)] [(k',R')] s v w' (fun q=>if q=k' then u else c.ν q):=by
 have hkk:(if k'=k' then u else c.ν k')=u:=if_pos rfl
 have hN:(fun q=>c.N q\/has q [(k',R')])=fun q=>c.N q\/q=k':=by simp_all[DK]
 have hOO:(fun b=>(c.O b/\¬ER c.ν [(k,R)] b)\/ER (fun q=>if q=k' then u else c.ν q) [(k',R')] b)=fun b=>(c.O b/\blk (c.ν k)≠some b)\/blk u=some b:=by
  simp_all[Kw]
 refine⟨fun q hq=>if_neg fun(e:q=k')=>hk' (e▸hq),?_,fun q R0 hq=>?_,fun q q' R0 R0' b hq hq' hne=>?_,hs.mono fun i _ h=>(Kw i).2 h⟩
 ·simp_all
 ·rw[hN,hOO]
  have h1:=(DK k' q R').1 ((Di _ _).2 ⟨_,hq⟩)
  subst h1
  rw[DF,if_pos rfl] at hq
  obtain rfl:=Option.some.inj hq
  simp_all[Kw]
 ·have h1:=(DK k' q R').1 ((Di _ _).2 ⟨_,hq⟩)
  have h2:=(DK k' q' R').1 ((Di _ _).2 ⟨_,hq'⟩)
  omega
end Go.Ax
namespace Go.Ax
open Go Go.RowKit Go.Eng
variable {c:Cx}{t:TypeId}{k b:Nat}{p:Addr}{w:World}{R:Rs}{s:AV}{u:Value}{l:List AV}{us:List Value}
theorem Rep.cast_sl{e e':Ty}{l:List (El e')}{l':List (El e)}(h:A6H e e' l=some l')(hr:∀ w',Stp c.O c.w w'->Rd e' l u w'):Rep c (.sl e l') u:=by
 obtain⟨rfl,h2⟩:=fF h
 obtain rfl:=eq_of_heq h2
 simp_all[Rep]
theorem Rd.nil(t:Ty)(w:World):Rd t [] (.slice none 0 0) w:=⟨[],by simp[Ec],by grind[Sl.nil]⟩
theorem A2O:∀ {t:Ty} {l r:List AV} {x:El t} {us:List Value},Wy t l=some (x,r)->Af c l us->∃ u1 u2,us=u1++u2/\Af c (flat t x) u1/\Af c r u2:=by
 intro t
 induction t with
 | unit=>intro l r x us h hr;simp only[Wy,Option.some.injEq,Prod.mk.injEq] at h;obtain⟨_,rfl⟩:=h;exact⟨[],us,rfl,by simp only[flat,Af],hr⟩
 | pair a b iha ihb =>
  intro l r x us h hr
  simp only[Wy] at h
  split at h
  ·rename_i x1 r1 h1
   split at h
   ·rename_i y r2 h2
    simp only[Option.some.injEq,Prod.mk.injEq] at h
    obtain⟨rfl,rfl⟩:=h
    obtain⟨u1,u2,rfl,h3,h4⟩:=iha h1 hr
    obtain⟨u3,u4,rfl,h5,h6⟩:=ihb h2 h4
    exact⟨u1++u3,u4,by simp_all,by simp only[flat];exact h3.app h5,h6⟩
   ·cases h
  ·cases h
 | sl e ih =>
  intro l r x us h hr
  cases l with
  | nil=>simp[Wy] at h
  | cons s l =>
   simp only[Af] at hr
   obtain⟨u,us',rfl,h1,h2⟩:=hr
   refine⟨[u],us',rfl,?_⟩
   simp only[flat]
   cases s<;>try(simp[Wy] at h;done)
   ·rename_i e' l'
    simp only[Wy] at h
    split at h
    ·rename_i l2 h3
     simp only[Option.some.injEq,Prod.mk.injEq] at h
     obtain⟨rfl,rfl⟩:=h
     grind[Rep,Af.one,Rep.cast_sl]
    ·cases h
   ·rename_i e' l'
    simp only[Wy] at h
    split at h
    ·rename_i l2 h3
     simp only[Option.some.injEq,Prod.mk.injEq] at h
     obtain⟨rfl,rfl⟩:=h
     grind[Rep,Af.one,Rep.cast_sl]
    ·cases h
   ·rename_i e' l'
    simp only[Wy] at h
    split at h
    ·rename_i l2 h3
     simp only[Option.some.injEq,Prod.mk.injEq] at h
     obtain⟨rfl,rfl⟩:=h
     grind[Rep,Af.one,Rep.cast_sl]
    ·cases h
   ·simp only[Wy,Option.some.injEq,Prod.mk.injEq] at h
    obtain⟨rfl,rfl⟩:=h
    grind[Rep,Af.one,Rd.nil]
 | _ =>
  intro l r x us h hr
  cases l with
  | nil=>simp[Wy] at h
  | cons s l =>
   simp only[Af] at hr
   obtain⟨u,us',rfl,h1,h2⟩:=hr
   refine⟨[u],us',rfl,?_⟩
   cases s<;>first
    | (simp[Wy] at h;done)
    | (simp only[Wy,Option.some.injEq,Prod.mk.injEq] at h;obtain⟨rfl,rfl⟩:=h;simp_all[flat,Af.one])
theorem QP{t:Ty}{x:El t}(h:Wy t l=some (x,[]))(hr:Af c l us):Af c (flat t x) us:=by
 obtain⟨u1,u2,rfl,h1,h2⟩:=A2O h hr
 simp_all[Af]
theorem Nq(h:Rep c s u)(hc:cellsA s=some l):∃ us,u.cells=us.toArray/\Af c l us/\∀ x∈us,x.oneCell'=true:=by
 have one:u.oneCell'=true->[s]=l->∃ us,u.cells=us.toArray/\Af c l us/\∀ x∈us,x.oneCell'=true:=by
  intro h1 h3
  subst h3
  refine⟨[u],?_,Af.one h,by grind⟩
  cases u<;>first|rfl|cases h1
 cases s<;>simp only[cellsA] at hc<;>try(cases hc;done)
 case agg l' =>
  obtain rfl:=Option.some.inj hc
  simp only[Rep] at h
  obtain⟨us,rfl,h1,h2⟩:=h
  exact⟨us,rfl,h1,h2⟩
 all_goals refine one ?_ (Option.some.inj hc)
 case b=>simp only[Rep] at h;subst h;rfl
 case i=>simp only[Rep] at h;subst h;rfl
 case u8=>simp only[Rep] at h;subst h;rfl
 case u32=>simp only[Rep] at h;subst h;rfl
 case u64=>simp only[Rep] at h;subst h;rfl
 case str=>simp only[Rep] at h;subst h;rfl
 case sl=>simp only[Rep] at h;obtain⟨cs,_,h2⟩:=h c.w (Stp.refl _ _);exact Sl.one h2
 case st=>simp only[Rep] at h;obtain⟨cs,_,h2⟩:=h.2 c.w (Stp.refl _ _);exact Sl.one h2
 case sn=>simp only[Rep] at h;obtain⟨cs,_,h2⟩:=h.2 c.w (Stp.refl _ _);exact Sl.one h2
 case nil=>simp only[Rep] at h;subst h;rfl
 case nm=>grind[Rep]
 case pa=>simp only[Rep] at h;obtain⟨_,b,_,rfl⟩:=h;rfl
 case pe=>simp only[Rep] at h;obtain⟨_,b,_,rfl⟩:=h;rfl
 case vs=>simp only[Rep] at h;obtain⟨_,a,n,cap,_,_,rfl⟩:=h;rfl
 case pt=>simp only[Rep] at h;obtain⟨p,us,rfl,_⟩:=h;rfl
 case fn=>simp only[Rep] at h;obtain⟨us,vs,rfl,_⟩:=h;rfl
section
variable {P:Program}{I:World->Prop}{L:LX}{ty:TypeId}{T:TT}
theorem Cs.zero(h:Cs w p (u::us)):w.cell? p=some u:=by
 have:=h 0 u rfl
 simp_all[Addr.add]
theorem VH{i:TI}(hi:TOK P t i)(h:IP (scalar i.u) i.size l=some s)(hr:Af c l us)(h1:∀ u∈us,u.oneCell'=true)(hc:Cs w p us):∃ v,(loadVar t p).run P w=.ok v w/\Rep c s v:=by
 obtain⟨d,ht,hd⟩:=hi.plain
 unfold IP at h
 cases hsc:scalar i.u with
 | true =>
  rw[hsc] at h hd
  cases l with
  | nil=>cases h
  | cons a l =>
   simp only[cond_true,List.head?_cons,Option.some.injEq] at h
   subst h
   simp only[Af] at hr
   obtain⟨u,us',rfl,h2,h3⟩:=hr
   grind[WX,Cs.zero]
 | false =>
  rw[hsc] at h hd
  simp only[cond_false] at h
  cases hle:Nat.ble i.size l.length with
  | false=>simp_all
  | true =>
   rw[hle] at h
   obtain rfl:=Option.some.inj h
   have hle:i.size<=l.length:=by simpa using hle
   have hlen:=hr.len
   obtain⟨inf,hinf,hs⟩:=Option.map_eq_some_iff.1 hi.sz
   have hagg:(isAgg t).run P w=.ok true w:=by
    simp only[isAgg,Sem.run_bind,run_underlying ht,Result.andThen_ok]
    cases d<;>first|(cases hd;done)|rfl
   have hl:(loadCells p i.size).run P w=.ok (us.take i.size).toArray w:=by
    have:=run_loadCells_list (P:=P) (w:=w) p (us.take i.size) (hc.take _)
    simp_all
   refine⟨.agg (us.take i.size).toArray,by simp_all[loadVar,sizeOf,typeInfo],?_⟩
   simp only[Rep]
   exact⟨_,rfl,hr.take _,fun u hu=>h1 u (List.mem_of_mem_take hu)⟩
theorem Nr{e:Operand->Value}{x:Operand}{v:Value}(hx:e x=.pointer (some p))(h:(loadVar t p).run P w=.ok v w):(execOp e ⟨none,.load t x,ty, "", #[],none⟩).run P w=.ok (.value v) w:=by
 have h1:execOp e ⟨none,.load t x,ty, "", #[],none⟩=(do pure (.value (<-Instr.loadAt t (e x)))):=rfl
 simp_all[Instr.loadAt,Instr.sureAddr]
theorem Jn{F':Fp}(hP:Pre c [(k,R)] F'):c.N k/\Holds c k R/\∀ b,blk (c.ν k)=some b->c.O b:=hP.res k R (by rw[DF,if_pos rfl])
theorem GM{q:Nat}{R':Rs}(h:Ez q [(k,R)]=some R'):q=k/\R'=R:=by
 rw[DF] at h
 simp_all
theorem TrOK.look{hk:Nat->Option Rs}{m:Nat}{op:Op}(hkk:hk k=some R) (h:∀(c:Cx) (e:Operand->Value) (ty:TypeId),Good I c->Uw c L e->c.N k->Holds c k R->(∀ b,blk (c.ν k)=some b->c.O b)->∃ v,(execOp e ⟨none,op,ty, "", #[],none⟩).run P c.w=.ok (.value v) c.w/\Rep c s v):TrOK P I L hk m op ⟨s,[(k,R)],[(k,R)],true,0⟩:=by
 refine⟨fun ty=>GV fun c e hG he hP=>?_,fun q R' hq=>by obtain⟨rfl,rfl⟩:=GM hq;exact hkk,fun q hq=>.inl hq,fun _=>rfl⟩
 obtain⟨h1,h2,h3⟩:=Jn hP
 obtain⟨v,hv,hr⟩:=h c e ty hG he h1 h2 h3
 exact⟨v,c.w,c.ν,hv,Ok.same hG.lt (fun k R hk=>hP.res k R hk) (fun k k' R R' b h h'=>hP.dist k k' R R' b h h') hr⟩
theorem A2P{off:Nat}(h:Rep c (.pa k off) u)(hν:c.ν k=.pointer (some ⟨b,0,none⟩)):u=.pointer (some ⟨b,off,none⟩):=by
 simp only[Rep] at h
 obtain⟨_,b',hb,rfl⟩:=h
 simp_all[blk]
theorem Un.cs'(h:Un w b us)(o:Nat):Cs w ⟨b,o,none⟩ (us.drop o):=h.cs o
theorem kW{e sz n:Nat}{v:Value}{vs:List Value}(h:w.ownsG 0 e sz v n vs)(hb:blk v=some b)(o:Nat):Cs w ⟨b,o,none⟩ (vs.drop o):=by
 rcases h.2 with⟨rfl,_⟩|⟨g,cap,cur,fz,rfl,_⟩
 ·cases hb
 ·simp only[blk,Option.some.injEq] at hb
  subst hb
  have h0:Cs w ⟨g,0,none⟩ vs:=fun j u hu=>h.cells (g:=g) rfl j u hu
  have:=h0.drop o
  grind[Addr.add]
theorem QQ{α:Type}{l:List α}{i:Int}{a:α}(h:lget0 l i=some a):0<=i/\l[i.toNat]?=some a:=by
 simp_all[lget0]
theorem SI{β:Type}(sz:Nat):∀(cs:List (List β)) (i:Nat) (c:List β),(∀ c∈cs,c.length=sz)->cs[i]?=some c->∃ r,cs.flatten.drop (i*sz)=c++r
 | [],i,c,_,h=>zbq
 | a::cs,0,c,hs,h=>by
  simp_all
 | a::cs,i+1,c,hs,h=>by
  obtain⟨r,hr⟩:=SI sz cs i c (fun c hc=>hs c (List.mem_cons_of_mem _ hc)) za8
  refine⟨r,?_⟩
  rw[List.flatten_cons,Nat.add_mul,Nat.one_mul,Nat.add_comm,<-List.drop_drop]
  simp_all
theorem Ec.lens{t:Ty}{c:Cx}:∀ {l:List (El t)} {cs:List (List Value)},Ec (fun x m=>Af c (flat t x) m) l cs->∀ m∈cs,m.length=t.n
 | [],[],_,m,hm=>by simp at hm
 | x::l,a::cs,h,m,hm=>by
  rcases List.mem_cons.1 hm with rfl|hm
  ·rw[h.1.len,Nj]
  ·exact Ec.lens h.2 m hm
 | [],_::_,h,_,_|_::_,[],h,_,_=>h.elim
theorem Jo(c:Cx):∀ l:List Value,Af c (l.map AV.of) l
 | []=>by simp[Af]
 | a::r=>by simp only[List.map_cons,Af];exact⟨a,r,rfl,AV.of_rep c a,Jo c r⟩
theorem zy(hT:TTok P I T){hk:Nat->Option Rs}{m:Nat}{x:Operand}{R:Type}{K:Tr->Option R}{r:R}(h:V3 T hk t (FZ L x) K=some r):∃ tr,K tr=some r/\TrOK P I L hk m (.load t x) tr:=by
 unfold V3 at h
 try simp only[xM,xN] at h
 split at h
 ·rename_i i k o hi hx
  have hti:=hT _ _ hi
  split at h
  ·rename_i cells hkk
   split at h
   ·rename_i s hs
    refine⟨_,h,TrOK.look hkk fun c e ty hG he hN hH hO=>?_⟩
    obtain⟨b,us,h2,h3,h4,h5⟩:=hH
    obtain⟨v,hv,hr⟩:=VH (w:=c.w) hti hs (h4.drop o) (fun u hu=>h5 u (List.mem_of_mem_drop hu)) (h3.cs o)
    exact⟨v,Nr (A2P (he x _ hx) h2) hv,hr⟩
   ·cases h
  ·cases h
 ·rename_i i k j sz o hi hx
  have hti:=hT _ _ hi
  split at h
  ·rename_i e t' l hkk
   cases hsz:Nat.beq sz t'.n with
   | false=>simp_all
   | true =>
    rw[hsz] at h
    have hsz:sz=t'.n:=by simpa using hsz
    simp only[cond_true] at h
    obtain⟨a,ha,h⟩:=Option.bind_eq_some_iff.1 h
    split at h
    ·rename_i s hs
     refine⟨_,h,TrOK.look hkk fun c e ty hG he hN hH hO=>?_⟩
     obtain⟨vs,h2,h3,h4⟩:=hH
     have hp:=he x _ hx
     simp only[Rep] at hp
     obtain⟨_,b,hb,hu⟩:=hp
     obtain⟨hj,hla⟩:=QQ ha
     obtain⟨cs,rfl,hcs⟩:=h3.flatL
     obtain⟨us,hus,hru⟩:=hcs.get hla
     obtain⟨rest,hrest⟩:=SI t'.n cs j.toNat us (Ec.lens hcs) hus
     have hcell:=kW h2 hb (j.toNat*sz+o)
     rw[<-List.drop_drop,hsz,hrest] at hcell
     have hul:us.length=t'.n:=by rw[hru.len,Nj]
     have hcell2:Cs c.w ⟨b,j.toNat*sz+o,none⟩ (us.drop o):=fun q u hq=>by
      rw[hsz]
      refine hcell q u ?_
      grind
     obtain⟨v,hv,hr⟩:=VH (w:=c.w) hti hs (hru.drop o) (fun u hu=>XZ hru u (List.mem_of_mem_drop hu)) hcell2
     simp_all[Nr]
    ·cases h
  ·rename_i e sz' n cells hkk
   split at h
   ·rename_i s hs
    refine⟨_,h,TrOK.look hkk fun c e ty hG he hN hH hO=>?_⟩
    obtain⟨vs,h2,h3,h4⟩:=hH
    have hp:=he x _ hx
    simp only[Rep] at hp
    obtain⟨_,b,hb,hu⟩:=hp
    obtain⟨v,hv,hr⟩:=VH (w:=c.w) hti hs (h3.drop _) (fun u hu=>h4 u (List.mem_of_mem_drop hu)) (kW h2 hb (j.toNat*sz+o))
    simp_all[Nr]
   ·cases h
  ·cases h
 ·rename_i i l hi hx
  have hti:=hT _ _ hi
  split at h
  ·rename_i s hs
   refine⟨_,h,TrOK.mk0 fun ty=>DN fun c e hG he=>?_⟩
   have hp:=he x _ hx
   simp only[Rep] at hp
   obtain⟨p,us,hu,h2,h3,h4⟩:=hp
   obtain⟨v,hv,hr⟩:=VH (w:=c.w) hti hs h2 h3 (h4 c.w (Stp.refl _ _))
   simp_all[Nr]
  ·cases h
 ·rename_i i g hi hx
  have hti:=hT _ _ hi
  split at h
  ·rename_i us hg
   split at h
   ·rename_i s hs
    refine⟨_,h,TrOK.mk0 fun ty=>DN fun c e hG he=>?_⟩
    have hp:=he x _ hx
    simp only[Rep] at hp
    obtain⟨h3,h4⟩:=hT.ga _ _ _ _ hi hg
    obtain⟨v,hv,hr⟩:=VH (w:=c.w) (p:=⟨g,0,none⟩) hti hs (Jo c us) h3 (fun j u hu=>by have:=h4 c.w (hG.inv _ (Stp.refl _ _)) j u hu;cases j<;>simpa [Addr.add] using this)
    simp_all[Nr]
   ·cases h
  ·cases h
 ·cases h
end
end Go.Ax
namespace Go.Ax
open Go Go.RowKit Go.Eng
variable {t:TypeId}{x:Operand}{f:Nat}{pl:List (Nat×Nat)}{o:Nat}{p:Addr}{n:Nat}{w:World}
section
variable {P:Program}{I:World->Prop}{L:LX}{ty:TypeId}{T:TT}
theorem JH{u:Und}(h:X0 T t=some u):∃ i,Me t T=some i/\i.u=u:=by
 grind[X0]
theorem Xl{α β:Type}{f:α->Option β}:∀ {l:List α} {r:List β} {i:Nat} {y:β},l.mapM f=some r->r[i]?=some y->∃ x,l[i]?=some x/\f x=some y
 | [],r,i,y,h,hy=>zaL
 | a::l,r,i,y,h,hy=>by
  rw[List.mapM_cons] at h
  obtain⟨b,hb,h⟩:=Option.bind_eq_some_iff.1 h
  obtain⟨bs,hbs,h⟩:=Option.bind_eq_some_iff.1 h
  obtain rfl:b::bs=r:=za8
  cases i with
  | zero=>simp_all
  | succ i=>simp only[List.getElem?_cons_succ] at hy ⊢;exact Xl hbs hy
theorem A2Q(hT:TTok P I T){sc:List Bool}(h:X0 T t=some (.fld pl sc)):Xi P t=some pl/\zu P t=some sc:=by
 obtain⟨i,hi,hu⟩:=JH h
 have:=(hT _ _ hi).und
 simp_all
theorem kX(h:Xi P t=some pl)(hf:pl[f]?=some (o,n)):∃ fs fd i,P.underlying t=some (.struct fs)/\fs[f]?=some fd/\P.info? fd.type=some i/\fd.offset=o/\i.size=n:=by
 unfold Xi at h
 split at h
 ·rename_i fs hfs
  obtain⟨fd,h1,h2⟩:=Xl h hf
  simp_all
 ·cases h
theorem A2R{sc:List Bool}{b:Bool}(h:zu P t=some sc)(hf:sc[f]?=some b):∃ fs fd d,P.underlying t=some (.struct fs)/\fs[f]?=some fd/\P.underlying fd.type=some d/\OL d=b:=by
 unfold zu at h
 split at h
 ·rename_i fs hfs
  obtain⟨fd,h1,h2⟩:=Xl h hf
  simp_all
 ·cases h
theorem kY(h:Xi P t=some pl)(hf:pl[f]?=some (o,n))(hn:Nat.beq n 0=false):(Instr.fieldAt t (.pointer (some p)) f).run P w=.ok (.pointer (some (p.add o))) w:=by
 obtain⟨fs,fd,i,h1,h2,h3,rfl,rfl⟩:=kX h hf
 have hsz:i.size≠0:=fun e=>zaL
 simp_all[Instr.fieldAt,run_underlying,Instr.sureAddr,fieldPlace,sizeOf,typeInfo]
theorem add_lit(b o j:Nat):(⟨b,o,none⟩:Addr).add j=⟨b,o+j,none⟩:=by
 simp_all[Addr.add]
theorem VI{e:Operand->Value}(hx:e x=.pointer (some p))(h:Xi P t=some pl)(hf:pl[f]?=some (o,n))(hn:Nat.beq n 0=false):(execOp e ⟨none,.fieldAddr t x f,ty, "", #[],none⟩).run P w=.ok (.value (.pointer (some (p.add o)))) w:=by
 have h1:execOp e ⟨none,.fieldAddr t x f,ty, "", #[],none⟩=(do pure (.value (<-Instr.fieldAt t (e x) f))):=rfl
 rw[h1,hx]
 simp[kY h hf hn]
theorem A00(hT:TTok P I T){hk:Nat->Option Rs}{m:Nat}{R:Type}{K:Tr->Option R}{r:R}(h:V4 T t (FZ L x) f K=some r):∃ tr,K tr=some r/\TrOK P I L hk m (.fieldAddr t x f) tr:=by
 have hpl:∀ {o n},(A2F T t).bind (·[f]?)=some (o,n)->∃ pl,Xi P t=some pl/\pl[f]?=some (o,n):=by
  intro o n h
  obtain⟨pl,h1,h2⟩:=Option.bind_eq_some_iff.1 h
  unfold A2F at h1
  split at h1
  ·rename_i pl' sc hu
   obtain rfl:=Option.some.inj h1
   exact⟨pl',(A2Q hT hu).1,h2⟩
  ·cases h1
 unfold V4 at h
 try simp only[xM,xN] at h
 split at h
 ·rename_i o' n k o hp hx
  obtain⟨pl,h1,h2⟩:=hpl hp
  cases hn:Nat.beq n 0 with
  | true=>simp_all
  | false =>
   rw[hn] at h
   refine⟨_,h,TrOK.mk0 fun ty=>DN fun c e hG he=>?_⟩
   have hv:=he x _ hx
   simp only[Rep] at hv
   obtain⟨hN,b,hb,hu⟩:=hv
   exact⟨_,VI hu h1 h2 hn,by simp only[Rep,add_lit];simp_all⟩
 ·rename_i o' n k j s o hp hx
  obtain⟨pl,h1,h2⟩:=hpl hp
  cases hn:Nat.beq n 0 with
  | true=>simp_all
  | false =>
   rw[hn] at h
   refine⟨_,h,TrOK.mk0 fun ty=>DN fun c e hG he=>?_⟩
   have hv:=he x _ hx
   simp only[Rep] at hv
   obtain⟨hN,b,hb,hu⟩:=hv
   exact⟨_,VI hu h1 h2 hn,by simp_all[Rep,add_lit,Nat.add_assoc]⟩
 ·rename_i o' n l hp hx
  obtain⟨pl,h1,h2⟩:=hpl hp
  cases hn:Nat.beq n 0 with
  | true=>simp_all
  | false =>
   rw[hn] at h
   refine⟨_,h,TrOK.mk0 fun ty=>DN fun c e hG he=>?_⟩
   have hv:=he x _ hx
   simp only[Rep] at hv
   obtain⟨p,us,hu,h3,h4,h5⟩:=hv
   exact⟨_,VI hu h1 h2 hn,by simp only[Rep];exact⟨_,us.drop o',rfl,h3.drop _,fun u hu=>h4 u (List.mem_of_mem_drop hu),fun w' hs=>(h5 w' hs).drop _⟩⟩
 ·cases h
theorem Af.set{c:Cx}{cells l:List AV}{us vs:List Value}(h:Af c cells us)(k:Af c l vs)(off:Nat):Af c (cells.take off++l++cells.drop (off+l.length)) (us.take off++vs++us.drop (off+vs.length)):=by
 rw[k.len]
 exact((h.take off).app k).app (h.drop _)
theorem xQ{α:Type}{us vs:List α}{j:Nat}{u:α}(h:u∈us.take o++vs++us.drop j):u∈us\/u∈vs:=by
 grind
theorem Xm{e:Operand->Value}{y:Operand}{vs:List Value}{w':World}(hx:e x=.pointer (some p))(hy:(e y).cells=vs.toArray)(hsz:(P.info? t).map (·.size)=some n)(hn:vs.length=n)(h:(storeCells p vs).run P w=.ok () w'):(execOp e ⟨none,.store t x y,ty, "", #[],none⟩).run P w=.ok .skip w':=by
 obtain⟨i,hi,hs⟩:=Option.map_eq_some_iff.1 hsz
 have h0:execOp e ⟨none,.store t x y,ty, "", #[],none⟩=(do Instr.storeAt t (e x) (e y);pure .skip):=rfl
 simp_all[Instr.storeAt,Instr.sureAddr,storeVar,sizeOf,typeInfo]
theorem Vt{β:Type}(sz:Nat):∀(cs:List (List β)),(∀ c∈cs,c.length=sz)->cs.flatten.length=cs.length*sz
 | [],_=>zat
 | a::cs,h=>by
  rw[List.flatten_cons,List.length_append,Vt sz cs (fun c hc=>h c (List.mem_cons_of_mem _ hc)),h a (List.mem_cons_self ..),List.length_cons,Nat.add_mul];omega
theorem Vu{β:Type}(sz:Nat)(vs:List β)(o:Nat):∀(cs:List (List β)) (i:Nat) (c:List β),(∀ c∈cs,c.length=sz)->cs[i]?=some c->o+vs.length<=sz ->
  cs.flatten.take (i*sz+o)++vs++cs.flatten.drop (i*sz+o+vs.length)=(cs.set i (c.take o++vs++c.drop (o+vs.length))).flatten
 | [],i,c,_,h,_=>zbq
 | a::cs,0,c,hs,h,hle=>by
  grind
 | a::cs,i+1,c,hs,h,hle=>by
  have ha:=hs a (List.mem_cons_self ..)
  have ih:=Vu sz vs o cs i c (fun c hc=>hs c (List.mem_cons_of_mem _ hc)) za8 hle
  simp only[List.flatten_cons,List.set_cons_succ]
  rw[<-ih]
  have e1:(i+1)*sz+o=a.length+(i*sz+o):=zaU
  simp_all[List.take_append,List.take_of_length_le,Nat.add_assoc,List.drop_append,List.drop_eq_nil_of_le]
theorem Ec.set{α β:Type}{R:α->β->Prop}:∀ {l:List α} {m:List β} (i:Nat) {a:α} {b:β},Ec R l m->R a b->Ec R (l.set i a) (m.set i b)
 | [],[],i,a,b,_,_=>by simp[Ec]
 | x::l,y::m,0,a,b,h,hr=>⟨hr,h.2⟩
 | x::l,y::m,i+1,a,b,h,hr=>⟨h.1,Ec.set i h.2 hr⟩
 | [],_::_,_,_,_,h,_|_::_,[],_,_,_,h,_=>h.elim
theorem sZ(hT:TTok P I T){hk:Nat->Option Rs}{m:Nat}{y:Operand}{R:Type}{K:Tr->Option R}{r:R}(h:QL T hk t (FZ L x) ((FZ L y).bind cellsA) K=some r):∃ tr,K tr=some r/\TrOK P I L hk m (.store t x y) tr:=by
 unfold QL at h
 try simp only[xM,xN] at h
 split at h
 ·rename_i i k o l hi hx hy
  have hti:=hT _ _ hi
  obtain⟨sy,hsy,hcl⟩:=Option.bind_eq_some_iff.1 hy
  split at h
  ·rename_i cells hkk
   cases hc:(Nat.beq l.length i.size&&Nat.ble (o+l.length) cells.length) with
   | false=>simp_all
   | true =>
    rw[hc] at h
    simp only[Bool.and_eq_true] at hc
    have hln:l.length=i.size:=zaL
    have hle:o+l.length<=cells.length:=zaL
    refine⟨_,h,⟨fun ty=>kT fun c e hG he hP=>?_,fun q R' hq=>by obtain⟨rfl,rfl⟩:=GM hq;exact hkk,fun q hq=>.inl ((DK _ _ _).2 ((DK _ _ _).1 hq)),fun h=>by cases h⟩⟩
    obtain⟨hN,hH,hO⟩:=Jn hP
    obtain⟨b,us,h2,h3,h4,h5⟩:=hH
    have hu:=A2P (he x _ hx) h2
    obtain⟨vs,hvs,hrv,hone⟩:=Nq (he y _ hsy) hcl
    have hvl:=hrv.len
    have hul:=h4.len
    obtain⟨TT',hTT⟩:=id h3
    have hst:=run_storeCells_at P b o TT' vs 0 us.toArray c.w hTT zaD hone
    simp only[Nat.add_zero] at hst
    have hB':Un (c.w.setRow b (us.take o++vs++us.drop (o+vs.length)).toArray) b (us.take o++vs++us.drop (o+vs.length)):=h3.setRow
    have hstp:Stp (fun x=>blk (c.ν k)=some x) c.w (c.w.setRow b (us.take o++vs++us.drop (o+vs.length)).toArray):=(Stp.of_grown (GL c.w b _)).mono fun i _ h=>by rw[h2];exact h
    have hbO:c.O b:=hO b (by rw[h2];rfl)
    have hle2:Cx.Le none c ⟨c.N,c.ν,c.O,c.w.setRow b (us.take o++vs++us.drop (o+vs.length)).toArray⟩:=⟨fun k _ h=>⟨h,rfl⟩,fun w'' h=>hstp.then h (fun i _ e=>hO i e) fun i _ e=>e⟩
    refine⟨_,c.ν,Xm hu hvs hti.sz zaa zaa,Ok.change hN hO hG.lt hstp ⟨b,_,h2,hB',Af.le hle2 _ _ (Dc _) (h4.set hrv o),fun u hu=>?_⟩ zbz⟩
    grind
  ·cases h
 ·rename_i i k j sz o l hi hx hy
  have hti:=hT _ _ hi
  obtain⟨sy,hsy,hcl⟩:=Option.bind_eq_some_iff.1 hy
  split at h
  ·rename_i e' t' ls hkk
   cases hc:(Nat.beq sz t'.n&&Nat.beq l.length i.size&&Nat.ble (o+l.length) t'.n) with
   | false=>simp_all
   | true =>
    rw[hc] at h
    simp only[Bool.and_eq_true] at hc
    have hsz:sz=t'.n:=zaL
    have hln:l.length=i.size:=zaL
    have hle:o+l.length<=t'.n:=zaL
    simp only[cond_true] at h
    obtain⟨a,ha,h⟩:=Option.bind_eq_some_iff.1 h
    split at h
    ·rename_i a' hunf
     refine⟨_,h,⟨fun ty=>kT fun c e hG he hP=>?_,fun q R' hq=>by obtain⟨rfl,rfl⟩:=GM hq;exact hkk,fun q hq=>.inl ((DK _ _ _).2 ((DK _ _ _).1 hq)),fun h=>by cases h⟩⟩
     obtain⟨hN,hH,hO⟩:=Jn hP
     obtain⟨vs,h2,h3,h4⟩:=hH
     have hp:=he x _ hx
     simp only[Rep] at hp
     obtain⟨_,b,hb,hu⟩:=hp
     obtain⟨hj,hla⟩:=QQ ha
     obtain⟨cs,rfl,hcs⟩:=h3.flatL
     obtain⟨us,hus,hru⟩:=hcs.get hla
     obtain⟨ws,hws,hrw,hone⟩:=Nq (he y _ hsy) hcl
     have hwl:=hrw.len
     have hul:us.length=t'.n:=by rw[hru.len,Nj]
     have hlens:=Ec.lens hcs
     have hjlt:j.toNat<ls.length:=(List.getElem?_eq_some_iff.1 hla).1
     rcases h2.2 with⟨hv,_⟩|⟨g,cap,cur,fz,hv,hg0,hg,hnc,hcm,hcs',htake,hfz⟩
     ·omega
     ·rw[hv] at hb
      simp only[blk,Option.some.injEq] at hb
      subst hb
      have hbnd:j.toNat*t'.n+o+ws.length<=ls.length*t'.n:=by
       have:(j.toNat+1)*t'.n<=ls.length*t'.n:=Nat.mul_le_mul_right _ hjlt
       grind
      have hcap:ls.length*t'.n<=cap*t'.n:=Nat.mul_le_mul_right _ hnc
      have hst:=Es (P:=P) g (j.toNat*t'.n+o) e' fz ws 0 cur c.w hg hfz zaa hone
      simp only[Nat.add_zero] at hst
      have hstp:Stp (fun x=>blk (c.ν k)=some x) c.w (c.w.setRow g (cur.toList.take (j.toNat*t'.n+o)++ws++cur.toList.drop (j.toNat*t'.n+o+ws.length)).toArray):=(Stp.of_grown (GL c.w g _)).mono fun i _ h=>by rw[hv];exact h
      have hle2:Cx.Le none c ⟨c.N,c.ν,c.O,c.w.setRow g (cur.toList.take (j.toNat*t'.n+o)++ws++cur.toList.drop (j.toNat*t'.n+o+ws.length)).toArray⟩:=⟨fun k _ h=>⟨h,rfl⟩,fun w'' h=>hstp.then h (fun i _ e=>hO i e) fun i _ e=>e⟩
      have hnew:Af ⟨c.N,c.ν,c.O,c.w.setRow g (cur.toList.take (j.toNat*t'.n+o)++ws++cur.toList.drop (j.toNat*t'.n+o+ws.length)).toArray⟩ (flatL t' (lset0 ls j a')) (cs.set j.toNat (us.take o++ws++us.drop (o+ws.length))).flatten:=by
       refine Af.of_flatL (Ec.set _ (hcs.mono fun x m hm=>Af.le hle2 _ _ (Dc _) hm) ?_)
       refine QP hunf ?_
       exact Af.le hle2 _ _ (Dc _) (hru.set hrw o)
      have hfl:cs.flatten.take (j.toNat*t'.n+o)++ws++cs.flatten.drop (j.toNat*t'.n+o+ws.length)=(cs.set j.toNat (us.take o++ws++us.drop (o+ws.length))).flatten:=Vu t'.n ws o cs j.toNat us hlens hus zaa
      have hfll:cs.flatten.length=ls.length*t'.n:=zaU
      refine⟨_,c.ν,Xm (p:=⟨g,j.toNat*t'.n+o,none⟩) (by rw[hu,hsz]) hws hti.sz zaa zaa,Ok.change hN hO hG.lt hstp ⟨_,?_,hnew,fun u hu=>Iu hnew u hu⟩ zbz⟩
      refine⟨?_,.inr ⟨g,cap,_,fz,by grind[lset0],Nat.zero_le _,setRow_heap c.w g cur _ e' _ hg,by grind[lset0],hcm,?_,?_,?_⟩⟩
      ·rw[<-hfl];simp only[List.length_append,List.length_take,List.length_drop,hfll,lset0,List.length_set];omega
      ·grind
      ·simp only[lset0,List.length_set]
       rw[<-hfl,<-htake]
       have e1:(cur.toList.take (ls.length*t'.n)).take (j.toNat*t'.n+o)=cur.toList.take (j.toNat*t'.n+o):=zaU
       rw[e1,List.take_append,List.take_of_length_le zaD]
       congr 1
       rw[List.drop_take]
       congr 1
       simp only[List.length_append,List.length_take,Array.length_toList];omega
      ·refine cast (congrArg (fun n=>ND n fz) ?_) hfz
       grind
    ·cases h
  ·cases h
 ·cases h
end
end Go.Ax
namespace Go.Ax
open Go Go.RowKit Go.Eng
variable {t:TypeId}
section
variable {P:Program}{I:World->Prop}{L:LX}{ty:TypeId}{T:TT}{R:Type}{K:Tr->Option R}{r:R}{hk:Nat->Option Rs}{m:Nat}
theorem Ky{a:Option AV}{K:AV->Option R}(h:zl a K=some r):∃ s,a=some s/\K s=some r:=by
 unfold zl at h
 grind
theorem TrOK.mkN{op:Op}{s:AV}{Rr:Rs} (h:∀(c:Cx) (e:Operand->Value) (ty:TypeId),Good I c->Uw c L e->¬c.N m->∃ v w',(execOp e ⟨none,op,ty, "", #[],none⟩).run P c.w=.ok (.value v) w'/\∃ ν',Ok c [] [(m,Rr)] s v w' ν'):TrOK P I L hk m op ⟨s,[],[(m,Rr)],false,1⟩:=by
 refine⟨fun ty=>GV fun c e hG he hP=>?_,(fun q R' hq=>by cases hq),fun q hq=>.inr ?_,(fun h=>by cases h)⟩
 ·have hn:¬c.N m:=(hP.new m ((DK _ _ _).2 rfl)).elim (fun h=>absurd h (Hf m)) id
  simp_all
 simp_all[DK]
theorem Ok.newvar{c:Cx}{k:Nat}{us:List Value}{cells:List AV}{t:Nat}(hk:¬c.N k)(hcs:Af c cells us)(h1:∀ u∈us,u.oneCell'=true)(hG:∀ b,c.O b->b<c.w.heap.size):Ok c [] [(k,.var cells)] (.pa k 0) (.pointer (some ⟨c.w.heap.size,0,none⟩)) (c.w.alloc (.cells us.toArray t)) (fun q=>if q=k then .pointer (some ⟨c.w.heap.size,0,none⟩) else c.ν q):=by
 have hkk:(if k=k then Value.pointer (some ⟨c.w.heap.size,0,none⟩) else c.ν k)=.pointer (some ⟨c.w.heap.size,0,none⟩):=if_pos rfl
 have hs:Stp No c.w (c.w.alloc (.cells us.toArray t)):=Stp.of_ext (Ext.alloc c.w _) _
 have hle:Cx.Le none c ⟨fun q=>c.N q\/q=k,fun q=>if q=k then .pointer (some ⟨c.w.heap.size,0,none⟩) else c.ν q,fun b=>c.O b\/blk (Value.pointer (some ⟨c.w.heap.size,0,none⟩))=some b,c.w.alloc (.cells us.toArray t)⟩ :=
  ⟨fun q _ h=>⟨.inl h,if_neg fun(e:q=k)=>hk (e▸h)⟩,fun w'' h=>hs.then h (fun i _ h=>h.elim) fun i hi hO=>by
   grind[blk]⟩
 refine Ok.new hk hs (fun b hb=>?_) ⟨c.w.heap.size,us,hkk,⟨t,by rw[heap_alloc_new]⟩,Af.le hle _ _ (Dc _) hcs,h1⟩ ?_
 ·simp_all[blk]
 ·simp only[Rep];exact⟨.inr trivial,c.w.heap.size,by simp[blk],rfl⟩
theorem tC(hT:TTok P I T)(h:(match Me t T with|some i=>K ⟨.pa m 0,[],[(m,.var i.zero)],false,1⟩|none=>none)=some r):∃ tr,K tr=some r/\TrOK P I L hk m (.alloc t) tr:=by
 split at h
 ·rename_i i hi
  obtain⟨z,hz,hzc,hzs,hone,_⟩:=(hT _ _ hi).zero
  refine⟨_,h,TrOK.mkN fun c e ty hG he hn=>?_⟩
  obtain⟨inf,hinf,hq⟩:=Option.map_eq_some_iff.1 hz
  simp only[Prod.mk.injEq] at hq
  refine⟨_,c.w.alloc (.cells z.cells t),?_,_,Ok.newvar (us:=z.cells.toList) hn (by grind[Jo]) (List.all_eq_true.1 hone) hG.lt⟩
  have h1:execOp e ⟨none,.alloc t,ty, "", #[],none⟩=(do pure (.value (<-Instr.alloc t true (.tuple #[])))):=rfl
  simp_all[Instr.alloc,zeroValue,typeInfo,newVar,newRow]
 ·cases h
theorem A2S{x:Operand}(h:(match(FZ L x).bind cellsA with|some l=>K ⟨.pa m 0,[],[(m,.var l)],false,1⟩|none=>none)=some r):∃ tr,K tr=some r/\TrOK P I L hk m (.box t x) tr:=by
 split at h
 ·rename_i l hl
  obtain⟨s,hs,hcl⟩:=Option.bind_eq_some_iff.1 hl
  refine⟨_,h,TrOK.mkN fun c e ty hG he hn=>?_⟩
  obtain⟨us,h1,h2,h3⟩:=Nq (he x _ hs) hcl
  refine⟨_,c.w.alloc (.cells us.toArray t),?_,_,Ok.newvar hn h2 h3 hG.lt⟩
  have h0:execOp e ⟨none,.box t x,ty, "", #[],none⟩=(do pure (.value (<-Instr.box t (e x)))):=rfl
  simp_all[Instr.box,newVar,newRow]
 ·cases h
theorem Xn(off:Nat):∀(vs:List Value) (s:Nat) (cells:Array Value),off+s+vs.length<=cells.size ->
  ((vs.zipIdx s).foldl (fun(cs:Array Value) (x:Value×Nat)=>match x with|(c,j)=>cs.setIfInBounds (off+j) c) cells)=(cells.toList.take (off+s)++vs++cells.toList.drop (off+s+vs.length)).toArray
 | [],s,cells,h=>zat
 | v::r,s,cells,h=>by
  simp only[List.length_cons] at h
  simp only[List.zipIdx_cons,List.foldl_cons]
  rw[Xn off r (s+1) _ zaD]
  have e:=list_seg_step cells.toList (off+s) v r zaD
  rw[Array.toList_setIfInBounds]
  congr 1
theorem xR{c:Cx}{e:Operand->Value}(he:Uw c L e)(pl:List (Nat×Nat))(place:Nat->Option (Nat×Nat))(hpl:∀ i q,pl[i]?=some q->place i=some q):∀(ps:List (Nat×Operand)) (cells:List AV) (us:List Value) (out:List AV),Af c cells us->(∀ u∈us,u.oneCell'=true)->WZ pl (FZ L) cells ps=some out ->
  ∃ vs,Instr.fill place us.toArray (ps.map fun(i,x)=>(i,e x))=some vs.toArray/\Af c out vs/\∀ u∈vs,u.oneCell'=true
 | [],cells,us,out,h,h1,hb=>by simp only[WZ,Option.some.injEq] at hb;subst hb;exact⟨us,rfl,h,h1⟩
 | (i,x)::r,cells,us,out,h,h1,hb=>by
  simp only[WZ] at hb
  split at hb
  ·rename_i f n l hp hc
   obtain⟨s,hs,hl⟩:=Option.bind_eq_some_iff.1 hc
   cases hcond:(Nat.beq l.length n&&Nat.ble (f+n) cells.length) with
   | false=>simp_all
   | true =>
    rw[hcond] at hb
    simp only[Bool.and_eq_true,cond_true] at hb hcond
    have hn:l.length=n:=zaL
    have hle:f+n<=cells.length:=zaL
    obtain⟨ws,e1,e2,e3⟩:=Nq (he x s hs) hl
    have hwl:=e2.len
    have hul:=h.len
    have:=xR he pl place hpl r _ (us.take f++ws++us.drop (f+ws.length)) out (h.set e2 f) (fun u hu=>(xQ hu).elim (h1 u) (e3 u)) hb
    obtain⟨vs,g1,g2⟩:=this
    refine⟨vs,?_,g2⟩
    simp only[List.map_cons,Instr.fill,hpl i _ hp,e1]
    simp_all[Xn]
  ·cases hb
theorem A2T(hT:TTok P I T){pl:List (Nat×Nat)}(hp:xO T t=some pl){z:Value}{i:TypeInfo}(hi:P.info? t=some i)(hz:i.zero=some z):∃ place:Nat->Option (Nat×Nat),(∀ i q,pl[i]?=some q->place i=some q)/\∀ parts cs,Instr.fill place z.cells parts=some cs->P.built t parts=some cs:=by
 unfold xO at hp
 split at hp
 ·rename_i ti hti
  have hu:=(hT _ _ hti).und
  split at hp
  ·rename_i pl' sc he
   obtain rfl:=Option.some.inj hp
   rw[he] at hu
   have h1:=hu.1
   unfold Xi at h1
   split at h1
   ·rename_i fs hfs
    exact⟨fun i=>pl'.toArray[i]?,fun i q hq=>by grind,fun parts cs hcs=>by simp_all[Program.built]⟩
   ·cases h1
  ·rename_i n el he
   rw[he] at hu
   split at hp
   ·rename_i te hte
    obtain rfl:=Option.some.inj hp
    obtain⟨ie,hie,hs⟩:=Option.map_eq_some_iff.1 (hT _ _ hte).sz
    refine⟨fun i=>some (i*te.size,te.size),fun j q hq=>?_,fun parts cs hcs=>?_⟩
    ·grind
    simp_all[Program.built]
   ·cases hp
  ·cases hp
 ·cases hp
theorem tH(hT:TTok P I T){parts:Array (Nat×Operand)}(h:(match xO T t,Me t T with|some pl,some i=>(match WZ pl (FZ L) i.zero parts.toList with|some l=>K (.pure (.agg l))|none=>none)|_,_=>none)=some r):∃ tr,K tr=some r/\TrOK P I L hk m (.build t parts) tr:=by
 split at h
 ·rename_i pl i hpl hi
  split at h
  ·rename_i l hb
   obtain⟨z,hz,hzc,hzs,hone,_⟩:=(hT _ _ hi).zero
   obtain⟨inf,hinf,hq⟩:=Option.map_eq_some_iff.1 hz
   simp only[Prod.mk.injEq] at hq
   obtain⟨place,hp,hf⟩:=A2T hT hpl hinf hq.1
   refine⟨_,h,TrOK.mk0 fun ty=>DN fun c e hG he=>?_⟩
   obtain⟨vs,g1,g2,g3⟩:=xR he pl place hp parts.toList i.zero z.cells.toList l (by grind[Jo]) (List.all_eq_true.1 hone) hb
   refine⟨.agg vs.toArray,?_,by simp only[Rep];simp_all⟩
   have h2:execOp e ⟨none,.build t parts,ty, "", #[],none⟩=(do pure (.value (<-Instr.build t (parts.map fun(i,x)=>(i,e x))))):=rfl
   simp_all[run_build]
  ·cases h
 ·cases h
theorem Xo{c:Cx}{d:TypeDesc}{n o:Nat}{l:List AV}{us:List Value}{s:AV}{w:World}(ht:P.underlying t=some d)(hn:(P.info? t).map (·.size)=some n)(h:IP (OL d) n (l.drop o)=some s)(hr:Af c l us)(h1:∀ u∈us,u.oneCell'=true):∃ v,(part t us.toArray o).run P w=.ok v w/\Rep c s v:=by
 obtain⟨inf,hinf,hs⟩:=Option.map_eq_some_iff.1 hn
 unfold IP at h
 cases hd:OL d with
 | true =>
  rw[hd] at h
  simp only[cond_true,List.head?_drop] at h
  obtain⟨u,hu,hr'⟩:=hr.get h
  have hagg:(isAgg t).run P w=.ok false w:=by
   simp only[isAgg,Sem.run_bind,run_underlying ht,Result.andThen_ok]
   cases d<;>first|(cases hd;done)|rfl
  simp_all[part]
 | false =>
  rw[hd] at h
  simp only[cond_false] at h
  cases hle:Nat.ble n (l.drop o).length with
  | false=>simp_all
  | true =>
   rw[hle] at h
   obtain rfl:=Option.some.inj h
   have hle:n<=(l.drop o).length:=by simpa using hle
   have hlen:=hr.len
   have hagg:(isAgg t).run P w=.ok true w:=by
    simp only[isAgg,Sem.run_bind,run_underlying ht,Result.andThen_ok]
    cases d<;>first|(cases hd;done)|rfl
   refine⟨.agg ((us.drop o).take n).toArray,?_,by simp only[Rep];exact⟨_,rfl,(hr.drop o).take n,fun u hu=>h1 u (List.mem_of_mem_drop (List.mem_of_mem_take hu))⟩⟩
   simp_all[part,sizeOf,typeInfo]
theorem tJ(hT:TTok P I T){x:Operand}{f:Nat} (h:(match X0 T t,FZ L x with
  | some (.fld pl sc),some (.agg l)=>(match pl[f]?,sc[f]? with
   | some (o',n),some b=>zl (IP b n (l.drop o')) fun s=>K (.pure s)
   | _,_=>none)
  | _,_=>none)=some r):∃ tr,K tr=some r/\TrOK P I L hk m (.field t x f) tr:=by
 split at h
 ·rename_i pl sc l hu hx
  obtain⟨hp,hs⟩:=A2Q hT hu
  split at h
  ·rename_i o' n b h1 h2
   obtain⟨s,hl,h⟩:=Ky h
   refine⟨_,h,TrOK.mk0 fun ty=>DN fun c e hG he=>?_⟩
   obtain⟨fs,fd,i,g1,g2,g3,rfl,rfl⟩:=kX hp h1
   obtain⟨fs',fd',d,k1,k2,k3,rfl⟩:=A2R hs h2
   rw[g1] at k1
   simp only[Option.some.injEq,TypeDesc.struct.injEq] at k1
   subst k1
   rw[g2] at k2
   obtain rfl:=Option.some.inj k2
   have hv:=he x _ hx
   simp only[Rep] at hv
   obtain⟨us,hu,hr,hone⟩:=hv
   obtain⟨v,hv,hrv⟩:=Xo (P:=P) (w:=c.w) k3 (by rw[g3];rfl) hl hr hone
   refine⟨v,?_,hrv⟩
   have h0:execOp e ⟨none,.field t x f,ty, "", #[],none⟩=(do pure (.value (<-Instr.field t (e x) f))):=rfl
   simp_all[Instr.field,run_underlying,asAgg]
  ·cases h
 ·cases h
theorem A01{src dst:TypeId}{dd:Und}{x:AV}{K:AV->Option R}(h:PO dd x K=some r){is id:TI}(hs:TOK P src is)(hd:TOK P dst id)(hdd:id.u=dd):∃ s,K s=some r/\∀(c:Cx) (u:Value) (w:World),Rep c x u->∃ v,(convert src dst u).run P w=.ok v w/\Rep c s v:=by
 obtain⟨d0,hsrc,_⟩:=hs.plain
 have hu:=hd.und
 rw[hdd] at hu
 have num:∀ {w:World} {k k':IntKind} {a:Int},P.underlying dst=some (.int k')->(convert src dst (.int k a)).run P w=.ok (.int k' (k'.wrap a)) w:=fun h=>jf src dst _ _ _ hsrc h
 unfold PO at h
 try simp only[xM,xN] at h
 split at h
 ·exact⟨_,h,fun c u w hx=>by simp_all[Rep,i64w0]⟩
 ·exact⟨_,h,fun c u w hx=>by simp_all[Rep,iu80,byteV,Vm]⟩
 ·exact⟨_,h,fun c u w hx=>by simp_all[Rep,iu320,wordV,TK]⟩
 ·exact⟨_,h,fun c u w hx=>by simp_all[Rep,iu640,IL,OJ]⟩
 ·rename_i a
  exact⟨_,h,fun c u w hx=>by simp only[Rep] at hx;subst hx;exact⟨_,num hu,by have:=a.toNat_lt;grind[Rep,u8i0,IntWalk.i64_in]⟩⟩
 ·rename_i a
  exact⟨_,h,fun c u w hx=>by simp_all[Rep,byteV,wrap_u8]⟩
 ·rename_i a
  exact⟨_,h,fun c u w hx=>by simp only[Rep] at hx;subst hx;exact⟨_,num hu,by have:=a.toNat_lt;simp only[Rep,u8u640];rw[IntWalk.u64_in _ zaa];simp[IL]⟩⟩
 ·rename_i a
  exact⟨_,h,fun c u w hx=>by simp only[Rep] at hx;subst hx;exact⟨_,num hu,by have:=a.toNat_lt;simp only[Rep,u8u320];rw[IntWalk.u32_in _ zaa];simp[wordV]⟩⟩
 ·exact⟨_,h,fun c u w hx=>by simp only[Rep] at hx;subst hx;exact⟨_,num hu,by simp only[Rep,u64i0]⟩⟩
 ·rename_i a
  exact⟨_,h,fun c u w hx=>by simp only[Rep] at hx;subst hx;exact⟨_,num hu,by simp_all[Rep,u64u80,IntKind.wrap_u8,byteV]⟩⟩
 ·rename_i a
  exact⟨_,h,fun c u w hx=>by simp_all[Rep,IL,wrap_u64]⟩
 ·rename_i a
  exact⟨_,h,fun c u w hx=>by simp only[Rep] at hx;subst hx;exact⟨_,num hu,by simp_all[Rep,u32u80,IntKind.wrap_u8,byteV]⟩⟩
 ·rename_i l
  refine⟨_,h,fun c u w hx=>?_⟩
  simp_all[Rep,convert,run_underlying]
 ·cases h
end
end Go.Ax
namespace Go.Ax
open Go Go.RowKit Go.Eng
variable {c:Cx}{x:Operand}{t:TypeId}{w:World}{v:Value}{j:Operand}{n:Nat}
theorem A6J(w:World)(O:Nat->Prop)(b:Nat)(hO:O b):Stp O w {w with heap:=w.heap.setIfInBounds b (.cells #[] 0 (0,0))} :=
 ⟨rfl,rfl,rfl,by simp,fun i hi hn=>by
  grind⟩
theorem settled{O:Nat->Prop}{p:Addr}{u:Value}(h:∀ w',Stp O w w'->∃ u',w'.cell? p=some u')(hu:w.cell? p=some u):∀ w',Stp O w w'->w'.cell? p=some u:=by
 intro w' hs
 have hb:=World.block_lt_of_cell? w p hu
 have hno:¬O p.block:=fun hO=>by
  obtain⟨u',hu'⟩:=h _ (A6J w O p.block hO)
  grind[World.cell?]
 rw[World.cell?_of_block (hs.block p.block hb hno)]
 exact hu
theorem Vw{β:Type}(sz:Nat):∀(cs ds:List (List β)),(∀ c∈cs,c.length=sz)->(∀ c∈ds,c.length=sz)->cs.length=ds.length->cs.flatten=ds.flatten->cs=ds
 | [],[],_,_,_,_=>rfl
 | a::cs,b::ds,h1,h2,hl,h=>by
  simp only[List.flatten_cons] at h
  have hab:=List.append_inj h zaL
  rw[hab.1,Vw sz cs ds (fun c hc=>h1 c (List.mem_cons_of_mem _ hc)) (fun c hc=>h2 c (List.mem_cons_of_mem _ hc)) zaU hab.2]
 | [],_::_,_,_,h,_|_::_,[],_,_,h,_=>zbq
theorem Ec.crlens{τ:Ty}{w:World}:∀ {l:List (El τ)} {cs:List (List Value)},Ec (fun x m=>CR τ x m w) l cs->∀ m∈cs,m.length=τ.n
 | [],[],_,m,hm=>by simp at hm
 | x::l,a::cs,h,m,hm=>by
  rcases List.mem_cons.1 hm with rfl|hm
  ·exact h.1.len
  ·exact Ec.crlens h.2 m hm
 | [],_::_,h,_,_|_::_,[],h,_,_=>h.elim
theorem Ec.all{α β γ:Type}{p:γ->Prop}{R:γ->α->β->Prop}:∀ {l:List α} {m:List β},(∃ g,p g)->(∀ g,p g->Ec (R g) l m)->Ec (fun a b=>∀ g,p g->R g a b) l m
 | [],[],_,_=>trivial
 | a::l,b::m,hp,h=>⟨fun g hg=>(h g hg).1,Ec.all hp fun g hg=>(h g hg).2⟩
 | [],b::m,⟨g,hg⟩,h|a::l,[],⟨g,hg⟩,h=>(h g hg).elim
theorem MK{τ:Ty}{l:List (El τ)}(h:∀ w',Stp c.O c.w w'->Rd τ l v w'):∃ a cap cs,v=.slice a l.length cap/\l.length<=cap/\cap<=maxLen/\(a=none->l.length=0/\cap=0)/\Ec (fun x m=>Af c (flat τ x) m) l cs/\∀ w',Stp c.O c.w w'->∀ p,a=some p->Cs w' p cs.flatten:=by
 obtain⟨cs,h1,a,cap,rfl,h2,h3,h4,h5,h6⟩:=h c.w (Stp.refl _ _)
 have hl:=Ec.crlens h1
 have key:∀ w',Stp c.O c.w w'->Ec (fun x m=>CR τ x m w') l cs/\∀ p,a=some p->Cs w' p cs.flatten:=by
  intro w' hs
  obtain⟨ds,g1,a',cap',g2,g3,_,_,g5,g6⟩:=h w' hs
  simp only[Value.slice.injEq] at g2
  obtain⟨rfl,_,rfl⟩:=g2
  have hdl:=Ec.crlens g1
  have hsame:cs=ds:=by
   cases a with
   | none =>
    have h0:=(h5 rfl).1
    have e1:cs=[]:=List.eq_nil_of_length_eq_zero (by rw[h1.len];exact h0)
    have e2:ds=[]:=List.eq_nil_of_length_eq_zero (by rw[g1.len];exact h0)
    rw[e1,e2]
   | some p =>
    refine Vw τ.n cs ds hl hdl (by rw[h1.len,g1.len]) ?_
    apply List.ext_getElem?
    intro j
    by_cases hj:j<cs.flatten.length
    ·have e1:=h6 p rfl j _ (List.getElem?_eq_getElem hj)
     have hj':j<ds.flatten.length:=zaa
     have e2:=g6 p rfl j _ (List.getElem?_eq_getElem hj')
     have e3:=settled (O:=c.O) (fun w'' hs'=>by
      obtain⟨es,k1,a2,cap2,k2,k3,_,_,_,k6⟩:=h w'' hs'
      simp only[Value.slice.injEq] at k2
      have hj2:j<es.flatten.length:=zaa
      exact⟨_,k6 p k2.1.symm j _ (List.getElem?_eq_getElem hj2)⟩) e1 w' hs
     grind
    simp_all
  simp_all
 refine⟨a,cap,cs,rfl,h3,h4,h5,?_,fun w' hs=>(key w' hs).2⟩
 have:=Ec.all (p:=fun w'=>Stp c.O c.w w') (R:=fun w' x m=>CR τ x m w') ⟨c.w,Stp.refl _ _⟩ fun w' hs=>(key w' hs).1
 exact this.mono fun x m hm=>CR.reps hm
section
variable {P:Program}{I:World->Prop}{L:LX}{ty:TypeId}{T:TT}{R:Type}{K:Tr->Option R}{r:R}{hk:Nat->Option Rs}{m:Nat}
theorem A9Z{s:AV}{i:Int}(h:Jj s=some i)(hr:Rep c s v):∃ k,v=.int k i:=by
 unfold Jj at h
 simp only[kN] at h
 split at h
 ·simp only[Rep] at hr;simp_all
 ·simp only[Rep] at hr;obtain rfl:=Option.some.inj h;exact⟨_,hr⟩
 ·simp only[Rep] at hr;obtain rfl:=Option.some.inj h;exact⟨_,hr⟩
 ·simp only[Rep] at hr;obtain rfl:=Option.some.inj h;exact⟨_,hr⟩
 ·cases h
theorem IR{e:Operand->Value}(he:Uw c L e){i:Int}(h:(FZ L j).bind Jj=some i):∃ k,e j=.int k i:=by
 obtain⟨s,h1,h2⟩:=Option.bind_eq_some_iff.1 h
 exact A9Z h2 (he j s h1)
theorem J3(hT:TTok P I T){el:TypeId}{ei:TI}(h:SE T t=some (el,ei)):∃ z,SliceT P t el z ei.size ei.bytes/\TOK P el ei/\z.cells.toList.map AV.of=ei.zero/\z.cells.toList.all (·.oneCell')=true/\0<ei.bytes:=by
 unfold SE at h
 split at h
 ·rename_i i hi
  split at h
  ·rename_i el' hu
   split at h
   ·rename_i e he
    cases hb:Nat.blt 0 e.size with
    | false=>simp_all
    | true =>
     rw[hb] at h
     simp only[cond_true,Option.some.injEq,Prod.mk.injEq] at h
     obtain⟨rfl,rfl⟩:=h
     have hq:=(hT _ _ hi).und
     rw[hu] at hq
     have hte:=hT _ _ he
     obtain⟨z,h1,h2,h3,h4,h5⟩:=hte.zero
     exact⟨z,⟨hq,h1,h3,by simpa using hb⟩,hte,h2,h4,h5⟩
   ·cases h
  ·cases h
 ·cases h
theorem tK{e:Operand->Value}{x j:Operand}{t el:TypeId}{z:Value}{sz bytes n cap:Nat}{p:Addr}{k:IntKind}{i:Int}{w:World}(T:SliceT P t el z sz bytes)(hx:e x=.slice (some p) n cap)(hj:e j=.int k i)(b:0<=i/\i<n):
  (execOp e ⟨none,.indexAddr t x j,ty, "", #[],none⟩).run P w=.ok (.value (.pointer (some (p.add (i.toNat*sz))))) w:=by
 have h1:execOp e ⟨none,.indexAddr t x j,ty, "", #[],none⟩=(do pure (.value (<-Instr.indexAt t (e x) (e j)))):=rfl
 rw[h1,hx,hj]
 simp only[Instr.indexAt,asIntOf,Sem.run_bind,Sem.run_pure,Result.andThen_ok,run_underlying T.ht]
 rw[if_pos b]
 simp[T.run_size]
theorem xU{c:Cx}{e:Operand->Value}{x j:Operand}{t el:TypeId}{z:Value}{bytes:Nat}{τ:Ty}{l:List (El τ)}{k:IntKind}{i:Int}{a:El τ}(T:SliceT P t el z τ.n bytes)(hx:∀ w',Stp c.O c.w w'->Rd τ l (e x) w')(hj:e j=.int k i)(ha:lget0 l i=some a):
  ∃ v,(execOp e ⟨none,.indexAddr t x j,ty, "", #[],none⟩).run P c.w=.ok (.value v) c.w/\Rep c (.pt (flat τ a)) v:=by
 obtain⟨b,cap,cs,h1,h2,h3,h4,h5,h6⟩:=MK hx
 obtain⟨hi,hla⟩:=QQ ha
 have hlt:i.toNat<l.length:=(List.getElem?_eq_some_iff.1 hla).1
 cases b with
 | none=>simp_all
 | some p =>
  obtain⟨us,hus,hru⟩:=h5.get hla
  refine⟨_,tK T h1 hj ⟨hi,by omega⟩,?_⟩
  simp only[Rep]
  refine⟨_,us,rfl,hru,XZ hru,fun w' hs=>?_⟩
  have hc:=(h6 w' hs p rfl).drop (i.toNat*τ.n)
  obtain⟨rest,hrest⟩:=SI τ.n cs i.toNat us (Ec.lens h5) hus
  rw[hrest] at hc
  intro q u hq
  refine hc q u ?_
  grind
theorem aB{e sz:Nat}{vs:List Value}(h:w.ownsG 0 e sz v n vs)(hn:0<n):∃ g cap,v=.slice (some ⟨g,0,none⟩) n cap:=by
 rcases h.2 with⟨_,h0⟩|⟨g,cap,cur,fz,rfl,_⟩
 ·omega
 ·exact⟨g,cap,rfl⟩
theorem OW{e sz:Nat}{vs:List Value}(h:w.ownsG 0 e sz v n vs):∃ a cap,v=.slice a n cap:=by
 rcases h.2 with⟨rfl,rfl⟩|⟨g,cap,cur,fz,rfl,_⟩
 ·exact⟨_,_,rfl⟩
 ·exact⟨_,_,rfl⟩
theorem FX{a b:Nat}(h:Nat.beq a b=true):a=b:=za8
theorem A2U(hT:TTok P I T)(h:Zq T hk t (FZ L x) ((FZ L j).bind Jj) K=some r):∃ tr,K tr=some r/\TrOK P I L hk m (.indexAddr t x j) tr:=by
 unfold Zq at h
 try simp only[xM,xN] at h
 split at h
 ·rename_i g i hx hj
  cases hga:A8Y T t g with
  | true =>
   rw[hga,cond_true] at h
   unfold A9W at h
   simp only[NE,Nk] at h
   split at h
   ·rename_i ti hti
    split at h
    ·rename_i n el us hu' hgl
     have hq:=(hT _ _ hti).und
     rw[hu'] at hq
     have hq:P.underlying t=some (.array n el):=hq
     split at h
     ·rename_i e hel
      cases h1:ile0 0 i with
      | false=>simp_all
      | true =>
       cases h2:ilt0 i n with
       | false=>simp_all
       | true =>
        rw[h1,h2] at h
        simp only[cond_true] at h
        have h1:0<=i:=by grind[ile0]
        have h2:i<n:=by grind[ilt0]
        refine⟨_,h,TrOK.mk0 fun ty=>DN fun c ev hG he=>?_⟩
        obtain⟨kk,hjv⟩:=IR he hj
        have hv:=he x _ hx
        simp only[Rep] at hv
        obtain⟨inf,hinf,hs⟩:=Option.map_eq_some_iff.1 (hT _ _ hel).sz
        obtain⟨h3,h4⟩:=hT.ga _ _ _ _ hti hgl
        refine⟨.pointer (some ⟨g,i.toNat*e.size,none⟩),?_,?_⟩
        ·have h5:execOp ev ⟨none,.indexAddr t x j,ty, "", #[],none⟩=(do pure (.value (<-Instr.indexAt t (ev x) (ev j)))):=rfl
         rw[h5,hv,hjv]
         simp only[Instr.indexAt,asIntOf,Sem.run_bind,Sem.run_pure,Result.andThen_ok,run_underlying hq,Instr.sureAddr]
         simp_all[sizeOf,typeInfo,add_lit]
        ·simp only[Rep]
         refine⟨_,us.drop (i.toNat*e.size),rfl,Jo c _,fun u hu=>h3 u (List.mem_of_mem_drop hu),fun w' hw' j u hu=>?_⟩
         have:=h4 w' (hG.inv w' hw') (i.toNat*e.size+j) u (by rw[List.getElem?_drop] at hu;exact hu)
         (rw[show(Addr.add ⟨g,i.toNat*e.size,none⟩ j:Addr)=⟨g,i.toNat*e.size+j,none⟩ from by unfold Addr.add;split<;>simp_all];exact this)
     ·cases h
    ·cases h
   ·cases h
  | false =>
  rw[hga,cond_false] at h
  unfold A9V at h
  simp only[NE,Nk] at h
  split at h
  ·rename_i ti hti
   split at h
   ·rename_i n el l hu' hgl
    have hq:=(hT _ _ hti).und
    rw[hu'] at hq
    have hq:P.underlying t=some (.array n el):=hq
    split at h
    ·rename_i e hel
     cases h0:Nat.beq e.size 1 with
     | false=>simp_all
     | true =>
      cases h1:ile0 0 i with
      | false=>simp_all
      | true =>
       cases h2:ilt0 i n with
       | false=>simp_all
       | true =>
        rw[h0,h1,h2] at h
        simp only[cond_true] at h
        obtain⟨xx,hxx,h⟩:=Option.bind_eq_some_iff.1 h
        have h1:0<=i:=by grind[ile0]
        have h2:i<n:=by grind[ilt0]
        have hxx:l[i.toNat]?=some xx:=by simp_all[LJ,lget0]
        refine⟨_,h,TrOK.mk0 fun ty=>DN fun c ev hG he=>?_⟩
        obtain⟨kk,hjv⟩:=IR he hj
        have hv:=he x _ hx
        simp only[Rep] at hv
        obtain⟨inf,hinf,hs⟩:=Option.map_eq_some_iff.1 (hT _ _ hel).sz
        refine⟨.pointer (some ⟨g,i.toNat,none⟩),?_,?_⟩
        ·have h3:execOp ev ⟨none,.indexAddr t x j,ty, "", #[],none⟩=(do pure (.value (<-Instr.indexAt t (ev x) (ev j)))):=rfl
         rw[h3,hv,hjv]
         simp only[Instr.indexAt,asIntOf,Sem.run_bind,Sem.run_pure,Result.andThen_ok,run_underlying hq,Instr.sureAddr]
         simp_all[sizeOf,typeInfo,add_lit]
        ·simp only[Rep]
         refine⟨_,[wordV xx],rfl,by simp[Af,Rep],by simp[Value.oneCell',wordV],fun w' hw' j u hu=>?_⟩
         cases j with
         | zero =>
          obtain rfl:wordV xx=u:=zaU
          have:=hT.gl _ _ _ _ hti hgl w' (hG.inv w' hw') _ _ hxx
          simp_all[add_lit]
         | succ j=>simp at hu
    ·cases h
   ·cases h
  ·cases h
 ·rename_i k o i hx hj
  split at h
  ·rename_i n el hu
   obtain⟨ti,hti,hu'⟩:=JH hu
   have hq:=(hT _ _ hti).und
   rw[hu'] at hq
   have hq:P.underlying t=some (.array n el):=hq
   split at h
   ·rename_i e hel
    cases h1:ile0 0 i with
    | false=>simp_all
    | true =>
     cases h2:ilt0 i n with
     | false=>simp_all
     | true =>
      rw[h1,h2] at h
      have h1:0<=i:=by grind[ile0]
      have h2:i<n:=by grind[ilt0]
      refine⟨_,h,TrOK.mk0 fun ty=>DN fun c ev hG he=>?_⟩
      obtain⟨kk,hjv⟩:=IR he hj
      have hv:=he x _ hx
      simp only[Rep] at hv
      obtain⟨hN,b,hb,hu⟩:=hv
      obtain⟨inf,hinf,hs⟩:=Option.map_eq_some_iff.1 (hT _ _ hel).sz
      refine⟨.pointer (some ⟨b,o+i.toNat*e.size,none⟩),?_,by simp only[Rep];simp_all⟩
      have h3:execOp ev ⟨none,.indexAddr t x j,ty, "", #[],none⟩=(do pure (.value (<-Instr.indexAt t (ev x) (ev j)))):=rfl
      rw[h3,hu,hjv]
      simp only[Instr.indexAt,asIntOf,Sem.run_bind,Sem.run_pure,Result.andThen_ok,run_underlying hq,Instr.sureAddr]
      simp_all[sizeOf,typeInfo,add_lit]
   ·cases h
  ·cases h
 ·rename_i a i hgp hne hx hj
  split at h
  ·rename_i el ei hsl
   obtain⟨z,hS,hte,_⟩:=J3 hT hsl
   split at h
   ·rename_i τ l
    cases h1:Nat.beq ei.size τ.n with
    | false=>simp_all
    | true =>
     rw[h1] at h
     rw[FX h1] at hS
     simp only[cond_true] at h
     obtain⟨a,ha,h⟩:=Option.bind_eq_some_iff.1 h
     refine⟨_,h,TrOK.mk0 fun ty=>DN fun c ev hG he=>?_⟩
     obtain⟨kk,hjv⟩:=IR he hj
     have hv:=he x _ hx
     simp only[Rep] at hv
     exact xU hS hv hjv ha
   ·rename_i τ l
    cases h1:Nat.beq ei.size τ.n with
    | false=>simp_all
    | true =>
     rw[h1] at h
     rw[FX h1] at hS
     simp only[cond_true] at h
     obtain⟨a,ha,h⟩:=Option.bind_eq_some_iff.1 h
     refine⟨_,h,TrOK.mk0 fun ty=>DN fun c ev hG he=>?_⟩
     obtain⟨kk,hjv⟩:=IR he hj
     have hv:=he x _ hx
     simp only[Rep] at hv
     exact xU hS hv.2 hjv ha
   ·rename_i k
    split at h
    ·rename_i e τ l hkk
     cases h1:Nat.beq ei.size τ.n with
     | false=>simp_all
     | true =>
      cases h2:linb0 l i with
      | false=>simp_all
      | true =>
       rw[h1,h2] at h
       rw[FX h1] at hS
       have h2:0<=i/\i<l.length:=by grind[linb0]
       refine⟨_,h,TrOK.look hkk fun c ev ty hG he hN hH hO=>?_⟩
       obtain⟨kk,hjv⟩:=IR he hj
       have hv:=he x _ hx
       simp only[Rep] at hv
       obtain⟨vs,h3,h4,h5⟩:=hH
       obtain⟨g,cap,hg⟩:=aB h3 zaa
       refine⟨_,tK hS (hv.2.1.trans hg) hjv h2,?_⟩
       simp only[Rep,add_lit]
       exact⟨hN,g,by rw[hg];rfl,by simp⟩
    ·rename_i e sz n cells hkk
     cases h1:Nat.beq ei.size sz with
     | false=>simp_all
     | true =>
      cases h2:ile0 0 i with
      | false=>simp_all
      | true =>
       cases h3:ilt0 i n with
       | false=>simp_all
       | true =>
        rw[h1,h2,h3] at h
        rw[FX h1] at hS
        have h2:0<=i:=by grind[ile0]
        have h3:i<n:=by grind[ilt0]
        refine⟨_,h,TrOK.look hkk fun c ev ty hG he hN hH hO=>?_⟩
        obtain⟨kk,hjv⟩:=IR he hj
        have hv:=he x _ hx
        simp only[Rep] at hv
        obtain⟨vs,h4,h5,h6⟩:=hH
        obtain⟨g,cap,hg⟩:=aB h4 zaa
        refine⟨_,tK hS (hv.2.1.trans hg) hjv ⟨h2,h3⟩,?_⟩
        simp only[Rep,add_lit]
        exact⟨hN,g,by rw[hg];rfl,by simp⟩
    ·cases h
   ·cases h
  ·cases h
 ·cases h
theorem A6K(hT:TTok P I T)(h:zo T t (FZ L x) ((FZ L j).bind Jj) K=some r):∃ tr,K tr=some r/\TrOK P I L hk m (.index t x j) tr:=by
 unfold zo at h
 try simp only[xM,xN] at h
 split at h
 ·rename_i l i hx hj hu
  obtain⟨ti,hti,hu'⟩:=JH hu
  have hq:=(hT _ _ hti).und
  rw[hu'] at hq
  have hq:P.underlying t=some .string:=hq
  obtain⟨a,ha,h⟩:=Option.bind_eq_some_iff.1 h
  obtain⟨hi,hla⟩:=QQ ha
  refine⟨_,h,TrOK.mk0 fun ty=>DN fun c ev hG he=>?_⟩
  obtain⟨kk,hjv⟩:=IR he hj
  have hv:=he x _ hx
  simp only[Rep] at hv
  refine⟨byteV a,?_,by simp only[Rep]⟩
  have h3:execOp ev ⟨none,.index t x j,ty, "", #[],none⟩=(do pure (.value (<-Instr.index t (ev x) (ev j)))):=rfl
  have hget:(if 0<=i then(⟨l.toArray⟩:ByteArray)[i.toNat]? else none)=some a:=by
   rw[if_pos hi]
   have hlt:i.toNat<l.length:=(List.getElem?_eq_some_iff.1 hla).1
   have hsz:i.toNat<(⟨l.toArray⟩:ByteArray).size:=by grind[ByteArray.size]
   rw[getElem?_pos (⟨l.toArray⟩:ByteArray) i.toNat hsz]
   have:=(List.getElem?_eq_some_iff.1 hla).2
   rw[<-this]
   rfl
  rw[h3,hv,hjv]
  simp only[Instr.index,asIntOf,Sem.run_bind,Sem.run_pure,Result.andThen_ok,run_underlying hq,hget]
  rfl
 ·rename_i l i n el hx hj hu
  obtain⟨ti,hti,hu'⟩:=JH hu
  have hq:=(hT _ _ hti).und
  rw[hu'] at hq
  have hq:P.underlying t=some (.array n el):=hq
  split at h
  ·rename_i e hel
   cases h0:(scalar e.u&&Nat.beq e.size 1&&Nat.beq l.length n) with
   | false =>
    rw[h0,cond_false] at h
    cases h3:(!scalar e.u&&Nat.beq l.length (n*e.size)) with
    | false=>rw[h3] at h;cases h
    | true =>
     rw[h3,cond_true] at h
     cases h1:ile0 0 i with
     | false=>simp_all
     | true =>
      cases h2:ilt0 i n with
      | false=>simp_all
      | true =>
       rw[h1,h2] at h
       simp only[Bool.and_eq_true,Bool.not_eq_true'] at h3
       have h1:0<=i:=by grind[ile0]
       have h2:i<n:=by grind[ilt0]
       simp only[cond_true] at h
       obtain⟨s,hs,h⟩:=Ky h
       refine⟨_,h,TrOK.mk0 fun ty=>DN fun c ev hG he=>?_⟩
       obtain⟨kk,hjv⟩:=IR he hj
       have hv:=he x _ hx
       simp only[Rep] at hv
       obtain⟨us,hu,hr,hone⟩:=hv
       obtain⟨d,hd,hpd⟩:=(hT _ _ hel).plain
       obtain⟨v,hv2,hrv⟩:=Xo (P:=P) (w:=c.w) (o:=i.toNat*e.size) (n:=e.size) hd (hT _ _ hel).sz (by rw[hpd,h3.1];exact hs) hr hone
       refine⟨v,?_,hrv⟩
       have h5:execOp ev ⟨none,.index t x j,ty, "", #[],none⟩=(do pure (.value (<-Instr.index t (ev x) (ev j)))):=rfl
       obtain⟨inf,hinf,hsz⟩:=Option.map_eq_some_iff.1 (hT _ _ hel).sz
       simp_all[Instr.index,asIntOf,run_underlying,sizeOf,typeInfo]
   | true =>
    cases h1:ile0 0 i with
    | false=>simp_all
    | true =>
     cases h2:ilt0 i n with
     | false=>simp_all
     | true =>
      rw[h0,h1,h2] at h
      simp only[Bool.and_eq_true] at h0
      have h1:0<=i:=by grind[ile0]
      have h2:i<n:=by grind[ilt0]
      simp only[cond_true] at h
      obtain⟨s,hs,h⟩:=Ky h
      refine⟨_,h,TrOK.mk0 fun ty=>DN fun c ev hG he=>?_⟩
      obtain⟨kk,hjv⟩:=IR he hj
      have hv:=he x _ hx
      simp only[Rep] at hv
      obtain⟨us,hu,hr,hone⟩:=hv
      obtain⟨d,hd,hpd⟩:=(hT _ _ hel).plain
      obtain⟨v,hv2,hrv⟩:=Xo (P:=P) (w:=c.w) (o:=i.toNat) (n:=e.size) hd (hT _ _ hel).sz (by rw[hpd,h0.1.1];simp only[IP,cond_true,List.head?_drop];exact hs) hr hone
      refine⟨v,?_,hrv⟩
      have h3:execOp ev ⟨none,.index t x j,ty, "", #[],none⟩=(do pure (.value (<-Instr.index t (ev x) (ev j)))):=rfl
      obtain⟨inf,hinf,hsz⟩:=Option.map_eq_some_iff.1 (hT _ _ hel).sz
      have he1:e.size=1:=FX h0.1.2
      simp_all[Instr.index,asIntOf,run_underlying,sizeOf,typeInfo]
  ·cases h
 ·cases h
theorem Tf{e:Operand->Value}{el:TypeId}{a:Option Addr}{cap:Nat}(ht:P.underlying t=some (.slice el))(hx:e x=.slice a n cap):
  (execOp e ⟨none,.call {callee:=.builtin .len,args := #[x],argTypes := #[t]},ty, "", #[],none⟩).run P w=.ok (.value (.int .i64 (n:Int))) w :=
 FD e _ _ _ (by simp[builtin,Builtin.len_,hx,run_underlying ht,goInt])
theorem A2V(hT:TTok P I T)(h:Zt T t hk (FZ L x) K=some r):∃ tr,K tr=some r/\TrOK P I L hk m (.call {callee:=.builtin .len,args := #[x],argTypes := #[t]}) tr:=by
 have slU:∀ {el},X0 T t=some (.sl el)->P.underlying t=some (.slice el):=by
  intro el hu
  obtain⟨ti,hti,hu'⟩:=JH hu
  have hq:=(hT _ _ hti).und
  simp_all
 unfold Zt at h
 try simp only[xM,xN] at h
 split at h
 ·rename_i el τ l hu hx
  refine⟨_,h,TrOK.mk0 fun ty=>DN fun c ev hG he=>?_⟩
  have hv:=he x _ hx
  simp only[Rep] at hv
  obtain⟨a,cap,cs,h1,_⟩:=MK hv
  exact⟨_,Tf (slU hu) h1,by simp only[Rep];rfl⟩
 ·rename_i el τ l hu hx
  refine⟨_,h,TrOK.mk0 fun ty=>DN fun c ev hG he=>?_⟩
  have hv:=he x _ hx
  simp only[Rep] at hv
  obtain⟨a,cap,cs,h1,_⟩:=MK hv.2
  exact⟨_,Tf (slU hu) h1,by simp only[Rep];rfl⟩
 ·rename_i el hu hx
  refine⟨_,h,TrOK.mk0 fun ty=>DN fun c ev hG he=>?_⟩
  have hv:=he x _ hx
  simp only[Rep] at hv
  exact⟨_,Tf (slU hu) hv,by grind[Rep]⟩
 ·rename_i l hu hx
  obtain⟨ti,hti,hu'⟩:=JH hu
  have hq:=(hT _ _ hti).und
  rw[hu'] at hq
  have hq:P.underlying t=some .string:=hq
  refine⟨_,h,TrOK.mk0 fun ty=>DN fun c ev hG he=>?_⟩
  have hv:=he x _ hx
  simp only[Rep] at hv
  refine⟨.int .i64 ((⟨l.toArray⟩:ByteArray).size:Int),FD ev _ _ _ (by simp[builtin,Builtin.len_,hv,run_underlying hq,goInt]),by simp only[Rep];rfl⟩
 ·rename_i el k hu hx
  split at h
  ·rename_i e τ l hkk
   refine⟨_,h,TrOK.look hkk fun c ev ty hG he hN hH hO=>?_⟩
   have hv:=he x _ hx
   simp only[Rep] at hv
   obtain⟨vs,h3,_⟩:=hH
   obtain⟨a,cap,hg⟩:=OW h3
   exact⟨_,Tf (slU hu) (hv.2.1.trans hg),by simp only[Rep];rfl⟩
  ·rename_i e sz n cells hkk
   refine⟨_,h,TrOK.look hkk fun c ev ty hG he hN hH hO=>?_⟩
   have hv:=he x _ hx
   simp only[Rep] at hv
   obtain⟨vs,h3,_⟩:=hH
   obtain⟨a,cap,hg⟩:=OW h3
   exact⟨_,Tf (slU hu) (hv.2.1.trans hg),by simp only[Rep]⟩
  ·cases h
 ·cases h
end
end Go.Ax
namespace Go.Ax
open Go Go.RowKit Go.Eng
variable {t:TypeId}{base:Nat}{l:List UInt8}{x:Operand}{e:Nat}{olo lo:Option Operand}{a:AV}{cap sz n:Nat}{w:World}{G:Fp}{isS:Bool}{il:Int}{v:Value}{xs:List Value}
theorem fM(c:Cx):∀(l:List UInt8),Af c (flatL .u8 l) (l.map fun b=>Value.int .u8 b.toNat)
 | []=>by simp[flatL,Af]
 | x::l=>by
  simp only[flatL,flat,List.map_cons,List.cons_append,List.nil_append,Af]
  exact⟨_,_,rfl,by simp only[Rep];rfl,fM c l⟩
theorem OX(h:w.ownsG base e sz v n xs):∀ b,blk v=some b->base<=b/\b<w.heap.size:=by
 intro b hb
 rcases h.2 with⟨rfl,_⟩|⟨g,cap,cur,fz,rfl,h2,h3,h4⟩
 ·cases hb
 ·simp only[blk,Option.some.injEq] at hb
  subst hb
  exact⟨h2,(Array.getElem?_eq_some_iff.1 h3).1⟩
theorem own_base{base':Nat}(h:w.ownsG base e sz v n xs)(hb:base'<=base):w.ownsG base' e sz v n xs:=by
 refine⟨h.1,?_⟩
 rcases h.2 with h2|⟨g,cap,cur,fz,h1,h2,h3⟩
 ·exact .inl h2
 ·exact .inr ⟨g,cap,cur,fz,h1,Nat.le_trans hb h2,h3⟩
theorem Ti(v:Value)(h:∃ a n c,v=.slice a n c):blk v=v.ownBlock:=by
 obtain⟨a,n,c,rfl⟩:=h
 cases a<;>rfl
theorem Ns(h:w.ownsG base e sz v n xs):∃ a n c,v=.slice a n c:=by
 rcases h.2 with⟨rfl,_⟩|⟨g,cap,cur,fz,rfl,_⟩
 ·exact⟨_,_,_,rfl⟩
 ·exact⟨_,_,_,rfl⟩
theorem Ok.newM{c:Cx}{k e sz n:Nat}{Rr:Rs}{cells:List AV}{v:Value}{vs:List Value}{w':World}(hk:¬c.N k)(hG:∀ b,c.O b->b<c.w.heap.size)(hs:Stp No c.w w')(ho:w'.ownsG 0 e sz v n vs)(hbl:∀ b,blk v=some b->c.w.heap.size<=b)(hr:Af c cells vs)(h1:∀ u∈vs,u.oneCell'=true)
  (hR:∀ c',IC c' k e sz n cells->Holds c' k Rr):Ok c [] [(k,Rr)] (.nm k) v w' (fun q=>if q=k then v else c.ν q):=by
 have hle:Cx.Le none c ⟨fun q=>c.N q\/q=k,fun q=>if q=k then v else c.ν q,fun b=>c.O b\/blk v=some b,w'⟩ :=
  ⟨fun q _ h=>⟨.inl h,if_neg fun(e:q=k)=>hk (e▸h)⟩,fun w'' h=>hs.then h (fun i _ h=>h.elim) fun i hi hO=>by
   grind⟩
 refine Ok.new hk hs (fun b hb=>⟨hbl b hb,(OX ho b hb).2⟩) (hR _ ⟨vs,?_,Af.le hle _ _ (Dc _) hr,h1⟩) ?_
 ·simp_all
 ·simp only[Rep];exact⟨.inr trivial,by simp,TU ho⟩
section
variable {P:Program}{I:World->Prop}{L:LX}{ty:TypeId}{T:TT}{R:Type}{K:Tr->Option R}{r:R}{hk:Nat->Option Rs}{m:Nat}
theorem Xp(G:Fp):Dj G []:=fun k _ h=>Hf k h
theorem TrOK.giveUp{op:Op}{s:AV}(hx:(FZ L x).bind (rdA hk)=some (a,G)) (h:∀(c:Cx) (e:Operand->Value) (ty:TypeId),Rep c a (e x)->(∀ o i,(FZ L o).bind Jj=some i->∃ k,e o=.int k i)->∃ v,(execOp e ⟨none,op,ty, "", #[],none⟩).run P c.w=.ok (.value v) c.w/\Rep c s v):TrOK P I L hk m op ⟨s,G,[],G.isEmpty,0⟩:=by
 obtain⟨s0,h1,h2⟩:=Option.bind_eq_some_iff.1 hx
 obtain⟨g1,g2,g3⟩:=SH h2
 refine⟨fun ty=>GV fun c e hG he hP=>?_,g1,fun k hk=>absurd hk (Hf k),fun hr=>by simp_all⟩
 have hres:=fun k R hk=>hP.res k R hk
 have hr:=g3 c _ (he x _ h1) hres G (fun b h=>h)
 obtain⟨v,hv,hrv⟩:=h (c.less G) e ty hr (fun o i ho=>IR he ho)
 obtain⟨ν',ok⟩:=Ok.pure (c:=c.less G) (w':=c.w) hrv (Stp.refl _ _)
 have:=Ok.consume (Xp G) ok
 rw[List.append_nil] at this
 exact⟨v,c.w,ν',hv,this⟩
theorem TrOK.lend{op:Op}{s:AV}(hx:(FZ L x).bind (rdA hk)=some (a,G))(hs:noRd s=true) (h:∀(c:Cx) (e:Operand->Value) (ty:TypeId),Rep c a (e x)->∃ v,(execOp e ⟨none,op,ty, "", #[],none⟩).run P c.w=.ok (.value v) c.w/\Rep c s v):TrOK P I L hk m op ⟨s,G,G,true,0⟩:=by
 obtain⟨s0,h1,h2⟩:=Option.bind_eq_some_iff.1 hx
 obtain⟨g1,g2,g3⟩:=SH h2
 refine⟨fun ty=>GV fun c e hG he hP=>?_,g1,fun k hk=>.inl hk,fun _=>rfl⟩
 have hr:=g3 c _ (he x _ h1) (fun k R hk=>hP.res k R hk) G (fun b h=>h)
 obtain⟨v,hv,hrv⟩:=h (c.less G) e ty hr
 exact⟨v,c.w,c.ν,hv,Ok.same hG.lt (fun k R hk=>hP.res k R hk) (fun k k' R R' b h h'=>hP.dist k k' R R' b h h') (Rep.noRd (O:=(c.less G).O) s v hs hrv)⟩
theorem OY{β:Type}(sz:Nat):∀(n:Nat) (cs:List (List β)),(∀ c∈cs,c.length=sz)->(cs.drop n).flatten=cs.flatten.drop (n*sz)
 | 0,cs,_|n+1,[],_=>zat
 | n+1,a::cs,h=>by
  have ha:=h a (List.mem_cons_self ..)
  rw[List.drop_succ_cons,OY sz n cs (fun c hc=>h c (List.mem_cons_of_mem _ hc)),List.flatten_cons,Nat.add_mul,Nat.one_mul,Nat.add_comm,<-List.drop_drop]
  simp_all
theorem OZ{β:Type}(sz:Nat):∀(n:Nat) (cs:List (List β)),(∀ c∈cs,c.length=sz)->(cs.take n).flatten=cs.flatten.take (n*sz)
 | 0,cs,_|n+1,[],_=>zat
 | n+1,a::cs,h=>by
  have ha:=h a (List.mem_cons_self ..)
  rw[List.take_succ_cons,List.flatten_cons,List.flatten_cons,OZ sz n cs (fun c hc=>h c (List.mem_cons_of_mem _ hc)),Nat.add_mul,Nat.one_mul,Nat.add_comm,<-ha,List.take_length_add_append]
theorem Lt{α:Type}{l l':List α}{lo hi:Int}(h:lcut0 l lo hi=some l'):0<=lo/\lo<=hi/\hi<=l.length/\l'=(l.drop lo.toNat).take (hi.toNat-lo.toNat):=by
 unfold lcut0 at h
 grind
theorem fO{τ:Ty}{l:List (El τ)}{a:Option Addr}{lo hi mx:Nat}(h:Rd τ l (.slice a l.length cap) w)(b1:lo<=hi)(b2:hi<=l.length)(b3:hi<=mx)(b4:mx<=cap):Rd τ ((l.drop lo).take (hi-lo)) (.slice (if mx=lo then a else a.map (·.add (lo*τ.n))) (hi-lo) (mx-lo)) w:=by
 obtain⟨cs,h1,a',cap',h2,h3,h4,h5,h6,h7⟩:=h
 simp only[Value.slice.injEq] at h2
 obtain⟨rfl,_,rfl⟩:=h2
 have hl:=Ec.crlens h1
 have hl2:∀ c∈cs.drop lo,c.length=τ.n:=fun c hc=>hl c (List.mem_of_mem_drop hc)
 refine⟨(cs.drop lo).take (hi-lo),(h1.drop lo).take _,?_⟩
 rw[OZ τ.n _ _ hl2,OY τ.n _ _ hl,show((l.drop lo).take (hi-lo)).length=hi-lo from by grind]
 exact A9N h3 h4 h5 h6 h7 b1 b2 b3 b4
theorem Hg{e:Operand->Value}{t el:TypeId}{z:Value}{sz bytes n cap l h mx:Nat}{x:Operand}{olo ohi omx:Option Operand}{a:Option Addr}{w:World}(T:SliceT P t el z sz bytes)(hx:e x=.slice a n cap)(hb:(Instr.sliceBounds true n cap (olo.map e) (ohi.map e) (omx.map e)).run P w=.ok (l,h,mx) w):
  (execOp e ⟨none,.slice t x olo ohi omx,ty, "", #[],none⟩).run P w=.ok (.value (.slice (if mx=l then a else a.map (·.add (l*sz))) (h-l) (mx-l))) w:=by
 have h1:execOp e ⟨none,.slice t x olo ohi omx,ty, "", #[],none⟩=(do pure (.value (<-Instr.sliceAt t (e x) (olo.map e) (ohi.map e) (omx.map e)))):=rfl
 grind[Sem.run_bind,dm,Result.andThen_ok,Sem.run_pure]
def tN(e:Operand->Value)(olo:Option Operand)(lo:Int):Prop:=match olo with|none=>lo=0|some o=>∃ k,e o=.int k lo
theorem sb0{e:Operand->Value}{lo:Int}(hl:tN e olo lo)(b1:0<=lo)(b2:lo<=n):(Instr.sliceBounds isS n cap (olo.map e) none none).run P w=.ok (lo.toNat,n,cap) w:=by
 cases olo with
 | none=>simp_all[tN,Instr.sliceBounds]
 | some o=>obtain⟨k,hk⟩:=hl;simp_all[Instr.sliceBounds,Ic]
theorem sb1{e:Operand->Value}{oh:Operand}{lo hi:Int}{k:IntKind}(hl:tN e olo lo)(hh:e oh=.int k hi)(b1:0<=lo)(b2:lo<=hi)(b3:hi<=cap):(Instr.sliceBounds isS n cap (olo.map e) (some (e oh)) none).run P w=.ok (lo.toNat,hi.toNat,cap) w:=by
 cases olo with
 | none=>simp_all[tN,Instr.sliceBounds,Ic]
 | some o=>obtain⟨k2,hk⟩:=hl;simp only[Instr.sliceBounds,Option.map_some,hk,hh,Sem.run_bind,Sem.run_pure,Result.andThen_ok,Ic k hi cap _ zaa b3,Ic k2 lo hi.toNat _ b1 zaa]
theorem sb2{e:Operand->Value}{oh om:Operand}{lo hi:Int}{k k':IntKind}(hl:tN e olo lo)(hh:e oh=.int k hi)(hm:e om=.int k' hi)(b1:0<=lo)(b2:lo<=hi)(b3:hi<=cap):(Instr.sliceBounds isS n cap (olo.map e) (some (e oh)) (some (e om))).run P w=.ok (lo.toNat,hi.toNat,hi.toNat) w:=by
 cases olo with
 | none=>simp only[tN] at hl;subst hl;simp only[Instr.sliceBounds,Option.map_none,hh,hm,Sem.run_bind,Sem.run_pure,Result.andThen_ok,Ic k' hi cap _ zaa b3,Ic k hi hi.toNat _ zaa zaa];rfl
 | some o=>obtain⟨k2,hk⟩:=hl;simp only[Instr.sliceBounds,Option.map_some,hk,hh,hm,Sem.run_bind,Sem.run_pure,Result.andThen_ok,Ic k' hi cap _ zaa b3,Ic k hi hi.toNat _ zaa zaa,Ic k2 lo hi.toNat _ b1 zaa]
theorem Vx{i:Int}(h:(match lo with|some o=>(FZ L o).bind Jj|none=>some 0)=some i){e:Operand->Value}(hn:∀ o i,(FZ L o).bind Jj=some i->∃ k,e o=.int k i):tN e lo i:=by
 cases lo with
 | none=>exact(Option.some.inj h).symm
 | some o=>exact hn o i h
theorem A6L(l:List UInt8)(lo hi:Nat):(⟨l.toArray⟩:ByteArray).extract lo hi=⟨((l.drop lo).take (hi-lo)).toArray⟩:=by
 apply ByteArray.ext
 simp_all
theorem A2W:∀ {i:Int},isZ i=true->i=0
 | .ofNat 0,_=>rfl
 | .ofNat (_+1),h|.negSucc _,h=>za0
theorem aC(a:Option Addr):a.map (·.add 0)=a:=by cases a with|none=>rfl|some p=>simp[Addr.add]
theorem A02(hT:TTok P I T){hi:Option Operand}(hlo:(match lo with|some o=>(FZ L o).bind Jj|none=>some 0)=some il)(h:V8 T hk t (FZ L x) il (hi.map fun o=>(FZ L o).bind Jj) K=some r):∃ tr,K tr=some r/\TrOK P I L hk m (.slice t x lo hi none) tr:=by
 unfold V8 at h
 simp only[NE,fA] at h
 split at h
 ·rename_i k el ei ih hx hsl hh
  obtain⟨oh,rfl,hoh⟩:∃ q,hi=some q/\(FZ L q).bind Jj=some ih:=by
   simp_all
  obtain⟨z,hS,_⟩:=J3 hT hsl
  split at h
  ·rename_i e τ l hkk
   cases h1:Nat.beq ei.size τ.n with
   | false=>simp_all
   | true =>
   cases hz:(isZ il&&isZ ih) with
   | true =>
    rw[h1,hz] at h
    have h1:=FX h1
    simp only[Bool.and_eq_true] at hz
    obtain⟨z1,z2⟩:=hz
    obtain rfl:=A2W z1
    obtain rfl:=A2W z2
    refine⟨_,h,TrOK.look hkk fun c ev ty hG he hN hH hO=>?_⟩
    have hv:=he x _ hx
    simp only[Rep] at hv
    have hn:∀ o i,(FZ L o).bind Jj=some i->∃ k,ev o=.int k i:=fun o i ho=>IR he ho
    obtain⟨kh,hkh⟩:=hn oh 0 hoh
    have hr:=IC.reads hH (O':=fun _=>False) (fun b hb=>hb.elim) c.w (Stp.refl _ _)
    obtain⟨cs,hc1,a,cap,hc2,hc3,hc4,hc5,hc6,hc7⟩:=hr
    have hux:ev x=.slice a l.length cap:=zaL
    have hb:=sb1 (P:=P) (w:=c.w) (isS:=true) (n:=l.length) (cap:=cap) (Vx hlo hn) hkh (Int.le_refl 0) (Int.le_refl 0) zaa
    rw[h1] at hS
    refine⟨_,Hg hS hux hb,?_⟩
    simp only[Rep]
    intro w' hs'
    refine⟨[],trivial,if cap=(0:Int).toNat then a else a.map (·.add ((0:Int).toNat*τ.n)),cap-(0:Int).toNat,rfl,by simp,by simp,by omega,fun e=>?_,fun p hp j u hu=>by cases hu⟩
    have:a=none:=by
     simp only[Int.toNat_zero,Nat.zero_mul,aC,ite_self] at e
     exact e
    exact⟨rfl,by have:=(hc6 this).2;omega⟩
   | false =>
   cases h2:ile0 0 il with
   | false=>simp_all
   | true =>
   cases h3:ile0 il ih with
   | false=>simp_all
   | true =>
   cases h4:ile0 ih (llen0 l) with
   | false=>simp_all
   | true =>
   rw[h1,hz,h2,h3,h4] at h
   have h1:=FX h1
   have b1:0<=il:=of_decide_eq_true h2
   have b2:il<=ih:=of_decide_eq_true h3
   have b3:ih<=(l.length:Int):=of_decide_eq_true h4
   refine⟨_,h,TrOK.look hkk fun c ev ty hG he hN hH hO=>?_⟩
   have hv:=he x _ hx
   simp only[Rep] at hv
   have hn:∀ o i,(FZ L o).bind Jj=some i->∃ k,ev o=.int k i:=fun o i ho=>IR he ho
   obtain⟨kh,hkh⟩:=hn oh ih hoh
   have hr:=IC.reads hH (O':=fun _=>False) (fun b hb=>hb.elim) c.w (Stp.refl _ _)
   obtain⟨cs,hc1,a,cap,hc2,hc3,hc4,hc5,hc6,hc7⟩:=hr
   have hux:ev x=.slice a l.length cap:=zaL
   have hb:=sb1 (P:=P) (w:=c.w) (isS:=true) (n:=l.length) (cap:=cap) (Vx hlo hn) hkh b1 b2 zaa
   rw[h1] at hS
   refine⟨_,Hg hS hux hb,?_⟩
   simp only[Rep]
   grind
  ·cases h
 ·cases h
theorem A2X(hT:TTok P I T)(hlo:(match lo with|some o=>(FZ L o).bind Jj|none=>some 0)=some il)(h:Zx T hk t (FZ L x) il K=some r):∃ tr,K tr=some r/\TrOK P I L hk m (.slice t x lo none none) tr:=by
 unfold Zx at h
 simp only[TW] at h
 split at h
 ·rename_i k el ei hx hsl
  obtain⟨z,hS,_⟩:=J3 hT hsl
  split at h
  ·rename_i e τ l hkk
   cases h1:Nat.beq ei.size τ.n with
   | false=>simp_all
   | true =>
   cases h2:ieq0 il 0 with
   | false=>simp_all
   | true =>
   rw[h1,h2] at h
   have h1:=FX h1
   obtain rfl:il=0:=by grind[ieq0]
   refine⟨_,h,TrOK.look hkk fun c ev ty hG he hN hH hO=>?_⟩
   have hv:=he x _ hx
   have hv0:=hv
   simp only[Rep] at hv
   have hn:∀ o i,(FZ L o).bind Jj=some i->∃ k,ev o=.int k i:=fun o i ho=>IR he ho
   have hr:=IC.reads hH (O':=fun _=>False) (fun b hb=>hb.elim) c.w (Stp.refl _ _)
   obtain⟨cs,hc1,a,cap,hc2,hc3,hc4,hc5,hc6,hc7⟩:=hr
   have hux:ev x=.slice a l.length cap:=zaL
   have hb:=sb0 (P:=P) (w:=c.w) (isS:=true) (n:=l.length) (cap:=cap) (Vx hlo hn) (Int.le_refl 0) zaa
   rw[h1] at hS
   refine⟨_,Hg hS hux hb,?_⟩
   have:(Value.slice (if cap=(0:Int).toNat then a else a.map (·.add ((0:Int).toNat*τ.n))) (l.length-(0:Int).toNat) (cap-(0:Int).toNat))=ev x:=by
    rw[hux]
    simp only[Int.toNat_zero,Nat.zero_mul,Nat.sub_zero,aC,ite_self]
   rw[this]
   exact hv0
  ·cases h
 ·cases h
theorem A2Y(hT:TTok P I T){hi mx:Option Operand}(hx:(FZ L x).bind (rdA hk)=some (a,G))(hlo:(match lo with|some o=>(FZ L o).bind Jj|none=>some 0)=some il)(h:Zr T t a G il (hi.map fun o=>(FZ L o).bind Jj) (mx.map fun o=>(FZ L o).bind Jj) K=some r):∃ tr,K tr=some r/\TrOK P I L hk m (.slice t x lo hi mx) tr:=by
 have hiN:∀ {o:Option Operand},(o.map fun o=>(FZ L o).bind Jj)=none->o=none:=zaL
 have hiS:∀ {o:Option Operand} {i:Int},(o.map fun o=>(FZ L o).bind Jj)=some (some i)->∃ q,o=some q/\(FZ L q).bind Jj=some i:=by
  simp_all
 unfold Zr at h
 try simp only[xM,xN] at h
 split at h
 ·rename_i l hu
  -- a string
  have hG:G=[]:=by
   obtain⟨s0,h1,h2⟩:=Option.bind_eq_some_iff.1 hx
   unfold rdA at h2
   grind
  obtain⟨ti,hti,hu'⟩:=JH hu
  have hq:=(hT _ _ hti).und
  rw[hu'] at hq
  have hq:P.underlying t=some .string:=hq
  subst hG
  have fin:∀ {l':List UInt8} {ih:Int},lcut0 l il ih=some l'->(∀(e:Operand->Value) (w:World),(∀ o i,(FZ L o).bind Jj=some i->∃ k,e o=.int k i)->(Instr.sliceBounds false l.length l.length (lo.map e) (hi.map e) none).run P w=.ok (il.toNat,ih.toNat,l.length) w)->mx=none->TrOK P I L hk m (.slice t x lo hi mx) (.pure (.str l')):=by
   intro l' ih hl' hb hmx
   subst hmx
   obtain⟨b1,b2,b3,rfl⟩:=Lt hl'
   refine TrOK.giveUp (G:=[]) hx fun c e ty hr hn=>?_
   simp only[Rep] at hr
   refine⟨.string ⟨((l.drop il.toNat).take (ih.toNat-il.toNat)).toArray⟩,?_,by simp only[Rep]⟩
   have h1:execOp e ⟨none,.slice t x lo hi none,ty, "", #[],none⟩=(do pure (.value (<-Instr.sliceAt t (e x) (lo.map e) (hi.map e) none))):=rfl
   have h2:=hb e c.w hn
   rw[h1,hr]
   simp only[Instr.sliceAt,Instr.slice,Sem.run_bind,run_underlying hq,Result.andThen_ok]
   simp_all[ByteArray.size,A6L]
  split at h
  ·rename_i e1 e2
   obtain⟨l',hl',h⟩:=Option.bind_eq_some_iff.1 h
   obtain⟨b1,b2,b3,_⟩:=Lt hl'
   refine⟨_,h,fin hl' (fun e w hn=>?_) (hiN e2)⟩
   obtain rfl:=hiN e1
   have:=sb0 (P:=P) (w:=w) (cap:=l.length) (isS:=false) (Vx hlo hn) b1 (by simpa [llen0] using b2)
   simp_all[llen0]
  ·rename_i ih e1 e2
   obtain⟨l',hl',h⟩:=Option.bind_eq_some_iff.1 h
   obtain⟨b1,b2,b3,_⟩:=Lt hl'
   obtain⟨oh,rfl,hoh⟩:=hiS e1
   refine⟨_,h,fin hl' (fun e w hn=>?_) (hiN e2)⟩
   obtain⟨k,hk'⟩:=hn oh ih hoh
   exact sb1 (P:=P) (w:=w) (isS:=false) (Vx hlo hn) hk' b1 b2 b3
  ·cases h
 ·rename_i a _ _ _
  split at h
  ·rename_i τ l el ei hs hsl
   obtain⟨z,hS,_⟩:=J3 hT hsl
   cases h1:Nat.beq ei.size τ.n with
   | false=>simp_all
   | true =>
    rw[h1] at h
    rw[FX h1] at hS
    simp only[cond_true] at h
    have hread:∀ {c:Cx} {v:Value},Rep c a v->∀ w',Stp c.O c.w w'->Rd τ l v w':=by
     intro c v hr
     unfold A8Z at hs
     split at hs
     ·simp only[Option.some.injEq,Sigma.mk.injEq] at hs;obtain⟨rfl,hh⟩:=hs;obtain rfl:=eq_of_heq hh;simp_all[Rep]
     ·simp only[Option.some.injEq,Sigma.mk.injEq] at hs;obtain⟨rfl,hh⟩:=hs;obtain rfl:=eq_of_heq hh;simp_all[Rep]
     ·cases hs
    split at h
    ·rename_i e1 e2
     obtain⟨l',hl',h⟩:=Option.bind_eq_some_iff.1 h
     obtain⟨b1,b2,b3,rfl⟩:=Lt hl'
     obtain rfl:=hiN e1
     obtain rfl:=hiN e2
     refine⟨_,h,TrOK.giveUp hx fun c e ty hr hn=>?_⟩
     have hrd:=hread hr
     obtain⟨b,cap,cs,hv,q1,q2,_⟩:=MK hrd
     refine⟨_,Hg (olo:=lo) (l:=il.toNat) (h:=l.length) (mx:=cap) hS hv (sb0 (Vx hlo hn) b1 zaa),?_⟩
     ·simp only[Rep]
      intro w' hs'
      have h0:=hrd w' hs'
      rw[hv] at h0
      have:=fO (lo:=il.toNat) (hi:=l.length) (mx:=cap) h0 zaa (Nat.le_refl _) q1 (Nat.le_refl _)
      simp_all[llen0]
    ·rename_i ih e1 e2
     obtain⟨l',hl',h⟩:=Option.bind_eq_some_iff.1 h
     obtain⟨b1,b2,b3,rfl⟩:=Lt hl'
     obtain⟨oh,rfl,hoh⟩:=hiS e1
     obtain rfl:=hiN e2
     refine⟨_,h,TrOK.giveUp hx fun c e ty hr hn=>?_⟩
     have hrd:=hread hr
     obtain⟨b,cap,cs,hv,q1,q2,_⟩:=MK hrd
     obtain⟨k,hk'⟩:=hn oh ih hoh
     refine⟨_,Hg (olo:=lo) (ohi:=some oh) (l:=il.toNat) (h:=ih.toNat) (mx:=cap) hS hv (sb1 (Vx hlo hn) hk' b1 b2 zaa),?_⟩
     ·simp only[Rep]
      intro w' hs'
      have h0:=hrd w' hs'
      rw[hv] at h0
      exact fO (lo:=il.toNat) (hi:=ih.toNat) (mx:=cap) h0 zaa zaa zaa (Nat.le_refl _)
    ·rename_i ih im e1 e2
     cases he:ieq0 ih im with
     | false=>simp_all
     | true =>
      rw[he] at h
      have he:ih=im:=by grind[ieq0]
      subst he
      simp only[cond_true] at h
      obtain⟨l',hl',h⟩:=Option.bind_eq_some_iff.1 h
      obtain⟨b1,b2,b3,rfl⟩:=Lt hl'
      obtain⟨oh,rfl,hoh⟩:=hiS e1
      obtain⟨om,rfl,hom⟩:=hiS e2
      refine⟨_,h,TrOK.giveUp hx fun c e ty hr hn=>?_⟩
      have hrd:=hread hr
      obtain⟨b,cap,cs,hv,q1,q2,_⟩:=MK hrd
      obtain⟨k,hk'⟩:=hn oh ih hoh
      obtain⟨k2,hk2⟩:=hn om ih hom
      refine⟨_,Hg (olo:=lo) (ohi:=some oh) (omx:=some om) (l:=il.toNat) (h:=ih.toNat) (mx:=ih.toNat) hS hv (sb2 (Vx hlo hn) hk' hk2 b1 b2 zaa),?_⟩
      ·simp only[Rep]
       refine⟨⟨_,_,rfl⟩,fun w' hs'=>?_⟩
       have h0:=hrd w' hs'
       rw[hv] at h0
       exact fO (lo:=il.toNat) (hi:=ih.toNat) (mx:=ih.toNat) h0 zaa zaa (Nat.le_refl _) zaa
    ·cases h
  ·cases h
theorem kZ{c:Cx}:∀ {cells:List AV} {l:List UInt32} {us:List Value},unW cells=some l->Af c cells us->us=l.map wordV
 | [],l,us,h,hr=>by
  simp_all[unW,Af]
 | .u32 x::r,l,us,h,hr=>by
  simp only[unW] at h
  split at h
  ·rename_i l' hl
   obtain rfl:=Option.some.inj h
   simp only[Af,Rep] at hr
   obtain⟨u,q,rfl,rfl,hq⟩:=hr
   rw[List.map_cons,kZ hl hq]
  ·cases h
theorem kw{w:World}:∀(l:List UInt32),Ec (fun x c=>CR .u32 x c w) l (l.map fun x=>[wordV x])
 | []=>trivial
 | x::l=>⟨by simp only[CR],kw l⟩
theorem Xq:∀(l:List UInt32),(l.map fun x=>[wordV x]).flatten=l.map wordV
 | []=>rfl
 | x::l=>by rw[List.map_cons,List.flatten_cons,Xq l];rfl
theorem kz:∀ {us:List Value} {l:List UInt8},unB us=some l->us=l.map byteV
 | [],l,h=>by cases h;rfl
 | u::us,l,h=>by
  unfold unB at h
  split at h
  ·rename_i e;cases e
  ·rename_i n r e
   obtain⟨rfl,rfl⟩:=List.cons.inj e
   cases hb:Nat.blt n 256 with
   | false=>rw[hb] at h;cases h
   | true =>
    rw[hb,cond_true] at h
    split at h
    ·rename_i l' hl
     obtain rfl:=Option.some.inj h
     have hn:n<256:=by simpa [Nat.blt_eq] using hb
     rw[List.map_cons,<-kz hl]
     simp[byteV,Nat.mod_eq_of_lt hn]
    ·cases h
  ·cases h
theorem PR{w:World}:∀(l:List UInt8),Ec (fun x c=>CR .u8 x c w) l (l.map fun x=>[byteV x])
 | []=>trivial
 | x::l=>⟨by simp only[CR],PR l⟩
theorem Xr:∀(l:List UInt8),(l.map fun x=>[byteV x]).flatten=l.map byteV
 | []=>rfl
 | x::l=>by rw[List.map_cons,List.flatten_cons,Xr l];rfl
theorem A03(hT:TTok P I T)(h:V6 T t (FZ L x) K=some r):∃ tr,K tr=some r/\TrOK P I L hk m (.slice t x none none none) tr:=by
 unfold V6 at h
 split at h
 ·rename_i g hx
  split at h
  ·rename_i ti hti
   split at h
   ·rename_i n el us hu' hgl
    have hq:=(hT _ _ hti).und
    rw[hu'] at hq
    have hq:P.underlying t=some (.array n el):=hq
    split at h
    ·rename_i e hel
     cases h0:(Nat.beq e.size 1&&Nat.beq us.length n&&Nat.ble n 1000) with
     | false=>simp_all
     | true =>
      rw[h0,cond_true] at h
      simp only[Bool.and_eq_true] at h0
      have hlen:=FX h0.1.2
      have hn:n<=1000:=Nat.le_of_ble_eq_true h0.2
      have hs1:(P.info? el).map (·.size)=some 1:=by rw[(hT _ _ hel).sz,FX h0.1.1]
      split at h
      ·rename_i l hl
       obtain rfl:=kz hl
       have hll:l.length=n:=by simpa using hlen
       obtain⟨h3,h4⟩:=hT.ga _ _ _ _ hti hgl
       refine⟨_,h,TrOK.mk0 fun ty=>DN fun c ev hG he=>?_⟩
       have hv:=he x _ hx
       simp only[Rep] at hv
       refine⟨.slice (some ⟨g,0,none⟩) n n,?_,?_⟩
       ·have h1:execOp ev ⟨none,.slice t x none none none,ty, "", #[],none⟩=(do pure (.value (<-Instr.sliceAt t (ev x) none none none))):=rfl
        rw[h1,hv]
        simp only[Instr.sliceAt,Sem.run_bind,run_underlying hq,Result.andThen_ok,Instr.sureAddr,Sem.run_pure,Instr.sliceBounds,TM hs1]
        simp[Addr.add]
       ·simp only[Rep]
        intro w' hw'
        refine⟨l.map fun x=>[byteV x],PR l,?_⟩
        rw[Xr,hll]
        refine⟨some ⟨g,0,none⟩,n,rfl,by simp[hll,Ty.n],Nat.le_refl _,Nat.le_trans hn zaj,(fun h=>by cases h),fun p hp=>?_⟩
        obtain rfl:=Option.some.inj hp
        intro j u hu
        have:=h4 w' (hG.inv w' hw') j u hu
        cases j<;>simpa [Addr.add] using this
      ·cases h
    ·cases h
   ·cases h
  ·cases h
 ·cases h
theorem A04(hT:TTok P I T)(h:V7 T hk t (FZ L x) K=some r):∃ tr,K tr=some r/\TrOK P I L hk m (.slice t x none none none) tr:=by
 unfold V7 at h
 split at h
 ·rename_i k hx
  split at h
  ·rename_i n el cells hu hkk
   obtain⟨ti,hti,hu'⟩:=JH hu
   have hq:=(hT _ _ hti).und
   rw[hu'] at hq
   have hq:P.underlying t=some (.array n el):=hq
   split at h
   ·rename_i e hel
    cases h0:(Nat.beq e.size 1&&Nat.beq cells.length n&&Nat.ble n 1000) with
    | false=>simp_all
    | true =>
     rw[h0,cond_true] at h
     simp only[Bool.and_eq_true] at h0
     have hlen:=FX h0.1.2
     have hn:n<=1000:=Nat.le_of_ble_eq_true h0.2
     obtain⟨inf,hinf,hs⟩:=Option.map_eq_some_iff.1 (hT _ _ hel).sz
     have hs1:(P.info? el).map (·.size)=some 1:=zaL
     split at h
     ·rename_i l hl
      have hkF:Ez k [(k,Rs.var cells)]=some (.var cells):=by simp[Ez]
      have hkO:∀ k' R,Ez k' [(k,Rs.var cells)]=some R->k'=k/\R=.var cells:=by
       grind[Ez,FX]
      refine⟨_,h,⟨fun ty=>GV fun c ev hG he hP=>?_,fun k' R hk'=>?_,fun k' hk'=>absurd hk' (Hf k'),fun hr=>by cases hr⟩⟩
      ·obtain⟨hN,hH,hO⟩:=hP.res k (.var cells) hkF
       obtain⟨b,us,hb,hB,hR,hone⟩:=hH
       obtain rfl:=kZ hl hR
       have hll:l.length=n:=by have:=hR.len;grind
       have hv:=he x _ hx
       simp only[Rep] at hv
       obtain⟨-,b',hb',hv⟩:=hv
       obtain rfl:b=b':=by simp_all[blk]
       refine⟨.slice (some ⟨b,0,none⟩) n n,c.w,c.ν,?_,⟨fun _ _=>rfl,?_,(fun k' R hk'=>by cases hk'),(fun k' k2 R R' b2 hk'=>by cases hk'),Stp.refl _ _⟩⟩
       ·have h1:execOp ev ⟨none,.slice t x none none none,ty, "", #[],none⟩=(do pure (.value (<-Instr.sliceAt t (ev x) none none none))):=rfl
        rw[h1,hv]
        simp only[Instr.sliceAt,Sem.run_bind,run_underlying hq,Result.andThen_ok,Instr.sureAddr,Sem.run_pure,Instr.sliceBounds,TM hs1]
        simp[Addr.add]
       ·simp only[Rep]
        refine⟨⟨_,_,rfl⟩,fun w' hw'=>⟨l.map fun x=>[wordV x],kw l,?_⟩⟩
        rw[Xq,hll]
        have hbl:c.w.heap[b]?=w'.heap[b]?:=by
         refine(hw'.block b hB.lt ?_).symm
         rintro(⟨-,h2⟩|⟨k',R,h2,-⟩)
         ·exact h2 ⟨k,_,hkF,by rw[hb];rfl⟩
         ·cases h2
        obtain⟨T',hT'⟩:=id hB
        refine⟨some ⟨b,0,none⟩,n,rfl,by simp[hll,Ty.n],Nat.le_refl _,?_,(fun h=>by cases h),fun p hp=>?_⟩
        ·exact Nat.le_trans hn zaj
        ·obtain rfl:=Option.some.inj hp
         have hB':Un w' b (l.map wordV):=⟨T',by grind⟩
         exact hB'.cs 0
      grind
     ·cases h
   ·cases h
  ·cases h
 ·cases h
theorem X4(hT:TTok P I T)(h:SG T t=true):P.underlying t=some (.int .u8):=by
 unfold SG at h
 split at h
 ·rename_i hu
  obtain⟨ti,hti,hu'⟩:=JH hu
  have hq:=(hT _ _ hti).und
  simp_all
 ·cases h
theorem KE(hT:TTok P I T){u:Und}(h:X0 T t=some u):∃ i,TOK P t i/\i.u=u:=by
 obtain⟨i,hi,hu⟩:=JH h
 exact⟨i,hT _ _ hi,hu⟩
theorem A2Z(h:Rd .u8 l v w):Bytes w v l:=by
 obtain⟨cs,h1,h2⟩:=h
 have:∀(l:List UInt8) (cs:List (List Value)),Ec (fun(x:El .u8) c=>CR .u8 x c w) l cs->cs.flatten=l.map byteV:=by
  intro l
  induction l with
  | nil=>intro cs h;cases cs with|nil=>rfl|cons _ _=>exact h.elim
  | cons a l ih =>
   intro cs h
   cases cs with
   | nil=>exact h.elim
   | cons c cs =>
    have h1:=h.1
    simp only[CR] at h1
    rw[List.flatten_cons,h1,ih cs h.2];rfl
 rw[this l cs h1] at h2
 exact h2
theorem xW{src dst e':TypeId}{e:Operand->Value}(hs:P.underlying src=some (.slice e'))(he':P.underlying e'=some (.int .u8))(hd:P.underlying dst=some .string)(hB:Bytes w (e x) l):
  (execOp e ⟨none,.convert src dst x,ty, "", #[],none⟩).run P w=.ok (.value (.string ⟨l.toArray⟩)) w:=by
 obtain⟨a,cap,hv,hl,h3,h4,h5,h6⟩:=hB
 have h1:execOp e ⟨none,.convert src dst x,ty, "", #[],none⟩=(do pure (.value (<-convert src dst (e x)))):=rfl
 have:=A9O (P:=P) (L:=[(0,.v (.slice a l.length cap))]) (w:=w) (ty:=ty) (x:=.tmp 0) (K:=fun s w'=>s=.v (.string ⟨l.toArray⟩)/\w'=w) hs he' hd rfl ⟨a,cap,rfl,hl,h3,h4,h5,h6⟩ ⟨rfl,rfl⟩ (fun o=>match o with|.tmp 0=>.slice a l.length cap|.const v=>v|.tmp _=>undef|.global g=>.pointer (some ⟨g,0,none⟩)|.func f=>.func (.func f) #[] #[]) (by
  intro o s ho
  cases o with
  | tmp t =>
   simp only[RD] at ho
   rw[Eng.lkp_cons] at ho
   split at ho
   ·rename_i e0;subst e0;obtain rfl:=Option.some.inj ho;rfl
   ·cases ho
  | const v=>grind[RD,SV.den_of]
  | global g=>simp only[RD,Option.some.injEq] at ho;subst ho;rfl
  | func g=>simp only[RD,Option.some.injEq] at ho;subst ho;rfl)
 unfold ja at this
 have h2:∀ e2:Operand->Value,e2 (.tmp 0)=.slice a l.length cap->execOp e2 ⟨none,.convert src dst (.tmp 0),ty, "", #[],none⟩=(do pure (.value (<-convert src dst (.slice a l.length cap)))):=fun e2 h=>by
  show(do pure (.value (<-convert src dst (e2 (.tmp 0)))):Sem Next)=_
  rw[h]
 rw[h2 _ rfl] at this
 rw[h1,hv]
 have hc:(convert src dst (.slice a l.length cap)).run P w=(Conv.bytesToString (.slice a l.length cap)).run P w:=by
  simp only[convert,Sem.run_bind,run_underlying hs,run_underlying hd,Result.andThen_ok,run_underlying he']
 generalize hres:(convert src dst (.slice a l.length cap)).run P w=res at this
 simp only[Sem.run_bind,hres] at this ⊢
 cases res with
 | halt x w'=>exact this.elim
 | ok v w' =>
  simp only[Result.andThen_ok,Sem.run_pure] at this ⊢
  obtain⟨s,h1,h2,h3⟩:=this
  subst h2;subst h3
  rw[<-h1];rfl
theorem A05{P:Program}{ty t e e' base n:Nat}{x:Operand}{ρ:Operand->Value}{v:Value}{vs:List Value}{w:World}(ht:P.underlying t=some (.slice e))(he:P.underlying e=some (.int .u8))(hx:ρ x=v)(ho:w.ownsG base e' 1 v n vs)(hn:0<n):
  ∃ w',(execOp ρ ⟨none,.convert t t x,ty, "", #[],none⟩).run P w=.ok (.value v) w'/\Sl w' 1 v vs n/\Stp (fun b=>blk v=some b) w w':=by
 have hs:=Sl.of_ownG ho
 rcases ho.2 with⟨_,h0⟩|⟨g,cap,cur,fz,rfl,hb,hg,_⟩
 ·omega
 have hsh:w.shape? g=some (e',cur.size):=by simp[World.shape?,hg]
 refine⟨w.freeze ⟨g,cur.size,none⟩ 1,?_,?_,?_⟩
 ·have h1:execOp ρ ⟨none,.convert t t x,ty, "", #[],none⟩=(do pure (.value (<-convert t t (ρ x)))):=rfl
  rw[h1,hx]
  simp[convert,run_underlying ht,run_underlying he,markStringish,hsh]
 ·obtain⟨a,cap',he',h2,h3,h4,h5,h6⟩:=hs
  exact⟨a,cap',he',h2,h3,h4,h5,fun p hp j u hu=>by rw[jr];exact h6 p hp j u hu⟩
 ·exact(Stp.of_grown (XW w g cur.size 1)).mono fun i _ h=>by rw[Option.some.injEq] at h;rw[h];rfl
theorem A06(hT:TTok P I T){s d:TypeId}{k:Nat}(h:sameRow T hk s d (FZ L x)=some (k,e,l)):TrOK P I L hk m (.convert s d x) ⟨.sl .u8 l,[(k,.row e .u8 l)],[],false,0⟩:=by
 unfold sameRow at h
 split at h
 ·rename_i k' hx
  split at h
  ·rename_i el hu
   cases hb:(Nat.beq s d&&SG T el) with
   | false=>rw[hb] at h;cases h
   | true =>
    rw[hb,cond_true] at h
    rw[Bool.and_eq_true] at hb
    obtain rfl:=FX hb.1
    split at h
    ·rename_i e' a l' hkk
     simp only[Option.some.injEq,Prod.mk.injEq] at h
     obtain⟨rfl,rfl,rfl⟩:=h
     obtain⟨is,his,hus⟩:=KE hT hu
     have h1:=his.und
     rw[hus] at h1
     refine⟨fun ty=>GV fun c e0 hG he hP=>?_,fun q R hq=>?_,fun q hq=>absurd hq (Hf q),fun hq=>by cases hq⟩
     ·obtain⟨hN,hH,hO⟩:=Jn hP
      obtain⟨vs,hown,hr,h1c⟩:=hH
      have hv:=he x _ hx
      simp only[Rep] at hv
      obtain⟨w',hrun,hS,hst⟩:=A05 (ty:=ty) (P:=P) h1 (X4 hT hb.2) hv.2.1 hown zat
      have hfb:∀ b,ER c.ν [(k',Rs.row e' .u8 (a::l'))] b↔blk (c.ν k')=some b:=by
       intro b
       constructor
       ·rintro⟨q,R0,h,h2⟩
        rw[DF] at h
        split at h
        ·rename_i hq;rw[<-hq];exact h2
        ·cases h
       ·intro h;exact⟨k',_,by rw[DF,if_pos rfl],h⟩
      refine⟨_,w',c.ν,hrun,⟨fun _ _=>rfl,?_,(fun q R h=>by cases h),(fun q q' R R' b h=>by cases h),hst.mono fun i _ h=>(hfb i).2 h⟩⟩
      simp only[Rep]
      intro w'' hs
      have hbytes:∃ cs,Ec (fun x cc=>CR .u8 x cc w'') (a::l') cs/\vs=cs.flatten:=by
       obtain⟨cs,h2,h3⟩:=Af.flatL hr
       refine⟨cs,Ec.mono (fun x us hh=>?_) h3,h2⟩
       simp only[flat,Af,Rep] at hh
       obtain⟨u,t,rfl,rfl,rfl⟩:=hh
       simp only[CR]
      obtain⟨cs,h2,h3⟩:=hbytes
      refine⟨cs,h2,?_⟩
      rw[<-h3]
      obtain⟨p,cap,hvv,g2,g3,g4,g5,g6⟩:=hS
      refine⟨p,cap,hvv,g2,g3,g4,g5,fun q hq j u hu=>?_⟩
      have hc:=g6 q hq j u hu
      have hlt:=World.block_lt_of_cell? w' _ hc
      rw[World.cell?_of_block (hs.block (q.add j).block hlt ?_)]
      ·exact hc
      ·rw[add_block]
       have hbq:blk (c.ν k')=some q.block:=by rw[hvv,hq];rfl
       rintro(⟨_,hno⟩|⟨q2,R2,hq2,_⟩)
       ·exact hno ((hfb _).2 hbq)
       ·cases hq2
     ·rw[DF] at hq
      split at hq
      ·rename_i hqq;rw[hqq,<-Option.some.inj hq];exact hkk
      ·cases hq
    ·cases h
  ·cases h
 ·cases h
theorem fP(hT:TTok P I T){s d:TypeId} (h:(match sameRow T hk s d (FZ L x) with
  | some (k,e,l)=>K ⟨.sl .u8 l,[(k,.row e .u8 l)],[],false,0⟩
  | none=>(match X0 T s,X0 T d,(FZ L x).bind (rdA hk) with
   | some .str,some (.sl el),some (.str l,F)=>bif SG T el then bif fits0 l 1 then K ⟨.nm m,[],[(m,.row el .u8 l)],false,1⟩ else none else none
   | some (.sl el),some .str,some (.sl .u8 l,F)=>bif SG T el then K ⟨.str l,F,F,true,0⟩ else none
   | some (.sl el),some .str,some (.nil,F)=>bif SG T el then K (.pure (.str [])) else none
   | some _,some d,some (a,F)=>PO d a fun s=>K (.pure s)
   | _,_,_=>none))=some r):∃ tr,K tr=some r/\TrOK P I L hk m (.convert s d x) tr:=by
 split at h
 ·grind[A06]
 split at h
 ·rename_i el l F hs hd hx
  cases hb:SG T el with
  | false=>simp_all
  | true =>
   rw[hb,cond_true] at h
   cases hf:fits0 l 1 with
   | false=>simp_all
   | true =>
   rw[hf,cond_true] at h
   simp only[fits0,decide_eq_true_eq] at hf
   obtain⟨is,his,hus⟩:=KE hT hs
   obtain⟨id,hid,hud⟩:=KE hT hd
   have h1:=his.und
   rw[hus] at h1
   have h2:=hid.und
   rw[hud] at h2
   obtain⟨s0,hx0,hx1⟩:=Option.bind_eq_some_iff.1 hx
   have hs0:s0=.str l:=by
    unfold rdA at hx1
    grind
   subst hs0
   refine⟨_,h,TrOK.mkN fun c e ty hG he hnew=>?_⟩
   have hv:=he x _ hx0
   simp only[Rep] at hv
   obtain⟨v,w',q1,q2,q3,q4⟩:=A9P (P:=P) (w:=c.w) s d el ⟨l.toArray⟩ h1 h2 (X4 hT hb) (by show l.toArray.size<=maxLen;grind[maxLen])
   have hsz:(⟨l.toArray⟩:ByteArray).size=l.length:=by show l.toArray.size=_;simp
   rw[hsz] at q2
   have hst:Stp No c.w w':=(Stp.of_grown q3).mono fun i _ h=>za0
   refine⟨v,w',?_,_,Ok.newM (cells:=flatL .u8 l) hnew hG.lt hst (own_base q2 (Nat.zero_le _)) (fun b hb=>?_) ?_ ?_ (fun c' hh=>hh)⟩
   ·have h1:execOp e ⟨none,.convert s d x,ty, "", #[],none⟩=(do pure (.value (<-convert s d (e x)))):=rfl
    simp_all
   ·exact(OX q2 b hb).1
   ·simp_all[fM]
   ·intro u hu
    simp only[List.toList_toArray,List.mem_map] at hu
    obtain⟨b,_,rfl⟩:=hu;rfl
 ·rename_i el l F hs hd hx
  cases hb:SG T el with
  | false=>simp_all
  | true =>
   rw[hb] at h
   obtain⟨is,his,hus⟩:=KE hT hs
   obtain⟨id,hid,hud⟩:=KE hT hd
   have h1:=his.und
   rw[hus] at h1
   have h2:=hid.und
   rw[hud] at h2
   refine⟨_,h,TrOK.lend hx rfl fun c e ty hr=>?_⟩
   simp only[Rep] at hr
   exact⟨_,xW h1 (X4 hT hb) h2 (A2Z (hr c.w (Stp.refl _ _))),by simp only[Rep]⟩
 ·rename_i el F hs hd hx
  cases hb:SG T el with
  | false=>simp_all
  | true =>
   rw[hb] at h
   obtain⟨is,his,hus⟩:=KE hT hs
   obtain⟨id,hid,hud⟩:=KE hT hd
   have h1:=his.und
   rw[hus] at h1
   have h2:=hid.und
   rw[hud] at h2
   obtain⟨s0,hx0,hx1⟩:=Option.bind_eq_some_iff.1 hx
   have hs0:s0=.nil:=by
    unfold rdA at hx1
    grind
   subst hs0
   refine⟨_,h,TrOK.mk0 fun ty=>DN fun c e hG he=>?_⟩
   have hv:=he x _ hx0
   simp only[Rep] at hv
   exact⟨_,xW h1 (X4 hT hb) h2 (l:=[]) (by grind[Sl.nil]),by simp only[Rep]⟩
 ·rename_i us ud a F hne0 hne1 hne2 hs hd hx
  obtain⟨is,his,hus⟩:=KE hT hs
  obtain⟨id,hid,hud⟩:=KE hT hd
  obtain⟨s0,hx0,hx1⟩:=Option.bind_eq_some_iff.1 hx
  have hsc:s0=a:=by
   unfold rdA at hx1
   split at hx1
   ·split at hx1
    ·simp only[Option.some.injEq,Prod.mk.injEq] at hx1
     obtain⟨rfl,_⟩:=hx1
     simp[PO] at h
    ·cases hx1
   simp_all
  subst hsc
  obtain⟨sv,hK,hrun⟩:=A01 h his hid hud
  refine⟨_,hK,TrOK.mk0 fun ty=>DN fun c e hG he=>?_⟩
  obtain⟨v,hv,hr⟩:=hrun c (e x) c.w (he x _ hx0)
  refine⟨v,?_,hr⟩
  have h1:execOp e ⟨none,.convert s d x,ty, "", #[],none⟩=(do pure (.value (<-convert s d (e x)))):=rfl
  simp_all
 ·cases h
end
end Go.Ax
namespace Go.Ax
open Go Go.RowKit Go.Eng
variable {t:TypeId}
theorem VJ(τ:Ty)(x:El τ):∀ n,flatL τ (List.replicate n x)=repL n (flat τ x)
 | 0=>rfl
 | n+1=>by rw[List.replicate_succ,flatL,VJ τ x n];rfl
theorem Af.repL{c:Cx}{l:List AV}{us:List Value}(h:Af c l us):∀ n,Af c (Ax.repL n l) (Ax.repL n us)
 | 0=>by simp only[Ax.repL,Af]
 | n+1=>by simp only[Ax.repL];exact h.app (Af.repL h n)
theorem Nu{α:Type}{l:List α}{u:α}:∀ {n:Nat},u∈repL n l->u∈l
 | 0,h=>za0
 | n+1,h=>by simp only[repL] at h;exact(List.mem_append.1 h).elim id Nu
theorem Tj{α:Type}(l:List α):∀ n,(repL n l).length=n*l.length
 | 0=>by simp[repL]
 | n+1=>by simp only[repL,List.length_append,Tj l n,Nat.add_mul];omega
theorem QR(z:Array Value):∀ n,(madeCells z (n*z.size)).toList=repL n z.toList
 | 0=>by simp[madeCells,repL]
 | n+1=>by
  have ih:=QR z n
  simp only[madeCells,Array.toList_map,Array.toList_range] at ih ⊢
  rw[Nat.add_mul,Nat.one_mul,Nat.add_comm,List.range_add,List.map_append,repL]
  congr 1
  ·apply List.ext_getElem
   ·simp
   ·intro i h1 h2
    have hi:i<z.size:=by simpa using h1
    simp[Nat.mod_eq_of_lt hi,hi]
  ·rw[<-ih,List.map_map]
   apply List.map_congr_left
   intro j _
   simp
section
variable {P:Program}{I:World->Prop}{L:LX}{ty:TypeId}{T:TT}{R:Type}{K:Tr->Option R}{r:R}{hk:Nat->Option Rs}{m:Nat}
theorem xX{e:Operand->Value}{l c:Operand}{a b:Value}{v:Value}{w w':World}(hl:e l=a)(hc:e c=b)(h:(Instr.makeSlice t a b).run P w=.ok v w'):(execOp e ⟨none,.makeSlice t l c,ty, "", #[],none⟩).run P w=.ok (.value v) w':=by
 have h1:execOp e ⟨none,.makeSlice t l c,ty, "", #[],none⟩=(do pure (.value (<-Instr.makeSlice t (e l) (e c)))):=rfl
 simp_all
theorem A6M(hT:TTok P I T){l c:Operand}(h:zn T m t (FZ L l) (FZ L c) K=some r):∃ tr,K tr=some r/\TrOK P I L hk m (.makeSlice t l c) tr:=by
 unfold zn at h
 try simp only[xM,xN] at h
 split at h
 ·rename_i el i n c' hsl hl hc
  obtain⟨z,hS,hte,hz,hone,hby⟩:=J3 hT hsl
  split at h
  ·rename_i τ hτ
   split at h
   ·rename_i z0 hunf
    have hn:=hte.ty τ hτ
    rw[TZ] at h
    cases hf:fitn0 c' i.bytes with
    | false=>simp_all
    | true =>
     rw[hf] at h
     simp only[cond_true] at h
     simp only[fitn0,decide_eq_true_eq] at hf
     obtain⟨hc0,hcb⟩:=hf
     have hmax:c'.toNat<=maxLen:=by have:=Nat.le_mul_of_pos_left c'.toNat hby;unfold maxLen;omega
     obtain⟨inf,hi,hz1,hsize,hbytes⟩:=info_parts hS.hi
     have hcc:c'=((c'.toNat:Nat):Int):=zaa
     cases hnc:ieq0 n c' with
     | true =>
      rw[hnc] at h
      have hnc:n=c':=by grind[ieq0]
      subst hnc
      refine⟨_,h,TrOK.mkN fun cx e ty hG he hnew=>?_⟩
      have h1:=he l _ hl
      have h2:=he c _ hc
      simp only[Rep] at h1 h2
      obtain⟨w',hrun,q1,q2⟩:=run_make_full (P:=P) cx.w 0 t el inf z i.size hS.ht hi hz1 hsize .i64 .i64 n.toNat zaU hmax (Nat.zero_le _)
      rw[<-hcc] at hrun
      have hcells:(madeCells z.cells (n.toNat*i.size)).toList=repL n.toNat z.cells.toList:=by rw[<-hS.hzs];exact QR _ _
      rw[hcells] at q1
      refine⟨_,w',xX h1 h2 hrun,_,Ok.newM hnew hG.lt ((Stp.of_grown q2).mono fun i _ h=>by cases h) q1.G (fun b hb=>?_) (Af.repL (l:=flat τ z0) (QP hunf (by grind[Jo])) _) (fun u hu=>List.all_eq_true.1 hone u (Nu hu)) (fun c' hh=>?_)⟩
      ·grind[blk]
      ·show IC c' m el τ.n _ (flatL τ _)
       grind[lrep0,VJ]
     | false =>
      rw[hnc] at h
      simp only[cond_false] at h
      cases hn0:ieq0 n 0 with
      | false=>grind
      | true =>
       rw[hn0] at h
       have hn0:n=0:=by grind[ieq0]
       subst hn0
       refine⟨_,h,TrOK.mkN fun cx e ty hG he hnew=>?_⟩
       have h1:=he l _ hl
       have h2:=he c _ hc
       simp only[Rep] at h1 h2
       obtain⟨w',hrun,q1,q2⟩:=run_make_own (P:=P) cx.w 0 t el inf z i.size hS.ht hi hz1 hsize .i64 .i64 c'.toNat zaU hmax (Nat.zero_le _)
       rw[<-hcc] at hrun
       refine⟨_,w',xX h1 h2 hrun,_,Ok.newM (cells:=[]) hnew hG.lt ((Stp.of_grown q2).mono fun i _ h=>by cases h) q1.G (fun b hb=>?_) (by simp only[Af]) zat (fun c' hh=>?_)⟩
       ·grind[blk]
       ·show IC c' m el τ.n _ (flatL τ _)
        rw[hn];exact hh
   ·cases h
  ·cases h
 ·cases h
theorem fQ{c:Cx}{τ:Ty}:∀ {n:Nat} {l:List AV} {xs:List (El τ)} {us:List Value},sW τ n l=some xs->Af c l us->Af c (flatL τ xs) us/\xs.length=n
 | 0,[],xs,us,h,hr=>by simp only[sW,Option.some.injEq] at h;subst h;exact⟨by simp_all[flatL],rfl⟩
 | 0,_::_,xs,us,h,hr=>by simp[sW] at h
 | n+1,l,xs,us,h,hr=>by
  simp only[sW] at h
  split at h
  ·rename_i x r0 h1
   split at h
   ·rename_i xs' h2
    obtain rfl:=Option.some.inj h
    obtain⟨u1,u2,rfl,h3,h4⟩:=A2O h1 hr
    obtain⟨h5,h6⟩:=fQ h2 h4
    exact⟨by simp only[flatL];exact h3.app h5,by simp[h6]⟩
   ·cases h
  ·cases h
theorem Tm{c:Cx}{ev:Operand->Option AV}{e:Operand->Value}(ps0:List (Nat×Operand))(he:∀ i x s,(i,x)∈ps0->ev x=some s->Rep c s (e x))(pl:List (Nat×Nat))(place:Nat->Option (Nat×Nat))(hpl:∀ i q,pl[i]?=some q->place i=some q):∀(ps:List (Nat×Operand)) (cells:List AV) (us:List Value) (out:List AV),(∀ p∈ps,p∈ps0)->Af c cells us->(∀ u∈us,u.oneCell'=true)->WZ pl ev cells ps=some out ->
  ∃ vs,Instr.fill place us.toArray (ps.map fun(i,x)=>(i,e x))=some vs.toArray/\Af c out vs/\(∀ u∈vs,u.oneCell'=true)/\vs.length=us.length
 | [],cells,us,out,_,h,h1,hb=>by simp only[WZ,Option.some.injEq] at hb;subst hb;exact⟨us,rfl,h,h1,rfl⟩
 | (i,x)::r,cells,us,out,hm,h,h1,hb=>by
  simp only[WZ] at hb
  split at hb
  ·rename_i f n l hp hc
   obtain⟨s,hs,hl⟩:=Option.bind_eq_some_iff.1 hc
   cases hcond:(Nat.beq l.length n&&Nat.ble (f+n) cells.length) with
   | false=>simp_all
   | true =>
    rw[hcond] at hb
    simp only[Bool.and_eq_true,cond_true] at hb hcond
    have hn:l.length=n:=zaL
    have hle:f+n<=cells.length:=zaL
    obtain⟨ws,e1,e2,e3⟩:=Nq (he i x s (hm _ (List.mem_cons_self ..)) hs) hl
    have hwl:=e2.len
    have hul:=h.len
    have:=Tm ps0 he pl place hpl r _ (us.take f++ws++us.drop (f+ws.length)) out (fun p hp=>hm p (List.mem_cons_of_mem _ hp)) (h.set e2 f) (fun u hu=>(xQ hu).elim (h1 u) (e3 u)) hb
    obtain⟨vs,g1,g2,g3,g4⟩:=this
    refine⟨vs,?_,g2,g3,by grind⟩
    simp only[List.map_cons,Instr.fill,hpl i _ hp,e1]
    simp_all[Xn]
  ·cases hb
theorem Xt{w:World}{el:TypeId}{z:Value}{sz bytes len:Nat}{parts:Array (Nat×Value)}{vs:List Value}(S:SliceT P t el z sz bytes)(hmax:len*sz<=16777216)(hf:Instr.fill (fun i=>some (i*sz,sz)) (repL len z.cells.toList).toArray parts.toList=some vs.toArray)(hv:vs.length=len*sz):
  ∃ v w',(Instr.buildSlice t len parts).run P w=.ok v w'/\w'.ownsG 0 el sz v len vs/\Stp No w w'/\∀ b,blk v=some b->w.heap.size<=b:=by
 obtain⟨i,hi,hz,hsize,hby⟩:=info_parts S.hi
 have hown:(w.alloc (.cells vs.toArray el)).ownsG 0 el sz (.slice (some ⟨w.heap.size,0,none⟩) len len) len vs:=by
  refine⟨hv,.inr ⟨w.heap.size,len,_,(0,0),rfl,Nat.zero_le _,heap_alloc_new w _,Nat.le_refl _,?_,by simp[hv],?_,.inr rfl⟩⟩
  ·have:=Nat.le_mul_of_pos_right len S.hsz;unfold maxLen;omega
  grind
 refine⟨_,_,?_,hown,Stp.of_ext (Ext.alloc w _) _,fun b hb=>by simp_all[blk]⟩
 have hmc:((Array.range (len*sz)).map (z.cells[· % z.cells.size]!))=(repL len z.cells.toList).toArray:=by
  apply Array.ext'
  have:=QR z.cells len
  rw[S.hzs] at this
  simp_all[madeCells]
 simp only[Instr.buildSlice,Sem.run_bind,run_underlying S.ht,Result.andThen_ok,S.run_size]
 rw[if_neg zaa]
 by_cases h0:len*sz=0
 ·have hl0:len=0:=by
   rcases Nat.mul_eq_zero.1 h0 with h|h
   ·exact h
   ·have:=S.hsz;omega
  subst hl0
  simp only[repL] at hf
  simp only[Nat.zero_mul,if_true,Sem.run_bind,Sem.run_pure,Result.andThen_ok]
  rw[show Array.range 0 = #[] from rfl,List.map_toArray,List.map_nil,hf]
  simp[newRow]
 simp_all[zeroValue,typeInfo,newRow]
theorem fU{ev:Operand->Option AV}:∀ {ps:List (Nat×Operand)} {i:Nat} {x:Operand} {a:AV} {G:Fp},(i,x)∈ps->(ev x).bind (rdA hk)=some (a,G)->∀ k R,Ez k G=some R->∃ R',Ez k (evG ev hk ps)=some R'
 | (j,y)::ps,i,x,a,G,hm,hx,k,Rr,hkG=>by
  rcases List.mem_cons.1 hm with h|h
  ·simp only[Prod.mk.injEq] at h
   obtain⟨rfl,rfl⟩:=h
   simp_all[evG,Fa]
  ·obtain⟨R',hR'⟩:=fU h hx k Rr hkG
   simp only[evG]
   split
   ·rename_i G' _
    rw[Iy]
    simp_all
   simp_all
theorem Xu:∀ {ps:List (Nat×Operand)} {k:Nat} {Rr:Rs},Ez k (evG (FZ L) hk ps)=some Rr->hk k=some Rr
 | [],k,Rr,h=>za0
 | (j,y)::ps,k,Rr,h=>by
  simp only[evG] at h
  split at h
  ·rename_i a G hx
   obtain⟨s0,_,h2⟩:=Option.bind_eq_some_iff.1 hx
   rw[Iy] at h
   cases hg:Ez k G with
   | some R2=>rw[hg] at h;obtain rfl:=Option.some.inj h;grind[SH]
   | none=>rw[hg] at h;exact Xu h
  ·exact Xu h
theorem A07(hT:TTok P I T)(hm:∀ k R,hk k=some R->k<m){len:Nat}{parts:Array (Nat×Operand)}(h:V5 T (FZ L) hk m t len parts.toList K=some r):∃ tr,K tr=some r/\TrOK P I L hk m (.buildSlice t len parts) tr:=by
 unfold V5 at h
 try simp only[xM,xN] at h
 split at h
 ·rename_i el i hsl
  obtain⟨z,hS,hte,hz,hone,hby⟩:=J3 hT hsl
  have hpl:∀(j:Nat) (q:Nat×Nat),((List.range len).map fun j=>(j*i.size,i.size))[j]?=some q->(fun j=>some (j*i.size,i.size)) j=some q:=by
   grind
  have hzl:z.cells.toList.length=i.size:=by have:=hS.hzs;omega
  cases hb:Nat.ble (len*i.size) 16777216 with
  | false=>simp_all
  | true =>
   rw[hb] at h
   have hb:len*i.size<=16777216:=by simpa using hb
   have exec:∀ {e:Operand->Value} {v:Value} {w w':World} {ty:TypeId},(Instr.buildSlice t len (parts.map fun(i,x)=>(i,e x))).run P w=.ok v w'->(execOp e ⟨none,.buildSlice t len parts,ty, "", #[],none⟩).run P w=.ok (.value v) w':=by
    intro e v w w' ty hr
    have h2:execOp e ⟨none,.buildSlice t len parts,ty, "", #[],none⟩=(do pure (.value (<-Instr.buildSlice t len (parts.map fun(i,x)=>(i,e x))))):=rfl
    simp_all
   simp only[cond_true] at h
   split at h
   ·rename_i τ hτ
    have hn:=hte.ty τ hτ
    cases hnst:A8X τ (FZ L) hk parts.toList with
    | true =>
     rw[hnst,cond_true] at h
     split at h
     ·rename_i cells hbl
      refine⟨_,h,TrOK.mkN fun c e ty hG he hnew=>?_⟩
      obtain⟨vs,g1,g2,g3,g4⟩:=Tm parts.toList (fun j x s _ hs=>he x s hs) _ (fun j=>some (j*i.size,i.size)) hpl parts.toList _ (repL len z.cells.toList) cells (fun p hp=>hp) (by grind[Af.repL,Jo]) (fun u hu=>List.all_eq_true.1 hone u (Nu hu)) hbl
      obtain⟨v,w',hr,ho,hst,hbk⟩:=Xt (P:=P) (w:=c.w) (parts:=parts.map fun(i,x)=>(i,e x)) (vs:=vs) hS hb zaL (by rw[g4,Tj,hzl])
      exact⟨v,w',exec hr,_,Ok.newM hnew hG.lt hst ho hbk g2 g3 fun c' hh=>hh⟩
     ·cases h
    | false =>
    rw[hnst,cond_false] at h
    split at h
    ·rename_i cells hbl
     split at h
     ·rename_i l hunf
      refine⟨_,h,⟨fun ty=>GV fun c e hG he hP=>?_,fun q Rr hq=>Xu hq,fun q hq=>.inr ?_,(fun h=>by cases h)⟩⟩
      ·have hnew:¬c.N m:=(hP.new m ((DK _ _ _).2 rfl)).elim (fun hh=>by grind[Di,Xu]) id
       have hval:∀ j x s,(j,x)∈parts.toList->evR (FZ L) hk x=some s->Rep (c.less (evG (FZ L) hk parts.toList)) s (e x):=by
        intro j x s hm hs
        unfold evR at hs
        split at hs
        ·rename_i a G hx
         obtain rfl:=Option.some.inj hs
         obtain⟨s0,h1,h2⟩:=Option.bind_eq_some_iff.1 hx
         obtain⟨g1,g2,g3⟩:=SH h2
         refine g3 c _ (he x _ h1) (fun k Rr hk'=>?_) _ fun b hb=>?_
         ·obtain⟨R',hR'⟩:=fU hm hx k Rr hk'
          have e1:=Xu hR'
          rw[g1 k Rr hk'] at e1
          obtain rfl:=Option.some.inj e1
          exact hP.res k Rr hR'
         ·obtain⟨k,Rr,hk',hb'⟩:=hb
          obtain⟨R',hR'⟩:=fU hm hx k Rr hk'
          exact⟨k,R',hR',hb'⟩
        ·cases hs
       obtain⟨vs,g1,g2,g3,g4⟩:=Tm parts.toList hval _ (fun j=>some (j*i.size,i.size)) hpl parts.toList _ (repL len z.cells.toList) cells (fun p hp=>hp) (by grind[Af.repL,Jo]) (fun u hu=>List.all_eq_true.1 hone u (Nu hu)) hbl
       obtain⟨h5,h6⟩:=fQ hunf g2
       obtain⟨v,w',hr,ho,hst,hbk⟩:=Xt (P:=P) (w:=c.w) (parts:=parts.map fun(i,x)=>(i,e x)) (vs:=vs) hS hb zaL (by rw[g4,Tj,hzl])
       have ok:=Ok.newM (c:=c.less (evG (FZ L) hk parts.toList)) (k:=m) (Rr:=.row el τ l) hnew (hG.less _).lt hst ho hbk h5 g3 (fun c' hh=>by show IC c' m el τ.n l.length (flatL τ l);simp_all)
       have:=Ok.consume (Xp _) ok
       grind
      simp_all[DK]
     ·cases h
    ·cases h
   ·split at h
    ·rename_i cells hbl
     refine⟨_,h,TrOK.mkN fun c e ty hG he hnew=>?_⟩
     obtain⟨vs,g1,g2,g3,g4⟩:=Tm parts.toList (fun j x s _ hs=>he x s hs) _ (fun j=>some (j*i.size,i.size)) hpl parts.toList _ (repL len z.cells.toList) cells (fun p hp=>hp) (by grind[Af.repL,Jo]) (fun u hu=>List.all_eq_true.1 hone u (Nu hu)) hbl
     obtain⟨v,w',hr,ho,hst,hbk⟩:=Xt (P:=P) (w:=c.w) (parts:=parts.map fun(i,x)=>(i,e x)) (vs:=vs) hS hb zaL (by rw[g4,Tj,hzl])
     exact⟨v,w',exec hr,_,Ok.newM hnew hG.lt hst ho hbk g2 g3 fun c' hh=>hh⟩
    ·cases h
 ·cases h
end
end Go.Ax
namespace Go.Ax
open Go Go.RowKit Go.Eng
variable {c:Cx}{t:TypeId}{x:Operand}{τ:Ty}{v:Value}{w':World}{y:Operand}
section
variable {P:Program}{I:World->Prop}{L:LX}{ty:TypeId}{T:TT}{R:Type}{K:Tr->Option R}{r:R}{hk:Nat->Option Rs}{m:Nat}
theorem A6N{w:World}{t ty' e:Nat}{z:Value}{sz bytes n m cap2:Nat}{v:Value}{xs news:List Value}{p:Addr}(T:SliceT P t e z sz bytes)(hown:w.ownsG 0 e sz v n xs)(hl:news.length=m*sz)(hnews:∀ j u,news[j]?=some u->w.cell? (p.add j)=some u)(h1:∀ u∈news,u.oneCell'=true)
  (hb:(n+m)*bytes<=140737488355328/\0<bytes) :
  ∃ v' w',(Builtin.append_ #[t,t] ty' #[v,.slice (some p) m cap2]).run P w=.ok v' w'/\w'.ownsG 0 e sz v' (n+m) (xs++news)/\Stp (fun b=>blk v=some b) w w'/\∀ b,blk v'=some b->w.heap.size<=b\/blk v=some b:=by
 obtain⟨i,hi,hz,hsize,hby⟩:=info_parts T.hi
 have hmax:n+m<=maxLen:=by have:=Nat.le_mul_of_pos_right (n+m) hb.2;unfold maxLen;omega
 obtain⟨v',w',hr,h2,h3,h4⟩:=TR (P:=P) w 0 t ty' e i z sz bytes T.ht hi hz hsize hby T.hzs T.hsz v n xs hown p m cap2 news hl hnews h1 hmax hb.1 (Nat.zero_le _)
 refine⟨v',w',hr,h2,?_,?_⟩
 ·grind[Ti,Ns,Stp.of_grown]
 ·rcases hown.2 with⟨rfl,rfl⟩|⟨g,cap,cur,fz,rfl,hbg,hg,hnc,hcm,hcs,htake,hfz⟩
  ·have hx:xs=[]:=List.eq_nil_of_length_eq_zero (by simpa using hown.1)
   subst hx
   obtain⟨v2,w2,hr2,k2,_,_⟩:=TR (P:=P) w w.heap.size t ty' e i z sz bytes T.ht hi hz hsize hby T.hzs T.hsz _ 0 [] (World.ownsG_nil w w.heap.size e sz) p m cap2 news hl hnews h1 hmax hb.1 (Nat.le_refl _)
   rw[hr] at hr2
   simp only[Result.ok.injEq] at hr2
   obtain⟨rfl,rfl⟩:=hr2
   exact fun b hb'=>.inl (OX k2 b hb').1
  ·by_cases hroom:n+m<=cap
   ·have hfit:n*i.size+news.length<=cur.size:=by rw[hl,hcs,hsize,<-Nat.add_mul];exact Nat.mul_le_mul_right _ hroom
    have hr2:=TP (P:=P) w t ty' e i T.ht hi g n cap cur fz hg hfz p m cap2 news zaL hnews h1 hroom hfit
    rw[hr] at hr2
    simp only[Result.ok.injEq] at hr2
    obtain⟨rfl,rfl⟩:=hr2
    exact fun b hb'=>.inr hb'
   ·have holds:∀ j u,xs[j]?=some u->w.cell? ((⟨g,0,none⟩:Addr).add j)=some u:=hown.cells (g:=g) rfl
    obtain⟨v2,w2,hr2,k2,_⟩:=run_append_arg_grows (P:=P) w t ty' e i z sz bytes T.ht hi hz hsize hby T.hzs T.hsz ⟨g,0,none⟩ n cap xs hown.1 holds p m cap2 news hl hnews zaa hmax hb.1
    rw[hr] at hr2
    simp only[Result.ok.injEq] at hr2
    obtain⟨rfl,rfl⟩:=hr2
    exact fun b hb'=>.inl (OX k2.G b hb').1
theorem A2a{w:World}{t ty' e:Nat}{z:Value}{sz bytes n:Nat}{v:Value}{xs:List Value}(T:SliceT P t e z sz bytes)(hown:w.ownsG 0 e sz v n xs):(Builtin.append_ #[t,t] ty' #[v,.slice none 0 0]).run P w=.ok v w:=by
 obtain⟨i,hi,hz,hsize,hby⟩:=info_parts T.hi
 exact TQ (P:=P) w 0 t ty' e i sz T.ht hi v n xs hown
theorem PS{w:World}{t ty' e:Nat}{z:Value}{sz bytes n m:Nat}{v u:Value}{xs news:List Value}(T:SliceT P t e z sz bytes)(hown:w.ownsG 0 e sz v n xs)(hsl:Sl w sz u news m)(h1:∀ u∈news,u.oneCell'=true)(hb:(n+m)*bytes<=140737488355328/\0<bytes):
  ∃ v' w',(Builtin.append_ #[t,t] ty' #[v,u]).run P w=.ok v' w'/\w'.ownsG 0 e sz v' (n+m) (xs++news)/\Stp (fun b=>blk v=some b) w w'/\∀ b,blk v'=some b->w.heap.size<=b\/blk v=some b:=by
 obtain⟨a,cap,rfl,hl,_,_,hnone,hcs⟩:=hsl
 cases a with
 | none =>
  obtain⟨rfl,rfl⟩:=hnone rfl
  grind[A2a,Stp.refl]
 | some p=>exact A6N T hown hl (hcs p rfl) h1 hb
theorem A2b{w:World}{t ty' e:Nat}{z:Value}{sz bytes n m:Nat}{v u:Value}{xs news:List Value}(T:SliceT P t e z sz bytes)(hv:Sl w sz v xs n)(ht:A8U v)(hsl:Sl w sz u news m)(h1:∀ u∈news,u.oneCell'=true)(hm:0<m)(hb:(n+m)*bytes<=140737488355328/\0<bytes):
  ∃ v' w',(Builtin.append_ #[t,t] ty' #[v,u]).run P w=.ok v' w'/\w'.ownsG 0 e sz v' (n+m) (xs++news)/\Stp No w w'/\∀ b,blk v'=some b->w.heap.size<=b:=by
 obtain⟨i,hi,hz,hsize,hby⟩:=info_parts T.hi
 obtain⟨a,cap,rfl,e2,e3,e4,e5,e6⟩:=hv
 obtain⟨a',n',hq⟩:=ht
 simp only[Value.slice.injEq] at hq
 obtain⟨_,q1,q2⟩:=hq
 have q3:cap=n:=zaa
 subst q3
 clear q1 q2 e3
 obtain⟨ax,cx,rfl,x2,x3,x4,x5,x6⟩:=hsl
 cases a with
 | none =>
  obtain⟨rfl,_⟩:=e5 rfl
  have hl:xs=[]:=List.eq_nil_of_length_eq_zero zaa
  subst hl
  obtain⟨v',w',r1,r2,r3,r4⟩:=PS (ty':=ty') (n:=0) (xs:=[]) (v:=.slice none 0 0) T (World.ownsG_nil w 0 e sz) ⟨ax,cx,rfl,x2,x3,x4,x5,x6⟩ h1 hb
  refine⟨v',w',r1,r2,r3.mono (fun i _ h=>nomatch h),fun b hb=>?_⟩
  rcases r4 b hb with h|h
  ·exact h
  ·cases h
 | some p =>
  cases ax with
  | none=>simp_all
  | some q =>
   have hcap:cap+m<=maxLen:=by have:=Nat.le_mul_of_pos_right (cap+m) hb.2;unfold maxLen;omega
   obtain⟨v',w',r1,r2,r3⟩:=run_append_arg_grows (P:=P) w t ty' e i z sz bytes T.ht hi hz hsize hby T.hzs T.hsz p cap cap xs e2 (e6 p rfl) q m cx news x2 (x6 q rfl) zaa hcap hb.1
   exact⟨v',w',r1,own_base r2.G (Nat.zero_le _),(Stp.of_grown r3).mono (fun i _ h=>nomatch h),fun b hb=>(OX r2.G b hb).1⟩
theorem Jp{e:Operand->Value}{s:Operand}{t:Nat}{w:World}(h:(Builtin.append_ #[t,t] ty #[e s,e x]).run P w=.ok v w'):
  (execOp e ⟨none,.call {callee:=.builtin .append,args := #[s,x],argTypes := #[t,t]},ty, "", #[],none⟩).run P w=.ok (.value v) w' :=
 FD e _ _ _ (by simp_all[builtin])
theorem QS{b:AV}{l:List (El τ)}(h:We τ b=some l)(hr:Rep c b v):∀ w',Stp c.O c.w w'->Rd τ l v w':=by
 unfold We at h
 split at h
 ·rename_i l' hu
  obtain rfl:=Option.some.inj h
  have:=QP hu (Af.one hr)
  simp_all[flat,Af,Rep]
 ·cases h
theorem Vy{l:List (El τ)}(h:∀ w',Stp c.O c.w w'->Rd τ l v w'):∃ cs,Sl c.w τ.n v cs l.length/\Af c (flatL τ l) cs/\∀ u∈cs,u.oneCell'=true:=by
 obtain⟨a,cap,cs,h1,h2,h3,h4,h5,h6⟩:=MK h
 have hr:=Af.of_flatL h5
 exact⟨cs.flatten,⟨a,cap,h1,by rw[Vt τ.n cs (Ec.lens h5),h5.len],h2,h3,h4,h6 c.w (Stp.refl _ _)⟩,hr,Iu hr⟩
theorem fV{t:Ty}{l:List (El t)}{l':List (El τ)}(h:We τ (.sl t l)=some l'):t=τ/\HEq l l':=by
 unfold We at h
 split at h
 ·rename_i l2 hu
  obtain rfl:=Option.some.inj h
  simp only[Wy] at hu
  split at hu
  ·rename_i l3 h3
   simp only[Option.some.injEq,Prod.mk.injEq,and_true] at hu
   grind[fF]
  ·cases hu
 ·cases h
theorem QT{G F:Fp}{k:Nat}(h:has k F):has k (G++F):=(Gy _ _ _).2 (.inr h)
theorem Ok.lendOr{G F F':Fp}{s:AV}{ν':Nat->Value}(b:Bool)(hj:Dj G F)(hj':Dj G F')(hlt:∀ b,c.O b->b<c.w.heap.size)(hres:∀ k R,Ez k (G++F)=some R->c.N k/\Holds c k R/\∀ b,blk (c.ν k)=some b->c.O b)(hdist:∀ k k' R R' b,Ez k (G++F)=some R->Ez k' (G++F)=some R'->k≠k'->blk (c.ν k)=some b->blk (c.ν k')≠some b)(hs:b=true->noRd s=true)(hF:b=true->NF F'=true)(ok:Ok (c.less G) F F' s v w' ν'):Ok c (G++F) ((bif b then G else [])++F') s v w' ν':=by
 cases b with
 | false=>exact Ok.consume hj ok
 | true=>exact Ok.borrow hj hj' hlt hres hdist (hs rfl) (hF rfl) ok
theorem A2c(hT:TTok P I T)(hm:∀ k R,hk k=some R->k<m)(h:Zu T hk m t (FZ L x) ((FZ L y).bind (rdA hk)) K=some r):∃ tr,K tr=some r/\TrOK P I L hk m (.call {callee:=.builtin .append,args := #[x,y],argTypes := #[t,t]}) tr:=by
 unfold Zu at h
 try simp only[xM,xN] at h
 split at h
 ·rename_i el i a b G hsl hx hy
  rw[TZ] at h
  obtain⟨z,hS,hte,hz,hone,hby⟩:=J3 hT hsl
  obtain⟨s0,hy0,hy1⟩:=Option.bind_eq_some_iff.1 hy
  obtain⟨g1,g2,g3⟩:=SH hy1
  have hGm:∀ q,has q G->q≠m:=fun q hq e=>by grind[Di]
  split at h
  ·rename_i τ hτ
   have hn:=hte.ty τ hτ
   rw[<-hn] at hS
   split at h
   ·rename_i m' hunf
    have hplain:τ.plain=true->∀ l,NF [(m,Rs.row el τ l)]=true:=fun hp l=>by simp[NF,Xf,hp]
    -- a new row out of nothing
    have fresh:∀(l':List (El τ)),fits0 (lapp0 l' m') i.bytes=true->(∀(c:Cx) (e:Operand->Value),Uw c L e->(∀ k Rr,Ez k G=some Rr->c.N k/\Holds c k Rr/\∀ b,blk (c.ν k)=some b->c.O b)->∃ v' w' vs,(Builtin.append_ #[t,t] 0 #[e x,e y]).run P c.w=.ok v' w'/\(∀ ty,(Builtin.append_ #[t,t] ty #[e x,e y]).run P c.w=.ok v' w')/\w'.ownsG 0 el τ.n v' (l'++m').length vs/\Af (c.less G) (flatL τ (l'++m')) vs/\Stp No c.w w'/\∀ b,blk v'=some b->c.w.heap.size<=b) ->
      TrOK P I L hk m (.call {callee:=.builtin .append,args := #[x,y],argTypes := #[t,t]}) ⟨.nm m,G,(bif τ.plain then G else [])++[(m,.row el τ (l'++m'))],false,1⟩:=by
     intro l' hfits hrun
     refine⟨fun ty=>GV fun c e hG he hP=>?_,g1,fun q hq=>?_,(fun h=>by cases h)⟩
     ·have hnew:¬c.N m:=(hP.new m (QT ((DK _ _ _).2 rfl))).elim (fun hh=>absurd rfl (hGm m hh)) id
      have hres:∀ k Rr,Ez k G=some Rr->c.N k/\Holds c k Rr/\∀ b,blk (c.ν k)=some b->c.O b:=fun k Rr hk=>hP.res k Rr hk
      obtain⟨v',w',vs,_,hr,ho,hrp,hst,hbk⟩:=hrun c e he hres
      have ok:=Ok.newM (c:=c.less G) (k:=m) (Rr:=.row el τ (l'++m')) hnew (hG.less _).lt hst ho hbk hrp (Iu hrp) (fun c' hh=>hh)
      have:=Ok.lendOr (F:=[]) τ.plain (Xp G) (fun q hq hq'=>hGm q hq ((DK _ _ _).1 hq')) hG.lt zaU (by rw[List.append_nil];exact hP.dist) (fun _=>rfl) (fun hp=>hplain hp _) ok
      grind[Jp]
     grind[Gy,DK]
    split at h
    ·rename_i k
     split at h
     ·rename_i e' t' l hkk
      split at h
      ·rename_i l' hul
       obtain⟨rfl,hll⟩:=fV hul
       obtain rfl:=eq_of_heq hll
       cases hc:(Nat.beq e' el&&Nat.beq t'.n t'.n&&RF k G) with
       | false=>grind
       | true =>
        cases hf:fits0 (lapp0 l m') i.bytes with
        | false=>simp_all
        | true =>
         rw[hc,hf] at h
         simp only[Bool.and_eq_true] at hc
         obtain rfl:=FX hc.1.1
         have hkG:=QO.1 hc.2
         have hdj:Dj G [(k,.row e' t' l)]:=fun q hq hq'=>hkG ((DK _ _ _).1 hq'▸hq)
         refine⟨_,h,⟨fun ty=>GV fun c e hG he hP=>?_,fun q Rr hq=>?_,fun q hq=>?_,(fun h=>by cases h)⟩⟩
         ·have hnew:¬c.N m:=(hP.new m (QT ((DK _ _ _).2 rfl))).elim (fun hh=>by
           rcases(Gy _ _ _).1 hh with hh|hh
           ·grind
           grind[DK]) id
          have hP1:=Pre.less (F'':=[]) hdj hP (fun q hq=>absurd hq (Hf q)) hG.lt
          obtain⟨hN,⟨vs,hown,hrv,hov⟩,hO⟩:=Jn hP1
          have hry:=g3 c _ (he y _ hy0) (fun k Rr hk=>hP.res k Rr (Fa hk)) G (fun b h=>h)
          obtain⟨cs,hsl2,hrc,hoc⟩:=Vy (QS hunf hry)
          have hux:=he x _ hx
          simp only[Rep] at hux
          have hfits:(l.length+m'.length)*i.bytes<=140737488355328:=zbb
          obtain⟨v',w',hr,h2,h3,h4⟩:=PS (ty':=ty) hS hown hsl2 hoc ⟨hfits,hby⟩
          rw[<-List.length_append] at h2
          have hle:Cx.Le none (c.less G) ⟨fun q=>(c.less G).N q\/q=m,fun q=>if q=m then v' else(c.less G).ν q,fun b=>((c.less G).O b/\blk ((c.less G).ν k)≠some b)\/blk v'=some b,w'⟩ :=
           ⟨fun q _ h=>⟨.inl h,if_neg fun(e:q=m)=>hnew (e▸h)⟩,fun w'' hs=>h3.then hs (fun i _ h=>hO i h) fun i hi h=>by
            grind⟩
          have hrow:Af ⟨fun q=>(c.less G).N q\/q=m,fun q=>if q=m then v' else(c.less G).ν q,fun b=>((c.less G).O b/\blk ((c.less G).ν k)≠some b)\/blk v'=some b,w'⟩ (flatL t' (l++m')) (vs++cs):=by
           rw[Ja];exact(Af.le hle _ _ (Dc _) hrv).app (Af.le hle _ _ (Dc _) hrc)
          have ok:=Ok.turn (c:=c.less G) (k:=k) (k':=m) (R:=.row e' t' l) (R':=.row e' t' (l++m')) (s:=.nm m) (v:=v') (u:=v') hN hnew hO h3 (fun b hb=>⟨(OX h2 b hb).2,h4 b hb⟩)
           ⟨vs++cs,by simp_all,hrow,Iu hrow⟩ za6
          have:=Ok.lendOr t'.plain hdj (fun q hq hq'=>hGm q hq ((DK _ _ _).1 hq')) hG.lt hP.res hP.dist (fun _=>rfl) (fun hp=>hplain hp _) ok
          exact⟨v',w',_,Jp (by rw[hux.2.1];exact hr),this⟩
         ·rw[Iy] at hq
          cases hg:Ez q G with
          | some R2=>simp_all
          | none=>rw[hg] at hq;obtain⟨rfl,rfl⟩:=GM (show Ez q [(k,_)]=some Rr from hq);exact hkk
         grind[Gy,DK]
      ·cases h
     ·cases h
    ·cases hf:fits0 m' i.bytes with
     | false=>simp_all
     | true =>
      rw[hf] at h
      refine⟨_,h,?_⟩
      have:=fresh [] (by grind[lapp0]) (fun c e he hres=>?_)
      ·simp_all
      ·have hry:=g3 c _ (he y _ hy0) hres G (fun b h=>h)
       obtain⟨cs,hsl2,hrc,hoc⟩:=Vy (QS hunf hry)
       have hux:=he x _ hx
       simp only[Rep] at hux
       have hfits:(0+m'.length)*i.bytes<=140737488355328:=by have:=of_decide_eq_true hf;simp_all
       obtain⟨v',w',hr,h2,h3,h4⟩:=PS (ty':=0) hS (World.ownsG_nil c.w 0 el τ.n) hsl2 hoc ⟨hfits,hby⟩
       refine⟨v',w',cs,by simp_all,fun ty=>by rw[hux];exact hr,by grind,by grind,h3.mono (fun i _ h=>by cases h),fun b hb=>(h4 b hb).elim id (fun h=>by cases h)⟩
    ·rename_i t' l
     split at h
     ·rename_i l' hul
      obtain⟨rfl,hll⟩:t'=τ/\HEq l l':=by
       unfold We at hul
       split at hul
       ·rename_i l2 hu
        obtain rfl:=Option.some.inj hul
        simp only[Wy] at hu
        split at hu
        ·rename_i l3 h3
         simp only[Option.some.injEq,Prod.mk.injEq,and_true] at hu
         grind[fF]
        ·cases hu
       ·cases hul
      obtain rfl:=eq_of_heq hll
      cases hem:lemp0 m' with
      | true =>
       rw[hem] at h
       have hm0:m'=[]:=by grind[lemp0]
       subst hm0
       refine⟨_,h,⟨fun ty=>GV fun c e hG he hP=>?_,g1,fun q hq=>absurd hq (Hf q),(fun hr=>by simp_all)⟩⟩
       have hux:=Rep.le (c.less_le G) _ _ (GU _) (he x _ hx)
       have hry:=g3 c _ (he y _ hy0) (fun k Rr hk=>hP.res k Rr hk) G (fun b h=>h)
       obtain⟨cs,hsl2,hrc,hoc⟩:=Vy (QS hunf hry)
       have hux':=hux
       simp only[Rep] at hux'
       obtain⟨cs2,hsl3,_,_⟩:=Vy hux'.2
       obtain⟨inf,hi,hz1,hsize,hbytes⟩:=info_parts hS.hi
       have hrun:(Builtin.append_ #[t,t] ty #[e x,e y]).run P c.w=.ok (e x) c.w:=by
        obtain⟨a1,cap1,e1,_,e3,e4,e5,_⟩:=hsl3
        obtain⟨ax,cx,x1,x2,x3,x4,x5,x6⟩:=hsl2
        rw[e1,x1]
        exact run_append_nothing c.w t t ty el inf hS.ht hi _ _ _ e3 _ ⟨.inl ⟨el,hS.ht⟩,fun w'=>by simp[Builtin.lenOf],by cases ax<;>simp[Builtin.firstCells,loadCells,loadCellsFrom],by cases ax<;>simp[Builtin.firstCells,loadCells,loadCellsFrom],by simp,by simp⟩
       obtain⟨ν',ok⟩:=Ok.pure (c:=c.less G) (w':=c.w) hux (Stp.refl _ _)
       have:=Ok.consume (Xp G) ok
       grind[Jp]
      | false =>
       cases hf:fits0 (lapp0 l m') i.bytes with
       | false=>simp_all
       | true =>
        rw[hem,hf] at h
        refine⟨_,h,fresh l hf (fun c e he hres=>?_)⟩
        have hry:=g3 c _ (he y _ hy0) hres G (fun b h=>h)
        obtain⟨cs,hsl2,hrc,hoc⟩:=Vy (QS hunf hry)
        have hux:=Rep.le (c.less_le G) _ _ (GU _) (he x _ hx)
        simp only[Rep] at hux
        obtain⟨cs2,hsl3,hrc2,hoc2⟩:=Vy hux.2
        have hm0:0<m'.length:=by
         grind[lemp0]
        have hfits:(l.length+m'.length)*i.bytes<=140737488355328:=zbb
        have happ:∀ ty,∃ v' w',(Builtin.append_ #[t,t] ty #[e x,e y]).run P c.w=.ok v' w'/\w'.ownsG 0 el t'.n v' (l.length+m'.length) (cs2++cs)/\Stp No c.w w'/\∀ b,blk v'=some b->c.w.heap.size<=b:=fun ty=>A2b (ty':=ty) hS hsl3 hux.1 hsl2 hoc hm0 ⟨hfits,hby⟩
        obtain⟨v',w',hr,h2,h3,h4⟩:=happ 0
        refine⟨v',w',cs2++cs,hr,fun ty=>?_,by simp_all,by rw[Ja];exact hrc2.app hrc,h3,h4⟩
        exact hr
     ·cases h
    ·cases h
   ·cases h
  ·cases h
 ·cases h
theorem RG{e:Operand->Value}{s:Operand}{t t':Nat}{w:World}(h:(Builtin.append_ #[t,t'] ty #[e s,e x]).run P w=.ok v w'):
  (execOp e ⟨none,.call {callee:=.builtin .append,args := #[s,x],argTypes := #[t,t']},ty, "", #[],none⟩).run P w=.ok (.value v) w' :=
 FD e _ _ _ (by simp_all[builtin])
theorem A08(hT:TTok P I T)(hm:∀ k R,hk k=some R->k<m){t':TypeId}(h:VA T hk m t t' (FZ L x) (FZ L y) K=some r):∃ tr,K tr=some r/\TrOK P I L hk m (.call {callee:=.builtin .append,args := #[x,y],argTypes := #[t,t']}) tr:=by
 unfold VA at h
 simp only[Xe,fD] at h
 split at h
 ·rename_i el i k l hsl hu hx hy
  obtain⟨z,hS,hte,hz,hone,hby0⟩:=J3 hT hsl
  cases hc:(SG T el&&Nat.beq i.bytes 1&&Nat.beq i.size 1) with
  | false=>simp_all
  | true =>
  rw[hc,cond_true] at h
  simp only[Bool.and_eq_true] at hc
  have hby:i.bytes=1:=FX hc.1.2
  have hsz:i.size=1:=FX hc.2
  split at h
  ·rename_i e' l0 hkk
   cases he':Nat.beq e' el with
   | false=>simp_all
   | true =>
   rw[he',cond_true] at h
   obtain rfl:=FX he'
   cases hf:fits0 (lapp0 l0 l) 1 with
   | false=>simp_all
   | true =>
   rw[hf,cond_true] at h
   have hfits:l0.length+l.length<=140737488355328:=zbb
   obtain⟨iu,hiu,huu⟩:=KE hT hu
   have hstr:=hiu.und
   rw[huu] at hstr
   refine⟨_,h,⟨fun ty=>GV fun c e hG he hP=>?_,fun q Rr hq=>?_,fun q hq=>?_,(fun h=>by cases h)⟩⟩
   ·have hnew:¬c.N m:=(hP.new m ((DK _ _ _).2 rfl)).elim (fun hh=>by
     grind[DK]) id
    obtain⟨hN,⟨vs,hown,hrv,hov⟩,hO⟩:=Jn hP
    have hux:=he x _ hx
    have huy:=he y _ hy
    simp only[Rep] at hux huy
    obtain⟨inf,hi,hz1,hsize,hbytes⟩:=info_parts hS.hi
    obtain⟨v',w',hr,h2,h3,h4⟩:=Ut (P:=P) c.w t t' ty e' inf z hS.ht hstr hi hz1 zaa zaa (by rw[hS.hzs];exact hsz) (c.ν k) l0.length vs hown ⟨l.toArray⟩ (by show l0.length+l.toArray.size<=_;omega)
    have hls:(⟨l.toArray⟩:ByteArray).size=l.length:=by show l.toArray.size=_;simp
    have hsc:Lib.strCells ⟨l.toArray⟩=l.map fun b=>Value.int .u8 b.toNat:=by simp[Lib.strCells]
    rw[hls,<-List.length_append,hsc] at h2
    have hst:Stp (fun b=>blk (c.ν k)=some b) c.w w':=by grind[Ti,Ns,Stp.of_grown]
    have hbk:∀ b,blk v'=some b->c.w.heap.size<=b\/blk (c.ν k)=some b:=by grind[Ti,Ns]
    have hle:Cx.Le none c ⟨fun q=>c.N q\/q=m,fun q=>if q=m then v' else c.ν q,fun b=>(c.O b/\blk (c.ν k)≠some b)\/blk v'=some b,w'⟩ :=
     ⟨fun q _ h=>⟨.inl h,if_neg fun(e:q=m)=>hnew (e▸h)⟩,fun w'' hs=>hst.then hs (fun i _ h=>hO i h) fun i hi h=>by
      grind⟩
    have hrow:Af ⟨fun q=>c.N q\/q=m,fun q=>if q=m then v' else c.ν q,fun b=>(c.O b/\blk (c.ν k)≠some b)\/blk v'=some b,w'⟩ (flatL .u8 (l0++l)) (vs++l.map fun b=>Value.int .u8 b.toNat):=by
     rw[Ja];exact(Af.le hle _ _ (Dc _) hrv).app (fM _ l)
    have ok:=Ok.turn (c:=c) (k:=k) (k':=m) (R:=.row e' .u8 l0) (R':=.row e' .u8 (l0++l)) (s:=.nm m) (v:=v') (u:=v') hN hnew hO hst (fun b hb=>⟨(OX h2 b hb).2,hbk b hb⟩)
     ⟨vs++l.map fun b=>Value.int .u8 b.toNat,by show World.ownsG w' 0 e' 1 (if m=m then v' else _) _ _;simp_all,hrow,Iu hrow⟩ za6
    exact⟨v',w',_,RG zaL,ok⟩
   ·obtain⟨rfl,rfl⟩:=GM hq;exact hkk
   simp_all[DK]
  ·cases h
 ·cases h
theorem zU8_ok(c:Cx){z:Value}{l:List AV}(h:z.cells.toList.map AV.of=l)(hz:zU8 l=true):z.cells = #[.int .u8 0]:=by
 unfold zU8 at hz
 split at hz
 ·rename_i x
  have hx:x=0:=UInt8.toNat_inj.1 (FX hz)
  subst hx
  have hr:=Jo c z.cells.toList
  rw[h] at hr
  simp only[Af,Rep] at hr
  obtain⟨a,r,he,ha,hr⟩:=hr
  have:z.cells.toList=[Value.int .u8 0]:=by rw[he,hr,ha];rfl
  grind
 ·cases hz
theorem A09(hT:TTok P I T)(hm:∀ k R,hk k=some R->k<m){t':TypeId}(h:VB T hk m t t' (FZ L x) (FZ L y) K=some r):∃ tr,K tr=some r/\TrOK P I L hk m (.call {callee:=.builtin .append,args := #[x,y],argTypes := #[t,t']}) tr:=by
 unfold VB at h
 simp only[Xe,fD,fC,NE] at h
 split at h
 ·rename_i el i k nn hsl hu hx hy
  obtain⟨z,hS,hte,hz,hone,hby0⟩:=J3 hT hsl
  cases hc:(zU8 i.zero&&Nat.beq i.bytes 1&&Nat.beq i.size 1) with
  | false=>simp_all
  | true =>
  rw[hc,cond_true] at h
  simp only[Bool.and_eq_true] at hc
  have hby:i.bytes=1:=FX hc.1.2
  have hsz:i.size=1:=FX hc.2
  split at h
  ·rename_i e' l0 hkk
   cases he':(Nat.beq e' el&&ile0 0 nn) with
   | false=>simp_all
   | true =>
   rw[he',cond_true] at h
   simp only[Bool.and_eq_true] at he'
   have hnn:0<=nn:=of_decide_eq_true he'.2
   obtain rfl:=FX he'.1
   obtain⟨q0,hq0⟩:∃ q0:Nat,nn=(q0:Int):=⟨nn.toNat,by omega⟩
   have hrep:lrep0 nn (0:UInt8)=List.replicate q0 0:=by simp_all[lrep0]
   rw[hrep] at h
   generalize hlq:List.replicate q0 (0:UInt8)=l at h
   have hlql:l.length=q0:=zaU
   cases hf:fits0 (lapp0 l0 l) 1 with
   | false=>simp_all
   | true =>
   rw[hf,cond_true] at h
   have hfits:l0.length+l.length<=140737488355328:=zbb
   obtain⟨iu,hiu,huu⟩:=KE hT hu
   have hstr:=hiu.und
   rw[huu] at hstr
   refine⟨_,h,⟨fun ty=>GV fun c e hG he hP=>?_,fun q Rr hq=>?_,fun q hq=>?_,(fun h=>by cases h)⟩⟩
   ·have hnew:¬c.N m:=(hP.new m ((DK _ _ _).2 rfl)).elim (fun hh=>by
     grind[DK]) id
    obtain⟨hN,⟨vs,hown,hrv,hov⟩,hO⟩:=Jn hP
    have hux:=he x _ hx
    have huy:=he y _ hy
    simp only[Rep] at hux huy
    obtain⟨inf,hi,hz1,hsize,hbytes⟩:=info_parts hS.hi
    have hzc:z.cells = #[.int .u8 0]:=zU8_ok c hz hc.1.1
    obtain⟨v',w',hr,h2,h3,h4⟩:=TS (P:=P) c.w t t' ty e' inf z .i64 .i64 hS.ht hstr hi hz1 zaa zaa hzc (c.ν k) l0.length vs hown q0 zaa
    have hsc:List.replicate q0 (Value.int .u8 0)=l.map fun b=>Value.int .u8 b.toNat:=by grind[List.map_replicate]
    rw[<-hlql,<-List.length_append,hlql,hsc] at h2
    rw[hq0] at huy
    have hst:Stp (fun b=>blk (c.ν k)=some b) c.w w':=by grind[Ti,Ns,Stp.of_grown]
    have hbk:∀ b,blk v'=some b->c.w.heap.size<=b\/blk (c.ν k)=some b:=by grind[Ti,Ns]
    have hle:Cx.Le none c ⟨fun q=>c.N q\/q=m,fun q=>if q=m then v' else c.ν q,fun b=>(c.O b/\blk (c.ν k)≠some b)\/blk v'=some b,w'⟩ :=
     ⟨fun q _ h=>⟨.inl h,if_neg fun(e:q=m)=>hnew (e▸h)⟩,fun w'' hs=>hst.then hs (fun i _ h=>hO i h) fun i hi h=>by
      grind⟩
    have hrow:Af ⟨fun q=>c.N q\/q=m,fun q=>if q=m then v' else c.ν q,fun b=>(c.O b/\blk (c.ν k)≠some b)\/blk v'=some b,w'⟩ (flatL .u8 (l0++l)) (vs++l.map fun b=>Value.int .u8 b.toNat):=by
     rw[Ja];exact(Af.le hle _ _ (Dc _) hrv).app (fM _ l)
    have ok:=Ok.turn (c:=c) (k:=k) (k':=m) (R:=.row e' .u8 l0) (R':=.row e' .u8 (l0++l)) (s:=.nm m) (v:=v') (u:=v') hN hnew hO hst (fun b hb=>⟨(OX h2 b hb).2,hbk b hb⟩)
     ⟨vs++l.map fun b=>Value.int .u8 b.toNat,by show World.ownsG w' 0 e' 1 (if m=m then v' else _) _ _;simp_all,hrow,Iu hrow⟩ za6
    exact⟨v',w',_,RG zaL,ok⟩
   ·obtain⟨rfl,rfl⟩:=GM hq;exact hkk
   simp_all[DK]
  ·cases h
 ·cases h
theorem A0A(hT:TTok P I T)(hm:∀ k R,hk k=some R->k<m)(h:V9 T hk m t (FZ L x) (FZ L y) K=some r):∃ tr,K tr=some r/\TrOK P I L hk m (.call {callee:=.builtin .append,args := #[x,y],argTypes := #[t,t]}) tr:=by
 unfold V9 at h
 split at h
 ·rename_i el i a j hsl hx hy
  obtain⟨z,hS,hte,hz,hone,hby⟩:=J3 hT hsl
  split at h
  ·rename_i ej szj nj cb hjj
   have hjm:=hm j _ hjj
   have hGj:∀ q,has q [(j,Rs.rowA ej szj nj cb)]->q≠m:=fun q hq e=>by grind[DK]
   cases hb:Nat.beq szj i.size with
   | false=>simp_all
   | true =>
    rw[hb,cond_true] at h
    obtain rfl:=FX hb
    -- the second operand as a slice
    have second:∀ {c:Cx} {e:Operand->Value},Uw c L e->Holds c j (.rowA ej i.size nj cb)->∃ cs,Sl c.w i.size (e y) cs nj/\Af c cb cs/\∀ u∈cs,u.oneCell'=true:=by
     intro c e he hj
     have hv:=he y _ hy
     simp only[Rep] at hv
     obtain⟨vs,h1,h2,h3⟩:=hj
     grind[Sl.of_ownG]
    split at h
    ·cases hf:Nat.ble (nj*i.bytes) 140737488355328 with
     | false=>simp_all
     | true =>
      rw[hf,cond_true] at h
      refine⟨_,h,⟨fun ty=>GV fun c e hG he hP=>?_,fun q Rr hq=>?_,fun q hq=>?_,(fun h=>by cases h)⟩⟩
      ·have hnew:¬c.N m:=(hP.new m ((DK _ _ _).2 rfl)).elim (fun hh=>absurd rfl (hGj m hh)) id
       obtain⟨hN,hH,hO⟩:=hP.res j _ (by rw[DF,if_pos rfl])
       obtain⟨cs,s1,s2,s3⟩:=second he hH
       have hux:=he x _ hx
       simp only[Rep] at hux
       obtain⟨v',w',hr,h2,h3,h4⟩:=PS (ty':=ty) (xs:=[]) hS (World.ownsG_nil c.w 0 el i.size) s1 s3 ⟨by simp_all,hby⟩
       rw[Nat.zero_add,List.nil_append] at h2
       have ok:=Ok.newM (c:=c.less [(j,.rowA ej i.size nj cb)]) (k:=m) (Rr:=.rowA el i.size nj cb) hnew (hG.less _).lt (h3.mono fun i _ h=>by cases h) h2 (fun b hb=>(h4 b hb).resolve_right fun h=>by cases h) (Af.le (Cx.less_le _ _) _ _ (Dc _) s2) s3 (fun c' hh=>hh)
       have:=Ok.consume (Xp _) ok
       grind[Jp]
      ·obtain⟨rfl,rfl⟩:=GM hq;exact hjj
      simp_all[DK]
    ·rename_i k
     split at h
     ·rename_i e' sz n ca hkk
      cases hc:(Nat.beq e' el&&Nat.beq sz i.size && !Nat.beq k j&&Nat.ble ((n+nj)*i.bytes) 140737488355328) with
      | false=>simp_all
      | true =>
       rw[hc,cond_true,Dp] at h
       simp only[Bool.and_eq_true,Bool.not_eq_true'] at hc
       obtain⟨⟨⟨c1,c2⟩,c3⟩,c4⟩:=hc
       obtain rfl:=FX c1
       obtain rfl:=FX c2
       have hkj:k≠j:=fun e=>zaL
       have hdj:Dj [(j,Rs.rowA ej i.size nj cb)] [(k,Rs.rowA e' i.size n ca)]:=fun q hq hq'=>hkj (((DK _ _ _).1 hq').symm.trans ((DK _ _ _).1 hq))
       refine⟨_,h,⟨fun ty=>GV fun c e hG he hP=>?_,fun q Rr hq=>?_,fun q hq=>?_,(fun h=>by cases h)⟩⟩
       ·have hnew:¬c.N m:=(hP.new m ((DK _ _ _).2 rfl)).elim (fun hh=>by
         rcases(Gy _ [(j,_)] [(k,_)]).1 hh with hh|hh
         ·grind
         grind[DK]) id
        obtain⟨_,hH,_⟩:=hP.res j _ (by rw[DF,if_pos rfl])
        obtain⟨cs,s1,s2,s3⟩:=second he hH
        have hP1:=Pre.less (F'':=[]) hdj hP (fun q hq=>absurd hq (Hf q)) hG.lt
        obtain⟨hN,⟨vs,hown,hrv,hov⟩,hO⟩:=Jn hP1
        have hux:=he x _ hx
        simp only[Rep] at hux
        obtain⟨v',w',hr,h2,h3,h4⟩:=PS (ty':=ty) hS hown s1 s3 ⟨by simpa using c4,hby⟩
        have hle:Cx.Le none (c.less [(j,Rs.rowA ej i.size nj cb)]) ⟨fun q=>(c.less [(j,Rs.rowA ej i.size nj cb)]).N q\/q=m,fun q=>if q=m then v' else(c.less [(j,Rs.rowA ej i.size nj cb)]).ν q,fun b=>((c.less [(j,Rs.rowA ej i.size nj cb)]).O b/\blk ((c.less [(j,Rs.rowA ej i.size nj cb)]).ν k)≠some b)\/blk v'=some b,w'⟩ :=
         ⟨fun q _ h=>⟨.inl h,if_neg fun(e:q=m)=>hnew (e▸h)⟩,fun w'' hs=>h3.then hs (fun i _ h=>hO i h) fun i hi h=>by
          grind⟩
        have hrow:=(Af.le hle _ _ (Dc _) hrv).app (Af.le hle _ _ (Dc _) (Af.le (Cx.less_le _ [(j,Rs.rowA ej i.size nj cb)]) _ _ (Dc _) s2))
        have ok:=Ok.turn (c:=c.less [(j,Rs.rowA ej i.size nj cb)]) (k:=k) (k':=m) (R:=.rowA e' i.size n ca) (R':=.rowA e' i.size (n+nj) (ca++cb)) (s:=.nm m) (v:=v') (u:=v') hN hnew hO h3 (fun b hb=>⟨(OX h2 b hb).2,h4 b hb⟩)
         ⟨vs++cs,by simp_all,hrow,fun u hu=>(List.mem_append.1 hu).elim (hov u) (s3 u)⟩ za6
        exact⟨v',w',_,Jp (by rw[hux.2.1];exact hr),Ok.consume hdj ok⟩
       ·rw[DF] at hq
        split at hq
        ·simp_all
        ·obtain⟨rfl,rfl⟩:=GM (show Ez q [(k,_)]=some Rr from hq);exact hkk
       simp_all[DK]
     ·cases h
    ·cases h
  ·cases h
 ·cases h
end
end Go.Ax
namespace Go.Ax
open Go Go.RowKit Go.Eng
variable {t:TypeId}{α:Type}{x:Operand}
section
variable {P:Program}{I:World->Prop}{L:LX}{ty:TypeId}{T:TT}{R:Type}{K:Tr->Option R}{r:R}{hk:Nat->Option Rs}{m:Nat}
theorem SK{c:Cx}{τ:Ty}{l:List (El τ)}{us:List Value}(h:Af c (flatL τ l) us)(n:Nat):Af c (flatL τ (l.take n)) (us.take (n*τ.n)):=by
 obtain⟨cs,rfl,h2⟩:=h.flatL
 rw[<-OZ τ.n n cs (Ec.lens h2)]
 exact Af.of_flatL (h2.take n)
theorem Xv{c:Cx}{τ:Ty}{l:List (El τ)}{us:List Value}(h:Af c (flatL τ l) us)(n:Nat):Af c (flatL τ (l.drop n)) (us.drop (n*τ.n)):=by
 obtain⟨cs,rfl,h2⟩:=h.flatL
 rw[<-OY τ.n n cs (Ec.lens h2)]
 exact Af.of_flatL (h2.drop n)
theorem A2d(hT:TTok P I T){y:Operand}(h:Zv T hk t (FZ L x) ((FZ L y).bind (rdA hk)) K=some r):∃ tr,K tr=some r/\TrOK P I L hk m (.call {callee:=.builtin .copy,args := #[x,y],argTypes := #[t,t]}) tr:=by
 unfold Zv at h
 try simp only[xM,xN] at h
 split at h
 ·rename_i el i k b G hsl hx hy
  obtain⟨z,hS,hte,hz,hone,hby⟩:=J3 hT hsl
  obtain⟨s0,hy0,hy1⟩:=Option.bind_eq_some_iff.1 hy
  obtain⟨g1,g2,g3⟩:=SH hy1
  split at h
  ·rename_i τ e' t' l hτ hkk
   split at h
   ·rename_i m' l' hunf hul
    obtain⟨rfl,hll⟩:=fV hul
    obtain rfl:=eq_of_heq hll
    cases hc:(Nat.beq e' el&&Nat.beq i.size 1&&Nat.beq t'.n t'.n&&t'.plain&&RF k G) with
    | false=>rw[hc] at h;cases h
    | true =>
     rw[hc] at h
     simp only[Bool.and_eq_true] at hc
     obtain⟨⟨⟨⟨h1,h2⟩,h3⟩,hpl⟩,hni⟩:=hc
     obtain rfl:=FX h1
     have hi1:=FX h2
     have hn1:t'.n=1:=by rw[hte.ty _ hτ];exact hi1
     have hkG:=QO.1 hni
     have hdj:∀ R,Dj G [(k,R)]:=fun R q hq hq'=>hkG ((DK _ _ _).1 hq'▸hq)
     have hplain:∀ l,NF [(k,Rs.row e' t' l)]=true:=fun l=>by simp[NF,Xf,hpl]
     refine⟨_,h,⟨fun ty=>GV fun c e hG he hP=>?_,fun q Rr hq=>?_,fun q hq=>.inl ?_,(fun h=>by cases h)⟩⟩
     ·have hP1:=Pre.less (F'':=[]) (hdj _) hP (fun q hq=>absurd hq (Hf q)) hG.lt
      obtain⟨hN,⟨vs,hown,hrv,hov⟩,hO⟩:=Jn hP1
      have hry:=g3 c _ (he y _ hy0) (fun k Rr hk=>hP.res k Rr (Fa hk)) G (fun b h=>h)
      obtain⟨cs,hsl2,hrc,hoc⟩:=Vy (QS hunf hry)
      have hux:=he x _ hx
      simp only[Rep] at hux
      have hvl:vs.length=l.length:=by rw[hown.1,hn1];omega
      have hcl:cs.length=m'.length:=by have:=hsl2.len;rw[hn1] at this;omega
      have fin:∀ w',(∀ ty,(Builtin.copy_ #[t,t] ty #[c.ν k,e y]).run P c.w=.ok (goInt ((min m'.length l.length:Nat):Int)) w')->w'.ownsG 0 e' 1 (c.ν k) l.length (cs.take l.length++vs.drop m'.length)->Stp (fun b=>blk (c.ν k)=some b) c.w w' ->
        ∃ v w' ν',(execOp e ⟨none,.call {callee:=.builtin .copy,args := #[x,y],argTypes := #[t,t]},ty, "", #[],none⟩).run P c.w=.ok (.value v) w'/\Ok c (G++[(k,.row e' t' l)]) (G++[(k,.row e' t' (lcpy0 l m'))]) (.i (min (llen0 m') (llen0 l))) v w' ν':=by
       intro w' hr hw hst
       have hle:Cx.Le none (c.less G) ⟨(c.less G).N,(c.less G).ν,(c.less G).O,w'⟩:=⟨fun q _ h=>⟨h,rfl⟩,fun w'' hs=>hst.then hs (fun i _ h=>hO i h) fun i _ h=>h⟩
       have hrow:Af ⟨(c.less G).N,(c.less G).ν,(c.less G).O,w'⟩ (flatL t' (lcpy0 l m')) (cs.take l.length++vs.drop m'.length):=by
        unfold lcpy0
        rw[Ja]
        have q1:=SK (Af.le hle _ _ (Dc _) hrc) l.length
        have q2:=Xv (Af.le hle _ _ (Dc _) hrv) m'.length
        rw[hn1,Nat.mul_one] at q1 q2
        exact q1.app q2
       have hlen:(lcpy0 l m').length=l.length:=by simp[lcpy0];omega
       have ok:=Ok.change (c:=c.less G) (R:=.row e' t' l) (R':=.row e' t' (lcpy0 l m')) (s:=.i (min (llen0 m') (llen0 l))) (v:=goInt ((min m'.length l.length:Nat):Int)) hN hO (hG.less G).lt hst ⟨_,by rw[hn1,hlen];exact hw,hrow,Iu hrow⟩ (by simp only[Rep,goInt,llen0];congr 1;omega)
       refine⟨_,w',_,FD e _ _ _ (by simp only[builtin,List.map_toArray,List.map_cons,List.map_nil,Sem.run_bind,hux.2.1,hr _,Result.andThen_ok,Sem.run_pure]),Ok.borrow (hdj _) (hdj _) hG.lt hP.res hP.dist rfl (hplain _) ok⟩
      have hown1:c.w.ownsG 0 e' 1 (c.ν k) l.length vs:=by rw[<-hn1];exact hown
      obtain⟨a,cap,e1,e2,e3,e4,e5,e6⟩:=hsl2
      by_cases hn:min m'.length l.length=0
      ·have hres:cs.take l.length++vs.drop m'.length=vs:=by
        rcases Nat.eq_zero_or_pos l.length with h|h
        ·have:vs=[]:=List.eq_nil_of_length_eq_zero zaa
         subst this;simp[h]
        ·have hm0:m'.length=0:=zaa
         have:cs=[]:=List.eq_nil_of_length_eq_zero zaa
         subst this;simp[hm0]
       have hsz:(P.info? e').map (·.size)=some 1:=by rw[hte.sz,hi1]
       obtain⟨b1,cp,hb⟩:=OW hown1
       refine fin c.w (fun ty=>?_) (by rw[hres];exact hown1) (Stp.refl _ _)
       rw[hb,e1,hn]
       exact run_copy_none c.w t t ty e' b1 a l.length cp m'.length cap hS.ht hsz hn
      ·have hsz:(P.info? e').map (·.size)=some 1:=by rw[hte.sz,hi1]
       rcases hown1.2 with⟨_,h0⟩|⟨g,cp,cur,fz,hv,hg0,hg,hnc,hcm,hcs',htake,hfz⟩
       ·omega
       cases a with
       | none=>have:=(e5 rfl).1;omega
       | some p =>
        have hcsp:=e6 p rfl
        have hlen:(cs.take l.length).length=Nat.min m'.length l.length:=by rw[List.length_take,hcl];exact Nat.min_comm _ _
        have hmle:Nat.min m'.length l.length<=l.length:=Nat.min_le_right _ _
        have hr:=fun ty=>SB (P:=P) c.w t t ty e' g 0 l.length cp p m'.length cap cur e' fz (cs.take l.length) hS.ht hsz hg hfz hlen (fun j v hj=>hcsp j v (by rw[List.getElem?_take] at hj;split at hj;exact hj;cases hj)) (by rw[hlen];omega) (fun v hv=>hoc v (List.mem_of_mem_take hv))
        rw[hlen] at hr
        simp only[List.take_zero,List.nil_append,Nat.zero_add] at hr
        refine fin _ (fun ty=>by rw[hv,e1];exact hr ty) ?_ ((Stp.of_grown (GL c.w g _)).mono fun i _ h=>by rw[hv];exact h)
        refine⟨by rw[List.length_append,hlen,List.length_drop,hvl];have:Nat.min m'.length l.length=min m'.length l.length:=rfl;omega,.inr ⟨g,cp,_,fz,hv,Nat.zero_le _,setRow_heap c.w g cur _ e' _ hg,hnc,hcm,?_,?_,?_⟩⟩
        ·simp only[List.size_toArray,List.length_append,hlen,List.length_drop,Array.length_toList];omega
        ·rw[Nat.mul_one] at htake ⊢
         rw[List.take_append,List.take_of_length_le (by rw[hlen];exact hmle),hlen]
         congr 1
         rw[<-htake,List.drop_take]
         rcases Nat.le_total m'.length l.length with hml|hml
         ·rw[show Nat.min m'.length l.length=m'.length from Nat.min_eq_left hml]
         ·rw[show Nat.min m'.length l.length=l.length from Nat.min_eq_right hml,Nat.sub_self,show l.length-m'.length=0 from by omega];simp
        ·refine cast (congrArg (fun n=>ND n fz) ?_) hfz
         simp only[List.size_toArray,List.length_append,hlen,List.length_drop,Array.length_toList];omega
     ·rw[Iy] at hq
      cases hg:Ez q G with
      | some R2=>rw[hg] at hq;obtain rfl:=Option.some.inj hq;exact g1 q R2 hg
      | none=>rw[hg] at hq;obtain⟨rfl,rfl⟩:=GM (show Ez q [(k,_)]=some Rr from hq);exact hkk
     ·rcases(Gy _ _ _).1 hq with hq|hq
      ·exact(Gy _ _ _).2 (.inl hq)
      ·exact(Gy _ _ _).2 (.inr ((DK _ _ _).2 ((DK _ _ _).1 hq)))
   ·cases h
  ·cases h
 ·cases h
theorem ABM(q d:List α)(lo n:Nat)(h:lo+d.length<=n)(hq:n<=q.length):(q.take lo++d++q.drop (lo+d.length)).take n=(q.take n).take lo++d++(q.take n).drop (lo+d.length):=by
 have e1:(q.take lo).length=lo:=zaX
 have e2:(q.take lo++d).length=lo+d.length:=by rw[List.length_append,e1]
 rw[List.take_append,List.take_of_length_le zaa,e2,List.take_take,Nat.min_eq_left zaa,List.drop_take]
theorem A0B(hT:TTok P I T){y:Operand}(h:VC T hk t (FZ L x) ((FZ L y).bind (rdA hk)) K=some r):∃ tr,K tr=some r/\TrOK P I L hk m (.call {callee:=.builtin .copy,args := #[x,y],argTypes := #[t,t]}) tr:=by
 unfold VC at h
 simp only[sV] at h
 split at h
 ·rename_i el i k sz lo hi b G hsl hx hy
  obtain⟨z,hS,hte,hz,hone,hby⟩:=J3 hT hsl
  obtain⟨s0,hy0,hy1⟩:=Option.bind_eq_some_iff.1 hy
  obtain⟨g1,g2,g3⟩:=SH hy1
  split at h
  ·rename_i τ e' t' l hτ hkk
   split at h
   ·rename_i m' l' hunf hul
    obtain⟨rfl,hll⟩:=fV hul
    obtain rfl:=eq_of_heq hll
    cases hc:(Nat.beq e' el&&Nat.beq i.size 1&&Nat.beq sz 1&&t'.plain&&RF k G) with
    | false=>rw[hc] at h;cases h
    | true =>
     rw[hc] at h
     simp only[Bool.and_eq_true] at hc
     obtain⟨⟨⟨⟨h1,h2⟩,h3⟩,hpl⟩,hni⟩:=hc
     obtain rfl:=FX h1
     obtain rfl:=FX h3
     have hi1:=FX h2
     have hn1:t'.n=1:=by rw[hte.ty _ hτ];exact hi1
     have hkG:=QO.1 hni
     have hdj:∀ R,Dj G [(k,R)]:=fun R q hq hq'=>hkG ((DK _ _ _).1 hq'▸hq)
     have hplain:∀ l,NF [(k,Rs.row e' t' l)]=true:=fun l=>by simp[NF,Xf,hpl]
     refine⟨_,h,⟨fun ty=>GV fun c e hG he hP=>?_,fun q Rr hq=>?_,fun q hq=>.inl ?_,(fun h=>by cases h)⟩⟩
     ·have hP1:=Pre.less (F'':=[]) (hdj _) hP (fun q hq=>absurd hq (Hf q)) hG.lt
      obtain⟨hN,⟨vs,hown,hrv,hov⟩,hO⟩:=Jn hP1
      have hry:=g3 c _ (he y _ hy0) (fun k Rr hk=>hP.res k Rr (Fa hk)) G (fun b h=>h)
      obtain⟨cs,hsl2,hrc,hoc⟩:=Vy (QS hunf hry)
      have hux:=he x _ hx
      simp only[Rep] at hux
      obtain⟨-,a0,n0,cap0,hν,⟨b1,b2,b3,b4⟩,hu⟩:=hux
      have hvl:vs.length=l.length:=by rw[hown.1,hn1];omega
      have hn0:n0=l.length:=by
       obtain⟨a1,cap1,q⟩:=OW hown
       have:Value.slice a0 n0 cap0=.slice a1 l.length cap1:=hν.symm.trans q
       cases this;rfl
      have hcl:cs.length=m'.length:=by have:=hsl2.len;rw[hn1] at this;omega
      have hsz:(P.info? e').map (·.size)=some 1:=by rw[hte.sz,hi1]
      have hmn:Nat.min m'.length (hi.toNat-lo.toNat)=min m'.length (hi.toNat-lo.toNat):=rfl
      have fin:∀ w',(∀ ty,(Builtin.copy_ #[t,t] ty #[e x,e y]).run P c.w=.ok (goInt ((min m'.length (hi.toNat-lo.toNat):Nat):Int)) w')->w'.ownsG 0 e' 1 (c.ν k) l.length (vs.take lo.toNat++cs.take (hi.toNat-lo.toNat)++vs.drop (lo.toNat+min m'.length (hi.toNat-lo.toNat)))->Stp (fun b=>blk (c.ν k)=some b) c.w w' ->
        ∃ v w' ν',(execOp e ⟨none,.call {callee:=.builtin .copy,args := #[x,y],argTypes := #[t,t]},ty, "", #[],none⟩).run P c.w=.ok (.value v) w'/\Ok c (G++[(k,.row e' t' l)]) (G++[(k,.row e' t' (lcpv0 l lo hi m'))]) .un v w' ν':=by
       intro w' hr hw hst
       have hle:Cx.Le none (c.less G) ⟨(c.less G).N,(c.less G).ν,(c.less G).O,w'⟩:=⟨fun q _ h=>⟨h,rfl⟩,fun w'' hs=>hst.then hs (fun i _ h=>hO i h) fun i _ h=>h⟩
       have hrow:Af ⟨(c.less G).N,(c.less G).ν,(c.less G).O,w'⟩ (flatL t' (lcpv0 l lo hi m')) (vs.take lo.toNat++cs.take (hi.toNat-lo.toNat)++vs.drop (lo.toNat+min m'.length (hi.toNat-lo.toNat))):=by
        unfold lcpv0
        rw[Ja,Ja]
        have q0:=SK (Af.le hle _ _ (Dc _) hrv) lo.toNat
        have q1:=SK (Af.le hle _ _ (Dc _) hrc) (hi.toNat-lo.toNat)
        have q2:=Xv (Af.le hle _ _ (Dc _) hrv) (lo.toNat+min m'.length (hi.toNat-lo.toNat))
        rw[hn1,Nat.mul_one] at q0 q1 q2
        exact(q0.app q1).app q2
       have hlen:(lcpv0 l lo hi m').length=l.length:=by simp[lcpv0];omega
       have ok:=Ok.change (c:=c.less G) (R:=.row e' t' l) (R':=.row e' t' (lcpv0 l lo hi m')) (s:=.un) (v:=goInt ((min m'.length (hi.toNat-lo.toNat):Nat):Int)) hN hO (hG.less G).lt hst ⟨_,by rw[hn1,hlen];exact hw,hrow,Iu hrow⟩ zbz
       refine⟨_,w',_,FD e _ _ _ za3,Ok.borrow (hdj _) (hdj _) hG.lt hP.res hP.dist rfl (hplain _) ok⟩
      have hown1:c.w.ownsG 0 e' 1 (c.ν k) l.length vs:=by rw[<-hn1];exact hown
      obtain⟨a,cap,e1,e2,e3,e4,e5,e6⟩:=hsl2
      by_cases hn:min m'.length (hi.toNat-lo.toNat)=0
      ·have hres:vs.take lo.toNat++cs.take (hi.toNat-lo.toNat)++vs.drop (lo.toNat+min m'.length (hi.toNat-lo.toNat))=vs:=by
        have hc0:cs.take (hi.toNat-lo.toNat)=[]:=List.eq_nil_of_length_eq_zero zaX
        rw[hc0,hn,Nat.add_zero,List.append_nil,List.take_append_drop]
       refine fin c.w (fun ty=>?_) (by rw[hres];exact hown1) (Stp.refl _ _)
       rw[hu,e1,hn]
       exact run_copy_none c.w t t ty e' _ a _ _ m'.length cap hS.ht hsz hn
      ·rcases hown1.2 with⟨_,h0⟩|⟨g,cp,cur,fz,hv,hg0,hg,hnc,hcm,hcs',htake,hfz⟩
       ·omega
       have hv2:Value.slice a0 n0 cap0=.slice (some ⟨g,0,none⟩) l.length cp:=hν.symm.trans hv
       obtain⟨rfl,-,rfl⟩:=Value.slice.inj hv2
       cases a with
       | none=>have:=(e5 rfl).1;omega
       | some p =>
        have hcsp:=e6 p rfl
        have hlen:(cs.take (hi.toNat-lo.toNat)).length=Nat.min m'.length (hi.toNat-lo.toNat):=by rw[List.length_take,hcl];exact Nat.min_comm _ _
        have hux:e x=.slice (some ⟨g,lo.toNat,none⟩) (hi.toNat-lo.toNat) (cap0-lo.toNat):=by
         rw[hu,if_neg zaa];simp[Addr.add];omega
        have hr:=fun ty=>SB (P:=P) c.w t t ty e' g lo.toNat (hi.toNat-lo.toNat) (cap0-lo.toNat) p m'.length cap cur e' fz (cs.take (hi.toNat-lo.toNat)) hS.ht hsz hg hfz hlen (fun j v hj=>hcsp j v (by rw[List.getElem?_take] at hj;split at hj;exact hj;cases hj)) (by rw[hlen,hmn];omega) (fun v hv=>hoc v (List.mem_of_mem_take hv))
        rw[hlen,hmn] at hr
        refine fin _ (fun ty=>by rw[hux,e1];exact hr ty) ?_ ((Stp.of_grown (GL c.w g _)).mono fun i _ h=>by rw[hv];exact h)
        have hcl2:cur.toList.length=cap0:=by rw[Array.length_toList];omega
        have hvs:vs=cur.toList.take l.length:=by rw[Nat.mul_one] at htake;exact htake.symm
        refine⟨by simp only[List.length_append,hlen,List.length_take,List.length_drop,hvl,hmn];omega,.inr ⟨g,cap0,_,fz,hv,Nat.zero_le _,setRow_heap c.w g cur _ e' _ hg,hnc,hcm,?_,?_,?_⟩⟩
        ·simp only[List.size_toArray,List.length_append,hlen,List.length_drop,List.length_take,Array.length_toList,hmn];omega
        ·rw[Nat.mul_one]
         have hk:(cs.take (hi.toNat-lo.toNat)).length=min m'.length (hi.toNat-lo.toNat):=hlen
         generalize cs.take (hi.toNat-lo.toNat)=d at hk ⊢
         rw[hvs,<-hk]
         exact ABM _ d _ _ zaa zaa
        ·refine cast (congrArg (fun n=>ND n fz) ?_) hfz
         simp only[List.size_toArray,List.length_append,hlen,List.length_drop,List.length_take,Array.length_toList,hmn];omega
     ·rw[Iy] at hq
      cases hg:Ez q G with
      | some R2=>rw[hg] at hq;obtain rfl:=Option.some.inj hq;exact g1 q R2 hg
      | none=>rw[hg] at hq;obtain⟨rfl,rfl⟩:=GM (show Ez q [(k,_)]=some Rr from hq);exact hkk
     ·rcases(Gy _ _ _).1 hq with hq|hq
      ·exact(Gy _ _ _).2 (.inl hq)
      ·exact(Gy _ _ _).2 (.inr ((DK _ _ _).2 ((DK _ _ _).1 hq)))
   ·cases h
  ·cases h
 ·cases h
theorem PT(w:World)(t ty e:TypeId)(ht:P.underlying t=some (.slice e))(a:Option Addr)(n cap:Nat)(hn:a=none\/n=0):(Builtin.clear_ #[t] ty #[.slice a n cap]).run P w=.ok (.tuple #[]) w:=by
 rcases hn with rfl|rfl
 ·simp[Builtin.clear_,run_underlying ht]
 ·cases a<;>simp[Builtin.clear_,run_underlying ht]
theorem zcells_repL(z:Array Value)(n:Nat):(Builtin.zeroCells z n).toList=repL n z.toList:=QR z n
theorem lC(t ty e:TypeId)(g n cap:Nat)(cur:Array Value)(e':TypeId)(fz:Nat×Nat)(z:Value)(w:World)(ht:P.underlying t=some (.slice e))(hz:(P.info? e).bind (·.zero)=some z)(hg:w.heap[g]?=some (.cells cur e' fz))(hfz:ND cur.size fz)
  (hfit:(repL n z.cells.toList).length<=cur.size) (h1:∀ v∈repL n z.cells.toList,v.oneCell'=true) (hn:n≠0) :
  (Builtin.clear_ #[t] ty #[.slice (some ⟨g,0,none⟩) n cap]).run P w=.ok (.tuple #[]) (w.setRow g (repL n z.cells.toList++cur.toList.drop (repL n z.cells.toList).length).toArray):=by
 have hst:=Es (P:=P) g 0 e' fz (repL n z.cells.toList) 0 cur w hg hfz zaa h1
 simp only[Nat.add_zero,Nat.zero_add,List.take_zero,List.nil_append] at hst
 cases hq:P.info? e with
 | none=>rw[hq] at hz;cases hz
 | some i =>
  rw[hq] at hz
  simp only[Option.bind_some] at hz
  cases n with
  | zero=>omega
  | succ n=>simp_all[Builtin.clear_,run_underlying,zeroValue,typeInfo,zcells_repL]
theorem A2e(hT:TTok P I T)(h:Zw T hk t (FZ L x) K=some r):∃ tr,K tr=some r/\TrOK P I L hk m (.call {callee:=.builtin .clear,args := #[x],argTypes := #[t]}) tr:=by
 unfold Zw at h
 simp only[fC,fA] at h
 split at h
 ·rename_i el i k hsl hx
  obtain⟨z,hS,hte,hz,hone,hby⟩:=J3 hT hsl
  split at h
  ·rename_i τ e' t' l hτ hkk
   split at h
   ·rename_i z0 hunf
    cases hc:(Nat.beq e' el&&Nat.beq i.size t'.n) with
    | false=>rw[hc] at h;cases h
    | true =>
     rw[hc] at h
     simp only[Bool.and_eq_true] at hc
     obtain⟨h1,h2⟩:=hc
     obtain rfl:=FX h1
     have hi1:=FX h2
     have hn:τ.n=t'.n:=by rw[hte.ty _ hτ];exact hi1
     have hzl:z.cells.toList.length=t'.n:=by rw[Array.length_toList,hS.hzs,hi1]
     refine⟨_,h,⟨fun ty=>GV fun c e hG he hP=>?_,fun q R' hq=>by obtain⟨rfl,rfl⟩:=GM hq;exact hkk,fun q hq=>.inl ((DK _ _ _).2 ((DK _ _ _).1 hq)),fun h=>by cases h⟩⟩
     obtain⟨hN,⟨vs,hown,hrv,hov⟩,hO⟩:=Jn hP
     have hux:=he x _ hx
     simp only[Rep] at hux
     obtain⟨-,hux,-⟩:=hux
     have hl:(llen0 l).toNat=l.length:=by simp[llen0]
     have hrep:∀ c',Af c' (flatL τ (lrep0 (llen0 l) z0)) (repL l.length z.cells.toList):=fun c'=>by
      rw[lrep0,hl,VJ]
      exact Af.repL (l:=flat τ z0) (QP hunf (by rw[<-hz];exact Jo _ _)) _
     have hone':∀ u∈repL l.length z.cells.toList,u.oneCell'=true:=fun u hu=>List.all_eq_true.1 hone u (Nu hu)
     have hrl:(repL l.length z.cells.toList).length=l.length*t'.n:=by
      have:=(hrep c).len
      rw[this,Zl,lrep0,List.length_replicate,hl,hn]
     have fin:∀ w',(∀ ty,(Builtin.clear_ #[t] ty #[e x]).run P c.w=.ok (.tuple #[]) w')->w'.ownsG 0 e' t'.n (c.ν k) l.length (repL l.length z.cells.toList)->Stp (fun b=>blk (c.ν k)=some b) c.w w' ->
       ∃ v w' ν',(execOp e ⟨none,.call {callee:=.builtin .clear,args := #[x],argTypes := #[t]},ty, "", #[],none⟩).run P c.w=.ok (.value v) w'/\Ok c [(k,.row e' t' l)] [(k,.row e' τ (lrep0 (llen0 l) z0))] .un v w' ν':=by
      intro w' hr hw hst
      have hlen:(lrep0 (llen0 l) z0).length=l.length:=by rw[lrep0,List.length_replicate,hl]
      exact⟨.tuple #[],w',_,FD e _ _ _ za3,Ok.change hN hO hG.lt hst ⟨_,by rw[hn,hlen];exact hw,hrep _,hone'⟩ zbz⟩
     rcases hown.2 with⟨hv,h0⟩|⟨g,cp,cur,fz,hv,hg0,hg,hnc,hcm,hcs',htake,hfz⟩
     ·refine fin c.w (fun ty=>by rw[hux,hv];exact PT c.w t ty e' hS.ht _ _ _ (.inl rfl)) ?_ (Stp.refl _ _)
      have:repL l.length z.cells.toList=vs:=by
       have e1:vs.length=0:=by rw[hown.1,h0,Nat.zero_mul]
       rw[List.eq_nil_of_length_eq_zero e1,h0];rfl
      rw[this];exact hown
     ·by_cases h0:l.length=0
      ·refine fin c.w (fun ty=>by rw[hux,hv,h0];exact PT c.w t ty e' hS.ht _ _ _ (.inr rfl)) ?_ (Stp.refl _ _)
       have:repL l.length z.cells.toList=vs:=by
        have e1:vs.length=0:=by rw[hown.1,h0,Nat.zero_mul]
        rw[List.eq_nil_of_length_eq_zero e1,h0];rfl
       rw[this];exact hown
      ·have hcap:l.length*t'.n<=cp*t'.n:=Nat.mul_le_mul_right _ hnc
       have hinf:(P.info? e').bind (·.zero)=some z:=by
        obtain⟨inf,q1,q2,q3,q4⟩:=info_parts hS.hi
        rw[q1];exact q2
       have hr:=fun ty=>lC (P:=P) t ty e' g l.length cp cur e' fz z c.w hS.ht hinf hg hfz zaa hone' h0
       refine fin _ (fun ty=>by rw[hux,hv];exact hr ty) ?_ ((Stp.of_grown (GL c.w g _)).mono fun i _ h=>by rw[hv];exact h)
       refine⟨hrl,.inr ⟨g,cp,_,fz,hv,Nat.zero_le _,setRow_heap c.w g cur _ e' _ hg,hnc,hcm,?_,?_,?_⟩⟩
       ·simp only[List.size_toArray,List.length_append,List.length_drop,Array.length_toList];omega
       ·rw[<-hrl];exact List.take_left
       ·refine cast (congrArg (fun n=>ND n fz) ?_) hfz
        simp only[List.size_toArray,List.length_append,List.length_drop,Array.length_toList];omega
   ·cases h
  ·cases h
 ·cases h
theorem VK{c:Cx}{e:Operand->Value}(he:Uw c L e):∀(xs:List Operand) (ss:List AV),fG (FZ L) xs=some ss->Af c ss (xs.map e)
 | [],ss,h=>by simp_all[fG,Af]
 | x::r,ss,h=>by
  simp only[fG] at h
  split at h
  ·rename_i s ss' h1 h2
   obtain rfl:=Option.some.inj h
   simp only[List.map_cons,Af]
   exact⟨_,_,rfl,he x s h1,VK he _ _ h2⟩
  ·cases h
theorem X5{a:Array α}{x:α}(h:a.toList=[x]):a = #[x]:=zaU
theorem QU{a:Array α}{x y:α}(h:a.toList=[x,y]):a = #[x,y]:=zaU
theorem A6O(hT:TTok P I T)(hm:∀ k R,hk k=some R->k<m){op:Op}(h:zq T (FZ L) hk m op K=some r):∃ tr,K tr=some r/\TrOK P I L hk m op tr:=by
 unfold zq at h
 try simp only[xM,xN] at h
 split at h
 ·rename_i x
  obtain⟨s,hs,h⟩:=Ky h
  exact⟨_,h,TrOK.mk0 fun ty=>DN fun c e hG he=>⟨e x,by simp[execOp],he x _ hs⟩⟩
 ·rename_i x
  obtain⟨s,hs,h⟩:=Ky h
  exact⟨_,h,TrOK.mk0 fun ty=>DN fun c e hG he=>⟨e x,by simp[execOp],he x _ hs⟩⟩
 ·rename_i b x y
  split at h
  ·rename_i c0 hb
   cases c0 with
   | true =>
    obtain⟨s,hs,h⟩:=Ky h
    exact⟨_,h,TrOK.mk0 fun ty=>DN fun c e hG he=>⟨e x,by have:=he b _ hb;simp_all[Rep,execOp,asBool],he x _ hs⟩⟩
   | false =>
    obtain⟨s,hs,h⟩:=Ky h
    exact⟨_,h,TrOK.mk0 fun ty=>DN fun c e hG he=>⟨e y,by have:=he b _ hb;simp_all[Rep,execOp,asBool],he y _ hs⟩⟩
  ·cases h
 ·rename_i x
  split at h
  ·rename_i k o hx
   exact⟨_,h,TrOK.mk0 fun ty=>DN fun c e hG he=>⟨e x,by have:=he x _ hx;simp only[Rep] at this;obtain⟨_,b,_,h⟩:=this;simp[execOp,h],he x _ hx⟩⟩
  ·rename_i k i s o hx
   exact⟨_,h,TrOK.mk0 fun ty=>DN fun c e hG he=>⟨e x,by have:=he x _ hx;simp only[Rep] at this;obtain⟨_,b,_,h⟩:=this;simp[execOp,h],he x _ hx⟩⟩
  ·rename_i l hx
   exact⟨_,h,TrOK.mk0 fun ty=>DN fun c e hG he=>⟨e x,by have:=he x _ hx;simp only[Rep] at this;obtain⟨p,us,h,_⟩:=this;simp[execOp,h],he x _ hx⟩⟩
  ·cases h
 ·rename_i x i
  split at h
  ·rename_i l hx
   obtain⟨s,hs,h⟩:=Ky h
   refine⟨_,h,TrOK.mk0 fun ty=>DN fun c e hG he=>?_⟩
   have:=he x _ hx
   simp only[Rep] at this
   obtain⟨us,hu,hr⟩:=this
   obtain⟨u,hu',hr'⟩:=hr.get hs
   exact⟨u,by
    have h1:execOp e ⟨none,.extract x i,ty, "", #[],none⟩=(do pure (.value (<-Instr.extract (e x) i))):=rfl
    simp_all[Instr.extract],hr'⟩
  ·cases h
 ·rename_i t x
  split at h
  ·rename_i a hx
   exact⟨_,h,TrOK.mk0 fun ty=>DN fun c e hG he=>⟨.bool (!a),by have:=he x _ hx;simp_all[Rep,execOp,Op.unary],by simp only[Rep];rfl⟩⟩
  ·cases h
 ·rename_i t x
  split at h
  ·rename_i a hx
   exact⟨_,h,TrOK.mk0 fun ty=>DN fun c e hG he=>⟨.int .i64 (ineg0 a),by have:=he x _ hx;simp_all[Rep,execOp,Op.unary,Op.intArith,ineg0],by simp only[Rep]⟩⟩
  ·cases h
 ·rename_i t x
  split at h
  ·rename_i a hx
   exact⟨_,h,TrOK.mk0 fun ty=>DN fun c e hG he=>⟨wordV (~~~a),by have:=he x _ hx;simp only[Rep] at this;exact zZ this,by simp only[Rep]⟩⟩
  ·cases h
 ·rename_i op t x y yt
  split at h
  ·rename_i a b hx hy
   obtain⟨s,hK,hB⟩:=A2M (P:=P) (t:=t) h (fun hbt=>by
    split at hbt
    ·rename_i hu
     obtain⟨i,hi,hiu⟩:=KE hT hu
     have:=hi.und
     simp_all
    ·cases hbt) (fun he2=>by
    split at he2
    ·rename_i i hi;exact(hT _ _ hi).eq2 he2
    ·cases he2) (fun hen=>by
    split at hen
    ·rename_i i hi
     exact(hT _ _ hi).eqn hen
    ·cases hen) (fun hbs=>by
    split at hbs
    ·rename_i el hu
     obtain⟨i,hi,hiu⟩:=KE hT hu
     have:=hi.und
     simp_all
    ·cases hbs)
   refine⟨_,hK,TrOK.mk0 fun ty=>DN fun c e hG he=>?_⟩
   obtain⟨q1,v',q2,q3⟩:=hB c _ _ c.w (he x _ hx) (he y _ hy)
   exact⟨v',A6I rfl rfl (q1 x y) q2,q3⟩
  ·cases h
 ·exact fP hT h
 ·exact tC hT h
 ·exact A2S h
 ·exact zy hT h
 ·exact sZ hT h
 ·exact A00 hT h
 ·exact tJ hT h
 ·exact tH hT h
 ·exact A07 hT hm h
 ·exact A6M hT h
 ·rename_i f xs ys
  split at h
  ·rename_i a b ha hb
   refine⟨_,h,TrOK.mk0 fun ty=>DN fun c e hG he=>⟨.func (.func f) (xs.map e) (ys.map e),by simp[execOp,Instr.makeFunc],?_⟩⟩
   grind[Rep,VK,Array.toList_map]
  ·cases h
 ·exact A2U hT h
 ·exact A6K hT h
 ·rename_i t x lo hi mx
  cases hgv:(ABH (FZ L x) && !lo.isSome && !hi.isSome && !mx.isSome) with
  | true =>
   rw[hgv,cond_true] at h
   simp only[Bool.and_eq_true,Bool.not_eq_true',Option.isSome_eq_false_iff,Option.isNone_iff_eq_none] at hgv
   obtain⟨⟨⟨-,rfl⟩,rfl⟩,rfl⟩:=hgv
   exact A03 hT h
  | false =>
  rw[hgv,cond_false] at h
  cases hav:(A2G (FZ L x) && !lo.isSome && !hi.isSome && !mx.isSome) with
  | true =>
   rw[hav,cond_true] at h
   simp only[Bool.and_eq_true,Bool.not_eq_true',Option.isSome_eq_false_iff,Option.isNone_iff_eq_none] at hav
   obtain⟨⟨⟨-,rfl⟩,rfl⟩,rfl⟩:=hav
   exact A04 hT h
  | false =>
  rw[hav,cond_false] at h
  cases hmk:(markT T&&hi.isSome&&isRow hk (FZ L x)) with
  | true =>
   rw[hmk,cond_true] at h
   split at h
   ·rename_i il hlo;exact A02 hT hlo h
   ·cases h
  | false =>
   rw[hmk,cond_false] at h
   cases hmz:(markT T && !hi.isSome && !mx.isSome&&isRow hk (FZ L x)) with
   | true =>
    rw[hmz,cond_true] at h
    simp only[Bool.and_eq_true,Bool.not_eq_true',Option.isSome_eq_false_iff,Option.isNone_iff_eq_none] at hmz
    obtain⟨⟨⟨-,rfl⟩,rfl⟩,-⟩:=hmz
    split at h
    ·rename_i il hlo;exact A2X hT hlo h
    ·cases h
   | false =>
   rw[hmz,cond_false] at h
   split at h
   ·rename_i a F il hx hlo;exact A2Y hT hx hlo h
   ·cases h
 ·rename_i b xs ts
  split at h
  ·rename_i x t hx ht
   obtain rfl:=X5 hx
   obtain rfl:=X5 ht
   exact A2V hT h
  ·rename_i x y hx
   obtain rfl:=QU hx
   split at h
   ·rename_i a b h1 h2
    refine⟨_,h,TrOK.mk0 fun ty=>DN fun c e hG he=>⟨.int .i64 (min a b),FD e _ _ _ ?_,by simp only[Rep]⟩⟩
    have h1:=he x _ h1
    have h2:=he y _ h2
    simp only[Rep] at h1 h2
    have h3:(if b<a then b else a)=min a b:=zaa
    simp_all[builtin,Builtin.min_,Builtin.min2]
   ·cases h
  ·rename_i x y hx
   obtain rfl:=QU hx
   split at h
   ·rename_i a b h1 h2
    refine⟨_,h,TrOK.mk0 fun ty=>DN fun c e hG he=>⟨.int .i64 (max a b),FD e _ _ _ ?_,by simp only[Rep]⟩⟩
    have h1:=he x _ h1
    have h2:=he y _ h2
    simp only[Rep] at h1 h2
    have h3:(if b>a then b else a)=max a b:=zaa
    simp_all[builtin,Builtin.max_,Builtin.max2]
   ·cases h
  ·rename_i x y t t' hx ht
   obtain rfl:=QU hx
   obtain rfl:=QU ht
   cases hb:Nat.beq t t' with
   | false =>
    rw[hb,cond_false] at h
    grind[A09,A08]
   | true =>
    rw[hb,cond_true] at h
    obtain rfl:=FX hb
    grind[A0A,A2c]
  ·rename_i x y t t' hx ht
   obtain rfl:=QU hx
   obtain rfl:=QU ht
   cases hb:Nat.beq t t' with
   | false=>simp_all
   | true =>
    rw[hb,cond_true] at h;obtain rfl:=FX hb
    cases hv:ABL (FZ L x) with
    | true=>rw[hv,cond_true] at h;exact A0B hT h
    | false=>rw[hv,cond_false] at h;exact A2d hT h
  ·rename_i x t hx ht
   obtain rfl:=X5 hx
   obtain rfl:=X5 ht
   exact A2e hT h
  ·cases h
 ·cases h
end
end Go.Ax
namespace Go.Ax
open Go Go.RowKit Go.Eng
def Lj:Nat->List Rs->Fp
 | _,[]=>[]
 | i,R::l=>(i,R)::Lj (i+1) l
def ZY(P:Program)(I:World->Prop)(f:FuncId)(ins:List AV)(Hin:List Rs)(out:AV)(Hout:List (Option Rs)):Prop :=
 ∀(ν:Nat->Value) (O:Nat->Prop) (w:World) (args:List Value),Good I ⟨(· < Hin.length),ν,O,w⟩->Af ⟨(· < Hin.length),ν,O,w⟩ ins args->Pre ⟨(· < Hin.length),ν,O,w⟩ (Lj 0 Hin) (Gu id 0 Hout) ->
  Calls P f args.toArray w (zW fun v w'=>∃ ν',Ok ⟨(· < Hin.length),ν,O,w⟩ (Lj 0 Hin) (Gu id 0 Hout) out v w' ν')
theorem lD:∀(l:List Rs) (i k:Nat),Ez k (Lj i l)=if i<=k then l[k-i]? else none
 | [],i,k=>by simp[Lj]
 | R::l,i,k=>by
  rw[Lj,DF,lD l (i+1) k]
  grind
theorem PU(l:List Rs)(k:Nat):Ez k (Lj 0 l)=l[k]?:=by rw[lD];simp
theorem Nv:∀ {H:List (Option Rs)} {ρ:Nat->Nat} {i j:Nat} {R':Rs},Ez j (Gu ρ i H)=some R'->∃ q R,H[q]?=some (some R)/\ρ (i+q)=j/\R'=IG ρ R
 | [],ρ,i,j,R',h=>za0
 | some R::H,ρ,i,j,R',h=>by
  simp only[Gu] at h
  rw[DF] at h
  split at h
  ·rename_i e;exact⟨0,R,rfl,by simp_all,(Option.some.inj h).symm⟩
  ·obtain⟨q,R2,h1,h2,h3⟩:=Nv h
   exact⟨q+1,R2,by grind,by grind,h3⟩
 | none::H,ρ,i,j,R',h=>by
  simp only[Gu] at h
  obtain⟨q,R2,h1,h2,h3⟩:=Nv h
  exact⟨q+1,R2,by grind,by grind,h3⟩
theorem Tn:∀ {H:List (Option Rs)} {ρ:Nat->Nat} {i q:Nat} {R:Rs},(∀ a b,i<=a->a<i+H.length->i<=b->b<i+H.length->ρ a=ρ b->a=b)->H[q]?=some (some R)->Ez (ρ (i+q)) (Gu ρ i H)=some (IG ρ R)
 | [],ρ,i,q,R,_,h=>zbq
 | o::H,ρ,i,0,R,hinj,h=>by
  simp only[List.getElem?_cons_zero,Option.some.injEq] at h
  subst h
  simp only[Gu]
  rw[DF,if_pos zat]
 | o::H,ρ,i,q+1,R,hinj,h=>by
  have hq:q<H.length:=(List.getElem?_eq_some_iff.1 za8).1
  have ih:=Tn (H:=H) (ρ:=ρ) (i:=i+1) (q:=q) (R:=R) (fun a b h1 h2 h3 h4=>hinj a b zaa zaD zaa zaD) za8
  rw[show i+(q+1)=i+1+q from by omega]
  cases o with
  | none=>simp only[Gu];exact ih
  | some R0 =>
   simp only[Gu]
   rw[DF,if_neg ?_]
   ·exact ih
   ·intro e
    have:=hinj (i+1+q) i zaa zaD (Nat.le_refl _) zat e
    omega
theorem Xw{H:List (Option Rs)}{k:Nat}{R:Rs}(h:Ez k (Gu id 0 H)=some R):H[k]?=some (some R):=by
 obtain⟨q,R2,h1,h2,rfl⟩:=Nv h
 simp only[Nat.zero_add,id_eq] at h2
 subst h2
 have:∀ R:Rs,IG id R=R:=by
  have key:∀ l:List AV,IE id l=l:=by
   intro l
   have k2:(∀ s:AV,ren id s=s)/\∀ l:List AV,IE id l=l:=by
    refine⟨fun s=>?_,fun l=>?_⟩
    ·exact AV.rec (motive_1:=fun s=>ren id s=s) (motive_2:=fun l=>IE id l=l) zaO zaO zaO zaO zaO zaO zaO zaO zaO zaO zaO zaO zaO zaO zaO zaO (fun l h=>by simp only[ren,h]) (fun l h=>by simp only[ren,h]) (fun l h=>by simp only[ren,h]) (fun f a b h1 h2=>by simp_all[ren]) (by simp[IE]) (fun a l h1 h2=>by simp_all[IE]) s
    ·exact AV.rec_1 (motive_1:=fun s=>ren id s=s) (motive_2:=fun l=>IE id l=l) zaO zaO zaO zaO zaO zaO zaO zaO zaO zaO zaO zaO zaO zaO zaO zaO (fun l h=>by simp only[ren,h]) (fun l h=>by simp only[ren,h]) (fun l h=>by simp only[ren,h]) (fun f a b h1 h2=>by simp_all[ren]) (by simp[IE]) (fun a l h1 h2=>by simp_all[IE]) l
   exact k2.2 l
  intro R;cases R<;>simp only[IG,key]
 simp_all
theorem lF{H:List (Option Rs)}{k:Nat}{R:Rs}(h:H[k]?=some (some R)):has k (Gu id 0 H):=by
 have:=Tn (ρ:=id) (i:=0) (q:=k) (fun a b _ _ _ _ e=>e) h
 simp_all[Di]
theorem zipF_some:∀ {ks:List Nat} {l:List Rs} {k:Nat} {R:Rs},Ez k (zipF ks l)=some R->∃ i:Nat,ks[i]?=some k/\l[i]?=some R
 | [],_,k,R,h|_::_,[],k,R,h=>by simp[zipF] at h
 | a::ks,R0::l,k,R,h=>by
  simp only[zipF] at h
  rw[DF] at h
  split at h
  ·rename_i e;subst e;exact⟨0,rfl,by simpa using h⟩
  ·obtain⟨i,h1,h2⟩:=zipF_some h
   exact⟨i+1,by grind,by grind⟩
theorem ML{k:Nat}:∀ {l:List Nat},OV k l=true↔k∈l
 | []=>by simp[OV]
 | a::r=>by simp[OV,ML (l:=r)]
theorem Ob:∀ {l:List Nat},nodupB l=true↔l.Nodup
 | []=>by simp[nodupB]
 | a::r=>by
  simp only[nodupB,Bool.and_eq_true,Bool.not_eq_true',List.nodup_cons,Ob (l:=r)]
  rw[<-ML];simp
theorem zipF_get:∀ {ks:List Nat} {l:List Rs} {i k:Nat} {R:Rs},ks.Nodup->ks[i]?=some k->l[i]?=some R->Ez k (zipF ks l)=some R
 | [],l,i,k,R,_,h,_|a::ks,[],i,k,R,_,_,h=>zbq
 | a::ks,R0::l,0,k,R,hn,h1,h2=>by
  simp only[List.getElem?_cons_zero,Option.some.injEq] at h1 h2
  subst h1;subst h2
  simp only[zipF];rw[DF,if_pos rfl]
 | a::ks,R0::l,i+1,k,R,hn,h1,h2=>by
  simp only[List.getElem?_cons_succ] at h1 h2
  have hk:k∈ks:=List.mem_of_getElem? h1
  have:k≠a:=fun e=>(List.nodup_cons.1 hn).1 (e▸hk)
  simp only[zipF];rw[DF,if_neg this]
  exact zipF_get (List.nodup_cons.1 hn).2 h1 h2
theorem aF{hk:Nat->Option Rs}:∀ {ks:List Nat} {l:List Rs},kR hk ks=some l->l.length=ks.length/\∀(i k:Nat),ks[i]?=some k->∃ R,l[i]?=some R/\hk k=some R
 | [],l,h=>by simp only[kR,Option.some.injEq] at h;simp_all
 | a::ks,l,h=>by
  simp only[kR] at h
  split at h
  ·rename_i R l' h1 h2
   obtain rfl:=Option.some.inj h
   obtain⟨h3,h4⟩:=aF h2
   grind
  ·cases h
theorem NG{hk:Nat->Option Rs}:∀ {ks:List Nat} {k:Nat} {R:Rs},Ez k (rowsOf hk ks)=some R->hk k=some R/\k∈ks/\∃ e t l,R=.row e t l
 | [],k,R,h=>za0
 | a::ks,k,R,h=>by
  simp only[rowsOf] at h
  split at h
  ·rename_i e t l hh
   rw[DF] at h
   split at h
   ·grind
   ·obtain⟨h1,h2,h3⟩:=NG h;simp_all
  ·obtain⟨h1,h2,h3⟩:=NG h;simp_all
theorem MM{hk:Nat->Option Rs}{e:Nat}{t:Ty}{l:List (El t)}:∀ {ks:List Nat} {k:Nat},k∈ks->hk k=some (.row e t l)->Ez k (rowsOf hk ks)=some (.row e t l)
 | a::ks,k,h,hh=>by
  simp only[rowsOf]
  rcases List.mem_cons.1 h with rfl|h
  ·rw[hh];simp only;rw[DF,if_pos rfl]
  ·split
   ·rename_i e' t' l' h'
    rw[DF]
    by_cases e1:k=a
    ·simp_all
    ·rw[if_neg e1];exact MM h hh
   ·exact MM h hh
theorem Tq:∀ {l acc:List Nat} {k:Nat},k∈nub acc l↔k∈acc\/k∈l
 | [],acc,k=>by simp[nub]
 | a::l,acc,k=>by
  simp only[nub]
  cases h:OV a acc with
  | true =>
   simp only[cond_true];rw[Tq (l:=l)]
   have:=ML.1 h
   grind
  | false=>simp only[cond_false];rw[Tq (l:=l)];grind
mutual
theorem A8a{hk:Nat->Option Rs}{c:Cx}{G:Fp}(hres:∀ k R,Ez k G=some R->c.N k/\Holds c k R/\∀ b,blk (c.ν k)=some b->c.O b):∀(s:AV) (u:Value),(∀ k∈names s,∀ e t l,hk k=some (.row e t l)->Ez k G=some (.row e t l))->Rep c s u->Rep (c.less G) (vw hk s) u
 | .un,u,_,h=>by simp only[vw,Rep]
 | .b _,u,_,h|.i _,u,_,h|.u8 _,u,_,h|.u32 _,u,_,h|.u64 _,u,_,h|.str _,u,_,h|.nil,u,_,h|.gp _,u,_,h=>by simp_all[vw,Rep]
 | .sl t l,u,_,h|.st t l,u,_,h|.sn t l,u,_,h=>Rep.le (c.less_le G) _ _ (GU _) h
 | .pa k o,u,_,h|.pe k i s o,u,_,h=>by simp only[vw];exact Rep.le (c.less_le G) _ _ (GU _) h
 | .vs k s a b,u,hn,h=>by
  simp only[vw]
  split
  ·rename_i e t l hh
   cases hc:Nat.beq t.n s with
   | false=>exact Rep.le (c.less_le G) _ _ (GU _) h
   | true =>
    obtain rfl:=FX hc
    have hg:=hn k (by simp[names]) e t l hh
    simp only[cond_true,Rep] at h ⊢
    obtain⟨_,p,n,cap,e1,⟨b1,b2,b3,b4⟩,rfl⟩:=h
    obtain⟨_,h2,_⟩:=hres k _ hg
    intro w' hs
    have hr:=IC.reads h2 (fun b hb=>⟨hb.1,fun e=>hb.2 ⟨k,_,hg,e⟩⟩) w' hs
    rw[e1] at hr
    have hnl:n=l.length:=by
     obtain⟨_,_,_,_,hq,_⟩:=hr
     simp_all
    grind[fO]
  ·exact Rep.le (c.less_le G) _ _ (GU _) h
 | .pt l,u,_,h=>Rep.le (c.less_le G) _ _ (GU _) h
 | .nm k,u,hn,h=>by
  simp only[vw]
  split
  ·rename_i e t l hh
   have hg:=hn k (by simp[names]) e t l hh
   simp only[Rep] at h ⊢
   obtain⟨_,rfl,_⟩:=h
   obtain⟨_,h2,_⟩:=hres k _ hg
   exact IC.reads h2 fun b hb=>⟨hb.1,fun e=>hb.2 ⟨k,_,hg,e⟩⟩
  ·exact Rep.le (c.less_le G) _ _ (GU _) h
 | .agg l,u,hn,h=>by
  simp only[vw,Rep] at h ⊢
  obtain⟨us,h1,h2,h3⟩:=h
  exact⟨us,h1,MN hres l us (by grind[names]) h2,h3⟩
 | .tup l,u,hn,h=>by
  simp only[vw,Rep] at h ⊢
  obtain⟨us,h1,h2⟩:=h
  exact⟨us,h1,MN hres l us (by grind[names]) h2⟩
 | .fn f a b,u,hn,h=>by
  simp only[vw,Rep] at h ⊢
  obtain⟨us,vs,h1,h2,h3⟩:=h
  simp only[names] at hn
  exact⟨us,vs,h1,MN hres a us (fun k hk=>hn k (List.mem_append.2 (.inl hk))) h2,MN hres b vs (fun k hk=>hn k (List.mem_append.2 (.inr hk))) h3⟩
theorem MN{hk:Nat->Option Rs}{c:Cx}{G:Fp}(hres:∀ k R,Ez k G=some R->c.N k/\Holds c k R/\∀ b,blk (c.ν k)=some b->c.O b):∀(s:List AV) (u:List Value),(∀ k∈G7 s,∀ e t l,hk k=some (.row e t l)->Ez k G=some (.row e t l))->Af c s u->Af (c.less G) (kQ hk s) u
 | [],u,_,h=>by simp_all[kQ,Af]
 | s::r,u,hn,h=>by
  simp only[kQ,Af] at h ⊢
  simp only[G7] at hn
  obtain⟨v,t,h1,h2,h3⟩:=h
  exact⟨v,t,h1,A8a hres s v (fun k hk=>hn k (List.mem_append.2 (.inl hk))) h2,MN hres r t (fun k hk=>hn k (List.mem_append.2 (.inr hk))) h3⟩
end
theorem A2f{c:Cx}{t:Option Ty}{a:AV}{u:Value}(h:Rep c a u):Rep c (A2I t a) u:=by
 unfold A2I
 split
 ·exact h
 ·split
  ·grind[Rep,QP]
  ·split
   ·rename_i x hu
    split
    ·rename_i b hb
     have:=QP hu (Af.one h)
     rw[hb] at this
     obtain⟨u',hu',hr⟩:=Af.un1 this
     simp_all
    ·exact h
   ·exact h
theorem Tt{c:Cx}:∀(ts:List (Option Ty)) {as:List AV} {us:List Value},Af c as us->Af c (Vs ts as) us
 | t::ts,a::as,us,h=>by
  simp only[Vs,Af] at h ⊢
  obtain⟨u,r,h1,h2,h3⟩:=h
  exact⟨u,r,h1,A2f h2,Tt ts h3⟩
 | [],as,us,h|t::ts,[],us,h=>by simp_all[Vs]
end Go.Ax
namespace Go.Ax
open Go Go.RowKit Go.Eng
mutual
theorem Rep.push{ρ:Nat->Nat}{N N':Nat->Prop}{ν ν':Nat->Value}{O O':Nat->Prop}{w:World}{M:Nat}(hN:∀ k,k<M->N k->N' (ρ k)/\ν' (ρ k)=ν k)(hO:∀ w'',Stp O' w w''->Stp O w w''):∀(s:AV) (u:Value),PL M s=true->Rep ⟨N,ν,O,w⟩ s u->Rep ⟨N',ν',O',w⟩ (Ax.ren ρ s) u
 | .un,u,_,h=>by simp only[Ax.ren,Rep]
 | .b _,u,_,h|.i _,u,_,h|.u8 _,u,_,h|.u32 _,u,_,h|.u64 _,u,_,h|.str _,u,_,h|.nil,u,_,h|.gp _,u,_,h|.sl t l,u,_,h|.st t l,u,_,h|.sn t l,u,_,h=>by simp_all[Ax.ren,Rep]
 | .nm k,u,hn,h=>by
  simp only[Ax.ren,Rep] at h ⊢
  have:=hN k (by simpa [PL] using hn) h.1
  grind
 | .pa k o,u,hn,h=>by
  simp_all[Ax.ren,Rep,PL]
 | .pe k i s o,u,hn,h=>by
  simp_all[Ax.ren,Rep,PL]
 | .vs k s a b,u,hn,h=>by
  simp_all[Ax.ren,Rep,PL]
 | .tup l,u,hn,h=>by
  simp only[Ax.ren,Rep] at h ⊢
  obtain⟨us,h1,h2⟩:=h
  exact⟨us,h1,Af.push hN hO l us zbD h2⟩
 | .agg l,u,hn,h=>by
  simp only[Ax.ren,Rep] at h ⊢
  obtain⟨us,h1,h2,h3⟩:=h
  exact⟨us,h1,Af.push hN hO l us zbD h2,h3⟩
 | .fn f l q,u,hn,h=>by
  simp only[Ax.ren,Rep] at h ⊢
  obtain⟨us,vs,h1,h2,h3⟩:=h
  simp only[PL,Bool.and_eq_true] at hn
  exact⟨us,vs,h1,Af.push hN hO l us hn.1 h2,Af.push hN hO q vs hn.2 h3⟩
 | .pt l,u,hn,h=>by
  simp only[Ax.ren,Rep] at h ⊢
  obtain⟨p,us,h1,h2,h3,h4⟩:=h
  exact⟨p,us,h1,Af.push hN hO l us (by simp_all[PL]) h2,h3,fun w' hs=>h4 w' (hO w' hs)⟩
theorem Af.push{ρ:Nat->Nat}{N N':Nat->Prop}{ν ν':Nat->Value}{O O':Nat->Prop}{w:World}{M:Nat}(hN:∀ k,k<M->N k->N' (ρ k)/\ν' (ρ k)=ν k)(hO:∀ w'',Stp O' w w''->Stp O w w''):∀(s:List AV) (u:List Value),N7 M s=true->Af ⟨N,ν,O,w⟩ s u->Af ⟨N',ν',O',w⟩ (IE ρ s) u
 | [],u,_,h=>by simp_all[IE,Af]
 | s::r,u,hn,h=>by
  simp only[IE,Af] at h ⊢
  simp only[N7,Bool.and_eq_true] at hn
  obtain⟨v,t,h1,h2,h3⟩:=h
  exact⟨v,t,h1,Rep.push hN hO s v hn.1 h2,Af.push hN hO r t hn.2 h3⟩
end
theorem Holds.push{ρ:Nat->Nat}{N N':Nat->Prop}{ν ν':Nat->Value}{O O':Nat->Prop}{w:World}{M k:Nat}{R:Rs}(hN:∀ k,k<M->N k->N' (ρ k)/\ν' (ρ k)=ν k)(hO:∀ w'',Stp O' w w''->Stp O w w'')(hk:ν' (ρ k)=ν k)(hR:rlt M R=true)(h:Holds ⟨N,ν,O,w⟩ k R):Holds ⟨N',ν',O',w⟩ (ρ k) (IG ρ R):=by
 rw[Zo] at hR
 cases R with
 | var cells =>
  obtain⟨b,us,g1,g2,g3,g4⟩:=h
  exact⟨b,us,hk.trans g1,g2,Af.push hN hO cells us hR g3,g4⟩
 | row e t l =>
  obtain⟨vs,g1,g2,g3⟩:=h
  refine⟨vs,by simp_all,?_,g3⟩
  have this:Af ⟨N',ν',O',w⟩ (IE ρ (flatL t l)) vs:=Af.push hN hO _ vs hR g2
  simp_all[Uu]
 | rowA e sz n cells =>
  obtain⟨vs,g1,g2,g3⟩:=h
  exact⟨vs,by simp_all,Af.push hN hO cells vs hR g2,g3⟩
theorem tV{k:Nat}:∀ {ks:List Nat},k∈ks->idx k ks<ks.length/\ks[idx k ks]?=some k
 | a::r,h=>by
  simp only[idx]
  cases hb:Nat.beq k a with
  | true=>simp_all
  | false =>
   have hne:k≠a:=fun e=>zaL
   have hr:k∈r:=(List.mem_cons.1 h).resolve_left hne
   obtain⟨h1,h2⟩:=tV hr
   simp_all
theorem A6P{k:Nat}{ks:List Nat}(h:k∈ks):nth ks (idx k ks)=k:=by
 grind[tV,nth]
theorem JK{ks:List Nat}{i k:Nat}(h:ks[i]?=some k):nth ks i=k:=by simp_all[nth]
theorem Lu{ks:List Nat}:∀ {l:List Nat},allIn ks l=true↔∀ k∈l,k∈ks
 | []=>by simp[allIn]
 | a::r=>by simp only[allIn,Bool.and_eq_true,ML,Lu (l:=r),List.forall_mem_cons]
mutual
theorem lG{ks:List Nat}:∀(s:AV),(∀ k∈names s,k∈ks)->ren (nth ks) (ren (fun k=>idx k ks) s)=s/\PL ks.length (ren (fun k=>idx k ks) s)=true
 | .un,_|.b _,_|.i _,_|.u8 _,_|.u32 _,_|.u64 _,_|.str _,_|.sl _ _,_|.st _ _,_|.sn _ _,_|.nil,_|.gp _,_=>⟨rfl,rfl⟩
 | .nm k,h|.pa k o,h|.vs k s a b,h|.pe k i s o,h=>by simp_all[names,ren,A6P,PL,tV]
 | .pt l,h|.agg l,h|.tup l,h=>by obtain⟨h1,h2⟩:=Jb l (by simpa only[names] using h);simp_all[ren,PL]
 | .fn f a b,h=>by
  simp only[names] at h
  obtain⟨h1,h2⟩:=Jb a (fun k hk=>h k (List.mem_append.2 (.inl hk)))
  obtain⟨h3,h4⟩:=Jb b (fun k hk=>h k (List.mem_append.2 (.inr hk)))
  simp_all[ren,PL]
theorem Jb{ks:List Nat}:∀(s:List AV),(∀ k∈G7 s,k∈ks)->IE (nth ks) (IE (fun k=>idx k ks) s)=s/\N7 ks.length (IE (fun k=>idx k ks) s)=true
 | [],_=>⟨rfl,rfl⟩
 | s::r,h=>by
  simp only[G7] at h
  obtain⟨h1,h2⟩:=lG s (fun k hk=>h k (List.mem_append.2 (.inl hk)))
  obtain⟨h3,h4⟩:=Jb r (fun k hk=>h k (List.mem_append.2 (.inr hk)))
  simp_all[IE,N7]
end
theorem VL{ks:List Nat}{R:Rs}(h:∀ k∈NQ R,k∈ks):IG (nth ks) (IG (fun k=>idx k ks) R)=R/\rlt ks.length (IG (fun k=>idx k ks) R)=true:=by
 cases R with
 | var l=>obtain⟨h1,h2⟩:=Jb l h;simp_all[IG,rlt]
 | row e t l=>exact⟨rfl,rfl⟩
 | rowA e s n l=>obtain⟨h1,h2⟩:=Jb l h;simp_all[IG,rlt]
theorem Xx{ks:List Nat}:∀ {l:List Rs},VD ks l=true↔∀ R∈l,∀ k∈NQ R,k∈ks
 | []=>by simp[VD]
 | a::r=>by simp only[VD,Bool.and_eq_true,Lu,Xx (l:=r),List.forall_mem_cons]
theorem Nw:∀ {n:Nat} {H:List (Option Rs)} {i:Nat},PP n H=true->n<=i->i<H.length->∃ R,H[i]?=some (some R)
 | n,[],i,_,_,h=>zbq
 | 0,none::H,i,h,_,_=>by simp[PP] at h
 | 0,some R::H,0,_,_,_=>⟨R,rfl⟩
 | 0,some R::H,i+1,h,_,hi=>by
  obtain⟨R',h1⟩:=Nw (n:=0) (H:=H) (i:=i) (by grind[PP]) (Nat.zero_le _) zaU
  simp_all
 | n+1,o::H,0,_,h,_=>zaa
 | n+1,o::H,i+1,h,hi,hl=>by
  obtain⟨R',h1⟩:=Nw (n:=n) (H:=H) (i:=i) (by grind[PP]) zaa zaU
  simp_all
theorem Xy:∀ {M:Nat} {H:List (Option Rs)} {i:Nat} {R:Rs},fH M H=true->H[i]?=some (some R)->rlt M R=true
 | M,[],i,R,_,h|M,none::H,0,R,_,h=>zbq
 | M,none::H,i+1,R,h,hi=>Xy (H:=H) (by simp_all[fH]) (by simpa using hi)
 | M,some R0::H,0,R,h,hi=>by
  simp_all[fH]
 | M,some R0::H,i+1,R,h,hi=>by
  simp only[fH,Bool.and_eq_true] at h
  exact Xy (H:=H) h.2 (by simpa using hi)
theorem Ok.lift {c : Cx} {ks : List Nat} {l : List Rs} {H : List (Option Rs)} {m : Nat} {s : AV} {v : Value} {w' : World} {ν0 : Nat -> Value} (hnd : ks.Nodup) (hlen : l.length = ks.length) (hin : ∀ R ∈ l, ∀ k ∈ NQ R, k ∈ ks) (hle : ks.length <= H.length) (hnew : PP ks.length H = true) (hs : PL H.length s = true) (hr : fH H.length H = true)
    (hks : ∀ k ∈ ks, k < m) (hN : ∀ k ∈ ks, c.N k) (hfresh : ∀ j, m <= j -> j < m + (H.length - ks.length) -> ¬ c.N j)
    (ok : Ok ⟨(· < ks.length), fun i => c.ν (nth ks i), c.O, c.w⟩ (Lj 0 (l.map (IG fun k => idx k ks))) (Gu id 0 H) s v w' ν0) : ∃ ν', Ok c (zipF ks l) (Gu (EX ks m) 0 H) (ren (EX ks m) s) v w' ν' := by
  let n := ks.length
  let ρ := EX ks m
  have hρ1 : ∀ i, i < n -> ρ i = nth ks i := fun i hi => by
    show (bif Nat.blt i ks.length then nth ks i else _) = _
    rw [show Nat.blt i ks.length = true from by simpa using hi]; rfl
  have hρ2 : ∀ i, n <= i -> ρ i = m + (i - n) := fun i hi => by
    show (bif Nat.blt i ks.length then nth ks i else _) = _
    rw [show Nat.blt i ks.length = false from by rw [Bool.eq_false_iff]; intro e; have : i < ks.length := by simpa using e
                                                 omega]; rfl
  have hmem : ∀ i, i < n -> nth ks i ∈ ks := fun i hi => by
    have h : ks[i]? = some ks[i] := List.getElem?_eq_getElem hi
    grind [JK]
  have hget : ∀ i, i < n -> ks[i]? = some (nth ks i) := fun i hi => by
    grind [JK]
  have hinj : ∀ a b, a < H.length -> b < H.length -> ρ a = ρ b -> a = b := by
    grind [List.getElem?_inj]
  let ν' : Nat -> Value := fun j => if m <= j /\ j < m + (H.length - n) then ν0 (n + (j - m)) else c.ν j
  have hν1 : ∀ j, c.N j -> ν' j = c.ν j := fun j hj => if_neg fun h => hfresh j h.1 h.2 hj
  have hold : ∀ i, i < n -> ν0 i = c.ν (nth ks i) := fun i hi => ok.old i hi
  have hνρ : ∀ i, i < H.length -> ν' (ρ i) = ν0 i := by
    intro i hi
    rcases Nat.lt_or_ge i n with h1 | h1
    · grind
    · rw [hρ2 i h1]
      show (if m <= m + (i - n) /\ m + (i - n) < m + (H.length - n) then ν0 (n + (m + (i - n) - m)) else _) = _
      rw [if_pos ⟨by omega, by omega⟩]; congr 1; omega
  have hF : ∀ k R, Ez k (zipF ks l) = some R -> ∃ i, i < n /\ nth ks i = k /\ Ez i (Lj 0 (l.map (IG fun k => idx k ks))) = some (IG (fun k => idx k ks) R) := by
    grind [zipF_some, PU]
  have hF2 : ∀ i R0, Ez i (Lj 0 (l.map (IG fun k => idx k ks))) = some R0 -> ∃ R, i < n /\ Ez (nth ks i) (zipF ks l) = some R := by
    grind [PU, zipF_get]
  have hfb : ∀ b, ER c.ν (zipF ks l) b ↔ ER (fun i => c.ν (nth ks i)) (Lj 0 (l.map (IG fun k => idx k ks))) b := by
    intro b
    constructor
    · rintro ⟨k, R, hk, hb⟩
      obtain ⟨i, hi, hki, hfi⟩ := hF k R hk
      exact ⟨i, _, hfi, by simp_all⟩
    · rintro ⟨i, R0, hi, hb⟩
      obtain ⟨R, hin, hR⟩ := hF2 i R0 hi
      exact ⟨_, R, hR, hb⟩
  have hG : ∀ j R', Ez j (Gu ρ 0 H) = some R' -> ∃ i R, i < H.length /\ H[i]? = some (some R) /\ ρ i = j /\ R' = IG ρ R /\ has i (Gu id 0 H) := by
    intro j R' h
    obtain ⟨q, R, h1, h2, h3⟩ := Nv h
    rw [Nat.zero_add] at h2
    grind [lF]
  have hG2 : ∀ i R, H[i]? = some (some R) -> Ez (ρ i) (Gu ρ 0 H) = some (IG ρ R) := by
    grind [Tn]
  have hfb' : ∀ b, ER ν' (Gu ρ 0 H) b ↔ ER ν0 (Gu id 0 H) b := by
    intro b
    constructor
    · rintro ⟨j, R', hj, hb⟩
      obtain ⟨i, R, hi, h1, rfl, _, h2⟩ := hG j R' hj
      obtain ⟨R2, hR2⟩ := (Di _ _).1 h2
      exact ⟨i, R2, hR2, by grind⟩
    · rintro ⟨i, R2, hi, hb⟩
      have h1 := Xw hi
      exact ⟨ρ i, _, hG2 i R2 h1, by grind⟩
  have hNp : ∀ k, k < H.length -> (k < n \/ has k (Gu id 0 H)) -> (c.N (ρ k) \/ has (ρ k) (Gu ρ 0 H)) /\ ν' (ρ k) = ν0 k := by
    grind [Nw, Di]
  have hOO : ∀ w'', Stp (fun b => (c.O b /\ ¬ ER c.ν (zipF ks l) b) \/ ER ν' (Gu ρ 0 H) b) w' w'' -> Stp (fun b => (c.O b /\ ¬ ER (fun i => c.ν (nth ks i)) (Lj 0 (l.map (IG fun k => idx k ks))) b) \/ ER ν0 (Gu id 0 H) b) w' w'' :=
    fun w'' hs => hs.mono fun i _ h => h.imp (fun h => ⟨h.1, fun e => h.2 ((hfb i).2 e)⟩) (hfb' i).1
  refine ⟨ν', hν1, ?_, fun j R' hj => ?_, fun j j' R R' b hj hj' hne hb => ?_, ok.stp.mono fun i _ h => (hfb i).2 h⟩
  · exact Rep.push (M := H.length) hNp hOO s v hs ok.rep
  · obtain ⟨i, R, hi, h1, rfl, rfl, h2⟩ := hG j R' hj
    obtain ⟨R2, hR2⟩ := (Di _ _).1 h2
    have h3 := Xw hR2
    rw [h1] at h3
    simp only [Option.some.injEq] at h3
    subst h3
    obtain ⟨q1, q2⟩ := ok.res i R hR2
    refine ⟨Holds.push (M := H.length) hNp hOO (hνρ i hi) (Xy hr h1) q1, fun b hb => ?_⟩
    grind
  · obtain ⟨i, R1, hi, h1, rfl, _, h2⟩ := hG j R hj
    obtain ⟨i', R1', hi', h1', rfl, _, h2'⟩ := hG j' R' hj'
    obtain ⟨R2, hR2⟩ := (Di _ _).1 h2
    obtain ⟨R2', hR2'⟩ := (Di _ _).1 h2'
    rw [hνρ i hi] at hb
    rw [hνρ i' hi']
    exact ok.dist i i' R2 R2' b hR2 hR2' (fun e => hne (by rw [e])) hb
theorem fZ{ks:List Nat}:∀ {G:Fp},djB ks G=true->∀ k,has k G->k∉ks
 | [],_,k,h=>absurd h (Hf k)
 | (d,R)::G,h,k,hk=>by
  simp only[djB,Bool.and_eq_true,Bool.not_eq_true'] at h
  unfold has at hk
  rw[DF] at hk
  split at hk
  ·grind[ML]
  ·exact fZ h.2 k hk
section
variable {P:Program}{I:World->Prop}{L:LX}{ty:TypeId}{T:FT}{Q:Req->Option Rsp}{R:Type}{K:Tr->Option R}{r:R}{hk:Nat->Option Rs}{m:Nat}
theorem A0C{e:Operand->Value}{fx:Operand}{xs:Array Operand}{ats:Array TypeId}{f:FuncId}{us vs:List Value}{w:World}(hen:Ent P f)(hf:e fx=.func (.func f) us.toArray vs.toArray):
  (execOp e ⟨none,.call {callee:=.value fx,args:=xs,argTypes:=ats},ty, "", #[],none⟩).run P w=.ok (.enter f ((us++xs.toList.map e++vs).toArray)) w:=by
 have h1:execOp e ⟨none,.call {callee:=.value fx,args:=xs,argTypes:=ats},ty, "", #[],none⟩=(do let d<-resolve e {callee:=.value fx,args:=xs,argTypes:=ats} ty;invoke d.target d.args):=rfl
 have hargs:us.toArray++xs.map e++vs.toArray=(us++xs.toList.map e++vs).toArray:=zaL
 rw[h1]
 simp only[resolve,hf,Deferred.ofValue,Sem.run_bind,Sem.run_pure,Result.andThen_ok,invoke,hargs,hen _ w]
def gK(P:Program)(T:FT):Prop:=∀ f fi,Wh f T=some fi->Ent P f
def QOK(P:Program)(I:World->Prop)(Q:Req->Option Rsp):Prop:=∀ f args Hin s H,Q (.call f args Hin)=some (.ret s H)->ZY P I f args Hin s H
theorem SL{α:Type}:∀(l:List Rs) (K:List Rs->α),X3 l K=K l
 | [],K=>rfl
 | s::r,K=>by simp only[X3,QK,SL]
theorem A0D (hT : gK P T) (hQ : QOK P I Q) (hm : ∀ k R, hk k = some R -> k < m) {fx : Operand} {xs : Array Operand} {ats : Array TypeId} (h : VE T Q hk m (FZ L fx) (fG (FZ L) xs.toList) K = some r) : ∃ tr, K tr = some r /\ TrOK P I L hk m (.call { callee := .value fx, args := xs, argTypes := ats }) tr := by
  have main : ∀ (f : Nat) (fi : FI) (a b l : List AV) (vs : Fp) (all' : List AV), FZ L fx = some (.fn f a b) -> fG (FZ L) xs.toList = some l -> Wh f T = some fi -> (∀ k Rr, Ez k vs = some Rr -> hk k = some Rr) ->
      (∀ (c : Cx) (us : List Value), (∀ k Rr, Ez k vs = some Rr -> c.N k /\ Holds c k Rr /\ ∀ b, blk (c.ν k) = some b -> c.O b) -> Af c (a ++ l ++ b) us -> Af (c.less vs) all' us) -> Td fi.ro Q hk m f vs all' K = some r -> ∃ tr, K tr = some r /\ TrOK P I L hk m (.call { callee := .value fx, args := xs, argTypes := ats }) tr := by
    intro f fi a b l vs all' hf hl hfi hvk hall h
    unfold Td at h
    rw [EW] at h
    generalize hks : close hk 40 [] (G7 all') = ks at h
    unfold Tc at h
    split at h
    · rename_i Rl hR
      · cases hc : (nodupB ks && allIn ks (G7 all') && VD ks Rl && djB ks vs) with
        | false => simp_all
        | true =>
          rw [hc] at h
          simp only [Bool.and_eq_true, Ob, Lu, Xx] at hc
          obtain ⟨⟨⟨hnd, hin⟩, hinR⟩, hdj⟩ := hc
          simp only [cond_true, H5, SL] at h
          obtain ⟨res, hres, h⟩ := Option.bind_eq_some_iff.1 h
          obtain ⟨hlen, hget⟩ := aF hR
          split at h
          · rename_i s H
            cases hc2 : (Nat.ble ks.length H.length && PP ks.length H && PL H.length s && fH H.length H) with
            | false => simp_all
            | true =>
              rw [hc2] at h
              simp only [Bool.and_eq_true] at hc2
              obtain ⟨⟨⟨hle, hnew⟩, hs⟩, hr⟩ := hc2
              have hle : ks.length <= H.length := by simpa using hle
              have hsem := hQ _ _ _ _ _ hres
              have hzk : ∀ k Rr, Ez k (zipF ks Rl) = some Rr -> hk k = some Rr := by
                intro k Rr hkk
                obtain ⟨i, h1, h2⟩ := zipF_some hkk
                grind
              have hksm : ∀ k ∈ ks, k < m := by
                grind [List.getElem?_of_mem]
              have hj : Dj vs (zipF ks Rl) := by
                intro k h1 h2
                grind [Di, zipF_some, fZ]
              have hnewnm : ∀ k, has k (Gu (EX ks m) 0 H) -> has k (zipF ks Rl) \/ (m <= k /\ k < m + (H.length - ks.length)) := by
                intro k hkk
                obtain ⟨R', hR'⟩ := (Di _ _).1 hkk
                obtain ⟨q, Rq, h1, h2, _⟩ := Nv hR'
                have hq : q < H.length := (List.getElem?_eq_some_iff.1 h1).1
                rw [Nat.zero_add] at h2
                subst h2
                rcases Nat.lt_or_ge q ks.length with h3 | h3
                · left
                  have e1 : EX ks m q = nth ks q := by unfold EX; rw [show Nat.blt q ks.length = true from by simpa using h3]; rfl
                  grind [nth, Di, zipF_get]
                · right
                  have e1 : EX ks m q = m + (q - ks.length) := by
                    unfold EX
                    rw [show Nat.blt q ks.length = false from by simp_all [Bool.eq_false_iff]]; rfl
                  omega
              have hj' : Dj vs (Gu (EX ks m) 0 H) := by
                intro k h1 h2
                rcases hnewnm k h2 with h3 | h3
                · exact hj k h1 h3
                grind [Di]
              -- the run
              have core : ∀ (bb : Bool), (bb = true -> noRd (ren (EX ks m) s) = true) -> (bb = true -> NF (Gu (EX ks m) 0 H) = true) ->
                  TrOK P I L hk m (.call { callee := .value fx, args := xs, argTypes := ats }) ⟨ren (EX ks m) s, vs ++ zipF ks Rl, (bif bb then vs else []) ++ Gu (EX ks m) 0 H, false, H.length - ks.length⟩ := by
                intro bb hb1 hb2
                refine ⟨fun ty c e hG he hP => ?_, fun k Rr hkk => ?_, fun k hkk => ?_, (fun h => by cases h)⟩
                · have hP1 := Pre.less (F'' := Gu (EX ks m) 0 H) hj hP (fun k hkk => ?_) hG.lt
                  · have h0 := he fx _ hf
                    simp only [Rep] at h0
                    obtain ⟨us, vs', hfx, hu, hv⟩ := h0
                    have hargs := (hu.app (VK he _ _ hl)).app hv
                    unfold ja
                    rw [A0C (hT f fi hfi) hfx]
                    have hres1 : ∀ k Rr, Ez k vs = some Rr -> c.N k /\ Holds c k Rr /\ ∀ b, blk (c.ν k) = some b -> c.O b := fun k Rr hkk => hP.res k Rr (Fa hkk)
                    have hargs1 : Af (c.less vs) all' (us ++ xs.toList.map e ++ vs') := hall c _ hres1 hargs
                    have hN : ∀ k ∈ ks, c.N k := by
                      intro k hkk
                      obtain ⟨i, hi⟩ := List.getElem?_of_mem hkk
                      obtain ⟨R2, h3, _⟩ := hget i k hi
                      exact (hP.res k R2 (Iz hj (zipF_get hnd hi h3))).1
                    have hmem : ∀ i, i < ks.length -> ks[i]? = some (nth ks i) := fun i hi => by simp_all [JK]
                    obtain ⟨hb1', hb2'⟩ := Jb all' hin
                    have hlenR : (Rl.map (IG fun k => idx k ks)).length = ks.length := by simp [hlen]
                    have hrn : ∀ k, k < ks.length -> (c.less vs).N (nth ks k) -> k < (Rl.map (IG fun k => idx k ks)).length /\ (fun i => (c.less vs).ν (nth ks i)) k = (c.less vs).ν (nth ks k) := fun k hk _ => ⟨by omega, rfl⟩
                    have hGd : Good I ⟨(· < (Rl.map (IG fun k => idx k ks)).length), fun i => (c.less vs).ν (nth ks i), (c.less vs).O, (c.less vs).w⟩ := ⟨(hG.less vs).lt, (hG.less vs).inv⟩
                    have hRp : Af ⟨(· < (Rl.map (IG fun k => idx k ks)).length), fun i => (c.less vs).ν (nth ks i), (c.less vs).O, (c.less vs).w⟩ (IE (fun k => idx k ks) all') (us ++ xs.toList.map e ++ vs') :=
                      Af.ren (ρ := nth ks) (N := (c.less vs).N) (ν := (c.less vs).ν) (O := (c.less vs).O) hrn (fun _ h => h) _ _ hb2' zaL
                    have hPr : Pre ⟨(· < (Rl.map (IG fun k => idx k ks)).length), fun i => (c.less vs).ν (nth ks i), (c.less vs).O, (c.less vs).w⟩ (Lj 0 (Rl.map (IG fun k => idx k ks))) (Gu id 0 H) := by
                      refine ⟨fun k Rr hkk => ?_, fun k k' Rr Rr' b h1 h2 hne hb => ?_, fun k hkk => ?_⟩
                      · rw [PU, List.getElem?_map, Option.map_eq_some_iff] at hkk
                        obtain ⟨R0, h1, rfl⟩ := hkk
                        have hk1 : k < ks.length := zaU
                        obtain ⟨q1, q2, q3⟩ := hP1.res (nth ks k) R0 (zipF_get hnd (hmem k hk1) h1)
                        obtain ⟨b1, b2⟩ := VL (hinR R0 (List.mem_of_getElem? h1))
                        exact ⟨by omega, Holds.ren (ρ := nth ks) (N := (c.less vs).N) (ν := (c.less vs).ν) (O := (c.less vs).O) hrn (fun _ h => h) rfl b2 zaL, q3⟩
                      · rw [PU, List.getElem?_map, Option.map_eq_some_iff] at h1 h2
                        obtain ⟨R0, h1, rfl⟩ := h1
                        obtain ⟨R0', h2, rfl⟩ := h2
                        have hk1 : k < ks.length := zaU
                        have hk2 : k' < ks.length := zaU
                        exact hP1.dist (nth ks k) (nth ks k') R0 R0' b (zipF_get hnd (hmem k hk1) h1) (zipF_get hnd (hmem k' hk2) h2) (fun e => hne ((List.getElem?_inj hk1 hnd).1 zaL)) hb
                      grind [Di, PU]
                    refine Calls.mono (hsem _ _ _ _ hGd hRp hPr) fun rr w' hh => ?_
                    cases rr with
                    | returned v =>
                      obtain ⟨ν0, ok⟩ := hh
                      have ok' : Ok ⟨(· < ks.length), fun i => (c.less vs).ν (nth ks i), (c.less vs).O, (c.less vs).w⟩ (Lj 0 (Rl.map (IG fun k => idx k ks))) (Gu id 0 H) s v w' ν0 := by rw [hlenR] at ok; exact ok
                      obtain ⟨ν', ok2⟩ := Ok.lift (c := c.less vs) hnd hlen hinR hle hnew hs hr hksm hN (fun j h1 h2 hNj => by
                        have hj1 : has j (Gu (EX ks m) 0 H) := by
                          obtain ⟨Rq, hRq⟩ := Nw hnew (i := ks.length + (j - m)) zaa zaa
                          have hinj : ∀ a b, 0 <= a -> a < 0 + H.length -> 0 <= b -> b < 0 + H.length -> EX ks m a = EX ks m b -> a = b := by
                            intro a b _ ha _ hb e
                            have t1 : ∀ i, i < ks.length -> EX ks m i = nth ks i := fun i hi => by unfold EX; rw [show Nat.blt i ks.length = true from by simpa using hi]; rfl
                            have t2 : ∀ i, ks.length <= i -> EX ks m i = m + (i - ks.length) := fun i hi => by
                              unfold EX
                              rw [show Nat.blt i ks.length = false from by simp_all [Bool.eq_false_iff]]; rfl
                            grind [List.getElem?_inj]
                          have := Tn (ρ := EX ks m) (i := 0) (q := ks.length + (j - m)) hinj hRq
                          have e2 : EX ks m (0 + (ks.length + (j - m))) = j := by
                            unfold EX
                            rw [show Nat.blt (0 + (ks.length + (j - m))) ks.length = false from by rw [Bool.eq_false_iff]; intro e; have : 0 + (ks.length + (j - m)) < ks.length := by simpa using e
                                                                                                   omega]
                            grind
                          grind [Di]
                        rcases hP.new j (QT hj1) with h3 | h3
                        · grind [Gy, Di]
                        · exact h3 hNj) ok'
                      exact ⟨ν', Ok.lendOr bb hj hj' hG.lt hP.res hP.dist hb1 hb2 ok2⟩
                    | panicked ch | outgrown => exact hh
                  · rcases hP.new k (QT hkk) with h1 | h1
                    · rcases (Gy _ _ _).1 h1 with h2 | h2
                      · exact absurd hkk (hj' k h2)
                      simp_all
                    simp_all
                · rw [Iy] at hkk
                  cases hg : Ez k vs with
                  | some R2 | none => simp_all
                grind [Gy]
              simp only [cond_true] at h
              cases hro : fi.ro with
              | true =>
                rw [hro, cond_true] at h
                cases hsame : Ah (vs ++ zipF ks Rl) (Gu (EX ks m) 0 H) with
                | false => simp_all
                | true =>
                  rw [hsame, cond_true] at h
                  have hc0 := core false (fun h => by cases h) (fun h => by cases h)
                  have e := zt hsame
                  simp only [cond_false, List.nil_append, <- e] at hc0
                  exact ⟨_, h, ⟨hc0.opl, hc0.pre, hc0.new, fun _ => rfl⟩⟩
              | false =>
              rw [hro, cond_false] at h
              cases hb : (noRd (ren (EX ks m) s) && NF (Gu (EX ks m) 0 H)) with
              | true =>
                rw [hb] at h
                simp only [Bool.and_eq_true] at hb
                exact ⟨_, h, core true (fun _ => hb.1) (fun _ => hb.2)⟩
              | false => rw [hb] at h; exact ⟨_, h, core false (fun h => by cases h) (fun h => by cases h)⟩
          · cases h
    · cases h
  unfold VE at h
  split at h
  · rename_i f a b l hf hl
    split at h
    · rename_i fi hfi
      cases hp : fi.pown with
      | true =>
        rw [hp] at h
        simp only [cond_true, H5] at h
        exact main f fi a b l [] _ hf hl hfi (fun k Rr h => by cases h) (fun c us _ hr => Tt _ (Af.le (c.less_le []) _ _ (Dc _) hr)) h
      | false =>
        rw [hp] at h
        simp only [cond_false, H5] at h
        exact main f fi a b l _ _ hf hl hfi (fun k Rr hkk => (NG hkk).1) (fun c us hres hr => Tt _ (MN hres _ _ (fun k hkk e' t' l' hh => MM (Tq.2 (.inr hkk)) hh) hr)) h
    · cases h
  · cases h
end
end Go.Ax
namespace Go.Ax
open Go Go.RowKit Go.Eng
section
variable {P:Program}{I:World->Prop}{L:LX}{T:TT}{G:FT}{Q:Req->Option Rsp}{R:Type}{K:Tr->Option R}{r:R}{hk:Nat->Option Rs}{m:Nat}
theorem Xz(hT:TTok P I T)(hG:gK P G)(hQ:QOK P I Q)(hm:∀ k R,hk k=some R->k<m){op:Op}(h:IQ T G Q (FZ L) hk m op K=some r):∃ tr,K tr=some r/\TrOK P I L hk m op tr:=by
 unfold IQ at h
 split at h
 ·exact A0D hG hQ hm h
 grind[A6O]
end
def A0E:Fp->HX->HX
 | [],H=>H
 | (k,r)::F,H=>(k,some r)::A0E F H
def A0F:Fp->HX->HX
 | [],H=>H
 | (k,r)::F,H=>(k,none)::A0F F H
def stH(t:Tr)(H:HX):HX:=bif t.rd then H else A0E t.F' (A0F t.F H)
theorem xY{R:Type}:∀(F:Fp) (H:HX) (K:HX->R),A2J F H K=K (A0E F H)
 | [],H,K=>rfl
 | (k,r)::F,H,K=>by simp only[A2J,QK,xY F,A0E]
theorem xZ{R:Type}:∀(F:Fp) (H:HX) (K:HX->R),A2K F H K=K (A0F F H)
 | [],H,K=>rfl
 | (k,r)::F,H,K=>by simp only[A2K,xZ F,A0F]
theorem Tu{R:Type}(d:Option Nat)(t:Tr)(m:Nat)(L:LX)(H:HX)(K:Nat->LX->HX->R):Ig d t m L H K=K (m+t.nn) (Wi d t.s L) (stH t H):=by
 obtain⟨s,F,F',rd,nn⟩:=t
 grind[Ig,force_eq,Dp,xZ,xY,Wi,stH]
theorem gQ(k:Nat):∀(F:Fp) (H:HX),hlk k (A0E F H)=match Ez k F with|some R=>some R|none=>hlk k H
 | [],H=>rfl
 | (d,r)::F,H=>by rw[A0E,FO,DF,gQ k F];grind
theorem gU(k:Nat):∀(F:Fp) (H:HX),hlk k (A0F F H)=match Ez k F with|some R=>none|none=>hlk k H
 | [],H=>rfl
 | (d,r)::F,H=>by rw[A0F,FO,DF,gU k F];grind
theorem xe{t:Tr}{H:HX}(hpre:∀ k R,Ez k t.F=some R->hlk k H=some R)(hrd:t.rd=true->t.F'=t.F)(k:Nat):hlk k (stH t H)=upd t.F t.F' (fun k=>hlk k H) k:=by
 unfold stH upd
 cases h:t.rd with
 | false=>simp only[cond_false,gQ,gU];grind
 | true =>
  grind
section
variable {P:Program}{I:World->Prop}{n:Nat}{g:Gx}{Q:PostX}{m:Nat}{L:LX}{H:HX}{ops:Array Oper}{rest:List Oper}
theorem ABN(h:(∀ k R,hlk k H=some R->k<m)->RS P I n g ops Q rest m L H):RS P I n g ops Q rest m L H:=fun a w ν S=>h (fun k R hk=>(S.res k R hk).1) a w ν S
theorem A6Q{L':LX}(hL:∀ t,JG t L'=JG t L)(h:RS P I n g ops Q rest m L' H):RS P I n g ops Q rest m L H:=fun a w ν S=>h a w ν (S.fewer fun t s hs=>by simp_all)
theorem xg{op:Op}{ty:TypeId}{t:Tr}{K:AV->Nat->HX->Prop}(h:TrOK P I L (fun k=>hlk k H) m op t)(hm:∀ k R,hlk k H=some R->k<m)(hK:K t.s (m+t.nn) (stH t H)):OS P I n g op ty m L H K:=by
 refine ABF (h.opl ty) h.pre (fun k hk=>(h.new k hk).imp id fun e=>by omega) (fun k hk=>?_) (Nat.le_add_right _ _) (xe h.pre h.rd) hK
 rcases h.new k hk with h1|h1
 ·obtain⟨R,h2⟩:=(Di _ _).1 h1
  have:=hm k R (h.pre k R h2);omega
 ·exact h1.2
theorem A0G{d:Nat}{s:AV}(h:JG d L=some s)(t:Nat):JG t ((d,s)::L)=JG t L:=by
 simp_all[Fq]
end
section
variable {P:Program}{I:World->Prop}{n:Nat}{g:Gx}{T:TT}{G:FT}{Q:Req->Option Rsp}{r:Rsp}
theorem QV{n d:Nat}(h:Xg n (some d)=true):d<n:=by simpa [Xg] using h
theorem A2g(hT:TTok P I T)(hG:gK P G)(hQ:QOK P I Q){ops:List Oper}{Φ:PostX}{K:Nat->LX->HX->Option Rsp}(hK:∀ m L H,K m L H=some r->Φ .normal m L H)(l:List Oper):∀(m:Nat) (L:LX) (H:HX),J9 T G Q n ops l m L H K=some r->RS P I n g ops.toArray Φ l m L H:=by
 induction l with
 | nil=>intro m L H h;exact A9T (hK _ _ _ h)
 | cons o l ih =>
  intro m L H h
  refine ABN fun hm=>?_
  obtain⟨dst,op,ty,pos,af,gd⟩:=o
  rw[J9] at h
  cases gd with
  | none =>
   simp only at h
   cases hd:Xg n dst with
   | false=>simp_all
   | true =>
    rw[hd,cond_true] at h
    obtain⟨t,ht,ok⟩:=Xz hT hG hQ hm h
    rw[Tu] at ht
    have hn:=ih _ _ _ ht
    cases dst with
    | none=>exact sx0 (xg ok hm hn)
    | some d=>exact sx (xg ok hm hn) (QV hd)
  | some p =>
   obtain⟨j,want⟩:=p
   simp only at h
   split at h
   ·rename_i d' hd'
    have hj:(ops.toArray[j]?).bind (·.dst)=some d':=zaU
    split at h
    ·rename_i c hc
     cases hd:(Xg n dst&&Nat.blt d' n) with
     | false=>simp_all
     | true =>
      rw[hd,cond_true] at h
      rw[Bool.and_eq_true] at hd
      have hdn:d'<n:=zaL
      refine A6Q (L':=(d',.b c)::L) (A0G hc) ?_
      have hb:JG d' ((d',.b c)::L)=some (.b c):=by rw[Fq,if_pos rfl]
      have run:c=want->IQ T G Q (FZ ((d',.b c)::L)) (fun k=>hlk k H) m op (fun t=>Ig dst t m ((d',.b c)::L) H fun m L H=>J9 T G Q n ops l m L H K)=some r->RS P I n g ops.toArray Φ (⟨dst,op,ty,pos,af,some (j,want)⟩::l) m ((d',.b c)::L) H:=by
       clear h
       intro e1 h9
       subst e1
       obtain⟨t,ht,ok⟩:=Xz hT hG hQ hm h9
       rw[Tu] at ht
       have hn:=ih _ _ _ ht
       cases dst with
       | none=>exact ADM hj hb hdn (xg ok hm hn)
       | some d=>exact sxY hj hb hdn (xg ok hm hn) (QV hd.1)
      have skip:c = !want->J9 T G Q n ops l m (Wi dst (AV.tup []) ((d',AV.b c)::L)) H K=some r->RS P I n g ops.toArray Φ (⟨dst,op,ty,pos,af,some (j,want)⟩::l) m ((d',.b c)::L) H:=by
       clear h run
       intro e1 h9
       have hn:=ih _ _ _ h9
       cases dst with
       | none=>exact ADN hj hb e1 hn hdn
       | some d=>exact sxN hj hb e1 hn (QV hd.1) hdn
      cases c with
      | true =>
       cases want with
       | true=>grind
       | false=>exact skip rfl (by cases dst<;>exact h)
      | false =>
       cases want with
       | true=>exact skip rfl (by cases dst<;>exact h)
       | false=>grind
    ·rename_i hc
     cases hd:(Xg n dst&&Nat.blt d' n) with
     | false=>simp_all
     | true =>
      rw[hd,cond_true] at h
      rw[Bool.and_eq_true] at hd
      have hdn:d'<n:=zaL
      have hn:=ih _ _ _ h
      cases dst with
      | none=>exact ADO hj hc hn hdn
      | some d=>exact sxU hj hc hn (QV hd.1) hdn
    ·cases h
   ·cases h
end
end Go.Ax
