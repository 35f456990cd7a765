/-
  Own texts, laid together for this claim: contracts of functions of the program and its references, used by the statements of this seat.
-/
import Derived.Lib.MakeNoZero
import Derived.Laws.Externs
import Derived.Test.YtanagnimhaemgaaGreatDoorQtaa
import Derived.Test.YtanagnimhaemgaaGreatDoorQtab
set_option linter.all false
set_option maxHeartbeats 40000000
set_option maxRecDepth 100000
namespace Go.Proofs.YtanagnimhaemgaaGreatDoor
open Go Go.RowKit Go.Eng Go.Ax
section
attribute [local irreducible] FW RL OP Go.Eng.DRX thn Go.Eng.blk A7f AB2 Calls
theorem ABt:Y E00 (.call 348 [.u64 1,.u64 32] [])=some (.ret (.tup [.u64 0,.u64 32]) []):=by
 rw[AO];conv=>lhs;whnf
 simp only[EM,X5];kernel_rfl
theorem A9b:Y E00 (.call 318 [.u64 1,.u64 32] [])=some (.ret (.tup [.u64 0,.u64 32]) []):=by
 rw[AO];conv=>lhs;whnf
 rw[Ak,ABt]
 conv=>lhs;whnf
theorem TW{k:Nat}{R:Rs}(h:Eh k []=some R):False:=zaL
theorem A2P(w:World)(hI:I0 w):Calls Tryz.prog 318 #[IE 1,IE 32] w (xg fun v w'=>v=.tuple #[IE 0,IE 32]/\Ext w w'):=by
 have e00:EnvOK Tryz.prog I0 E00:=⟨tg0,ft0,ct0.get,by kernel_rfl,fun _ _ h=>by cases h⟩
 have h:=Kv e00 A9b (fun _=>undef) (fun _=>False) w [IE 1,IE 32] ⟨fun _ h=>h.elim,fun w' hs=>hI.ext (Stp.ext (hs.mono fun _ _ h=>h))⟩ (by simp only[AY,Rep];exact⟨_,_,rfl,rfl,_,_,rfl,rfl,rfl⟩) ⟨fun k R h=>(TW h).elim,fun k k' R R' b h=>(TW h).elim,fun k h=>(Ha k h).elim⟩
 refine xg.mono h ?_
 rintro v w' ⟨ν',hok⟩
 have h1:=hok.rep
 have h2:=hok.stp
 simp only[Rep,AY] at h1
 obtain⟨us,rfl,_,_,rfl,rfl,_,_,rfl,rfl,rfl⟩:=h1
 exact⟨rfl,Stp.ext (h2.mono fun i _ ⟨k,R,hk,_⟩=>(TW hk).elim)⟩
structure Fil (w0:World) (g:Nat) (x:UInt8) (bp:Nat) (w:World):Prop where
 lo:1<=bp
 hi:bp<=32
 new:w0.heap.size<=g
 ext:Ext w0 w
 row:∃ cur,w.heap[g]?=some (.cells cur 5 (0,0))/\32<=cur.size/\cur.toList.take bp=List.replicate bp (byteV x)
theorem A2Q{P:Program}{L:Lst}{w w':World}{ty:TypeId}{K:SV->World->Prop}{xs:Array Operand}{ats:Array TypeId}{f:FuncId}{ss:List SV}{s:SV}(ha:evs L xs.toList=some ss)
  (hr:(callFunc f (ss.map SV.den).toArray).run P w=.ok (.value s.den) w') (hk:K s w'):OP P L (.call {callee:=.value (.func f),args:=xs,argTypes:=ats}) ty w K:=by
 refine JX (fun ρ he=>?_) hk
 have h1:execOp ρ ⟨none,.call {callee:=.value (.func f),args:=xs,argTypes:=ats},ty, "", #[],none⟩=(do let d<-resolve ρ {callee:=.value (.func f),args:=xs,argTypes:=ats} ty;invoke d.target d.args):=rfl
 have hargs:xs.map ρ=(ss.map SV.den).toArray:=by
  grind[ui,Array.toList_map]
 have hf:ρ (.func f)=.func (.func f) #[] #[]:=he (.func f) (.v (.func (.func f) #[] #[])) rfl
 rw[h1]
 simp only[resolve,hf,Deferred.ofValue,Sem.run_bind,Sem.run_pure,Result.andThen_ok,invoke,hargs]
 simpa using hr
theorem A2R{L:Lst}{w:World}{ty:TypeId}{K:SV->World->Prop}{x y:Operand}{g o n cap m k:Nat}{a:Addr}{cur:Array Value}{cs:List Value}(hx:Qa L x=some (.v (.slice (some ⟨g,o,none⟩) n cap)))(hy:Qa L y=some (.v (.slice (some a) m k)))
  (hg:w.heap[g]?=some (.cells cur 5 (0,0))) (hn:cs.length=Nat.min m n) (hsrc:∀ j v,cs[j]?=some v->w.cell? (a.add j)=some v) (hfit:o+cs.length<=cur.size) (h1:∀ v∈cs,v.oneCell'=true)
  (hk:K (.v (.int .i64 cs.length)) (w.setRow g (cur.toList.take o++cs++cur.toList.drop (o+cs.length)).toArray)):OP Tryz.prog L (.call {callee:=.builtin .copy,args := #[x,y],argTypes := #[22,22]}) ty w K:=by
 refine JX (fun ρ he=>Et ρ _ _ _ ?_) hk
 have e1:=he x _ hx
 have e2:=he y _ hy
 simp only[SV.den] at e1 e2
 simp only[builtin,List.map_toArray,List.map_cons,List.map_nil,e1,e2,Sem.run_bind,Qw w 22 22 ty 5 g o n cap a m k cur 5 (0,0) cs Tryz.underlying22 zaj hg (.inr rfl) hn hsrc hfit h1,Result.andThen_ok,Sem.run_pure]
 rfl
theorem A8H:SliceT Tryz.prog 22 5 (.int .u8 0) 1 1:=⟨Tryz.underlying22,by kernel_rfl,rfl,by decide⟩
theorem A5h{w w2:World}(h:Ext w w2){g:Nat}{cs:Array Value}(hg:w.heap.size<=g):Ext w (w2.setRow g cs):=by
 have q:=Fq w2 g cs
 exact⟨q.os.trans h.os,q.tape.trans h.tape,q.output.trans h.output,Nat.le_trans h.size q.size,fun k hk=>(q.block k (Nat.lt_of_lt_of_le hk h.size) (by intro e;cases e;omega)).trans (h.block k hk)⟩
theorem A8I{P:Program}{L:Lst}{w:World}{ty:TypeId}{K:SV->World->Prop}{x y:Operand}{ats:Array TypeId}{a b c:Int}(hx:Qa L x=some (.v (.int .i64 a)))(hy:Qa L y=some (.v (.int .i64 b)))(h:min a b=c)(hk:K (.v (.int .i64 c)) w):OP P L (.call {callee:=.builtin .min,args := #[x,y],argTypes:=ats}) ty w K:=by
 refine JX (fun ρ he=>Et ρ _ _ _ ?_) hk
 have h1:=he x _ hx
 have h2:=he y _ hy
 simp only[SV.den] at h1 h2
 have h3:(if b<a then b else a)=c:=zaa
 simp_all[builtin,Builtin.min_,Builtin.min2,SV.den]
section
variable {X:Rl}{P:Program}{ops:Array Oper}{w0:World}{fin:Lst->World->Prop}{d:Nat}{op:Op}{ty:TypeId}{pos:String}{af:Array Edge}{r:List Oper}{L:Lst}{F:Flx}
theorem drX{s:SV}(hf:Yw (lks op) F=true)(h:∀ w,X.r w0 w->OP P L op ty w fun s' w'=>X.r w w'/\s'.den=s.den)(hr:Go.Eng.DRX X P ops w0 fin r ((d,s)::L) F):Go.Eng.DRX X P ops w0 fin (⟨some d,op,ty,pos,af,none⟩::r) L F:=by
 unfold Go.Eng.DRX;exact⟨.rig s,Sp.stable_rig s,fun w he=>Qv hf (h w he),hr⟩
theorem ABu(R:Value->World->Prop)(hst:∀ v w w',R v w->X.r w w'->R v w')(hf:Yw (lks op) F=true)(h:∀ w,X.r w0 w->OP P L op ty w fun s' w'=>X.r w w'/\R s'.den w')(hr:Go.Eng.DRX X P ops w0 fin r L ((d,R)::F)):Go.Eng.DRX X P ops w0 fin (⟨some d,op,ty,pos,af,none⟩::r) L F:=by
 unfold Go.Eng.DRX;exact⟨.flx R,hst,fun w he=>Qv hf (h w he),hr⟩
theorem ABv{s:SV}(h:∀ w,X.r w0 w->VH (lks op) w (fun Lx=>OP P Lx op ty w fun s' w'=>X.r w w'/\s'.den=s.den) F L)(hr:Go.Eng.DRX X P ops w0 fin r ((d,s)::L) F):Go.Eng.DRX X P ops w0 fin (⟨some d,op,ty,pos,af,none⟩::r) L F:=by
 unfold Go.Eng.DRX;exact⟨.rig s,Sp.stable_rig s,h,hr⟩
theorem A2S{t:Nat}{R:Value->World->Prop}(h:∀ w,X.r w0 w->∀ v,R v w->fin ((t,.v v)::L) w):Go.Eng.DRX X P ops w0 fin [] L [(t,R)]:=by
 unfold Go.Eng.DRX;exact h
end
theorem yw(w:World)(hI:I0 w)(v:Value)(x:UInt8)(hv:Bytes w v [x]):Calls Tryz.prog 277 #[v,.int .i64 32] w (xg fun r w'=>∃ g,r=.slice (some ⟨g,0,none⟩) 32 32/\Fil w g x 32 w'):=by
 refine gY [.v v,.v (.int .i64 32)] Tryz.func277 rfl Tryz.ntmps277 rfl rfl ?_
 repeat(first|(first|refine IQ ?_|refine Ed ?_|refine IU ?_|refine GX ?_|refine GU ?_|refine F9 ?_|refine GV ?_|refine IR ?_|refine GY ?_|refine GZ ?_|refine Gf ?_|refine Gg ?_|refine Gh rfl ?_|refine Gi ?_)|(refine st ?_ rfl;(first|refine FV rfl ?_|refine Ig rfl ?_|refine Qu rfl rfl rfl rfl rfl ?_ )))
 refine Pj rfl (fun h=>absurd h zad) (fun h=>?_)
 clear h
 repeat(first|(first|refine IQ ?_|refine Ed ?_|refine IU ?_|refine GX ?_|refine GU ?_|refine F9 ?_|refine GV ?_|refine IR ?_|refine GY ?_|refine GZ ?_|refine Gf ?_|refine Gg ?_|refine Gh rfl ?_|refine Gi ?_)|(refine st ?_ rfl;(first|refine FV rfl ?_|refine Qu rfl rfl rfl rfl rfl ?_ )))
 refine Pj rfl (fun h=>absurd h zad) (fun h=>?_)
 clear h
 repeat(first|(first|refine IQ ?_|refine Ed ?_|refine IU ?_|refine GX ?_|refine GU ?_|refine F9 ?_|refine GV ?_|refine IR ?_|refine GY ?_|refine GZ ?_|refine Gf ?_|refine Gg ?_|refine Gh rfl ?_|refine Gi ?_)|(refine st ?_ rfl;(first|refine FV rfl ?_|refine A7i (src:=3) (dst:=117) Tryz.underlying3 Tryz.underlying117 rfl zaa ?_|refine A7h (src:=3) (dst:=117) Tryz.underlying3 Tryz.underlying117 rfl ?_|refine A0r (t:=22) Tryz.underlying22 rfl zbk ?_ )))
 refine st (A4r (ss:=[.u64 1,.v (.int .u64 32)]) (Ent.mk Tryz.func318 zaj rfl) rfl (A2P w hI) ?_) rfl
 rintro _ w1 ⟨rfl,he1⟩
 have hI1:=hI.ext he1
 have hv1:=hv.ext he1
 repeat(first|(first|refine IQ ?_|refine Ed ?_|refine IU ?_|refine GX ?_|refine GU ?_|refine F9 ?_|refine GV ?_|refine IR ?_|refine GY ?_|refine GZ ?_|refine Gf ?_|refine Gg ?_|refine Gh rfl ?_|refine Gi ?_)|(refine st ?_ rfl;(first|refine FV rfl ?_|refine Ig rfl ?_|refine Qu rfl rfl rfl rfl rfl ?_|refine oW rfl rfl ?_ )))
 refine A9L rfl rfl (FV rfl ?_) rfl rfl
 refine A9L rfl rfl (Qu rfl rfl rfl rfl rfl ?_) rfl rfl
 refine st (A0y rfl rfl ?_) rfl
 repeat(first|(first|refine IQ ?_|refine Ed ?_|refine IU ?_|refine GX ?_|refine GU ?_|refine F9 ?_|refine GV ?_|refine IR ?_|refine GY ?_|refine GZ ?_|refine Gf ?_|refine Gg ?_|refine Gh rfl ?_|refine Gi ?_)|(refine st ?_ rfl;(first|fail )))
 refine Pj rfl (fun h=>absurd h zad) (fun h=>?_)
 clear h
 repeat(first|(first|refine IQ ?_|refine Ed ?_|refine IU ?_|refine GX ?_|refine GU ?_|refine F9 ?_|refine GV ?_|refine IR ?_|refine GY ?_|refine GZ ?_|refine Gf ?_|refine Gg ?_|refine Gh rfl ?_|refine Gi ?_)|(refine st ?_ rfl;(first|refine FV rfl ?_ )))
 refine st (ai (s:=.v (.int .i64 32)) (k:=.u64) (a:=32) Tryz.underlying117 Tryz.underlying3 rfl rfl rfl ?_) rfl
 repeat(first|(first|refine IQ ?_|refine Ed ?_|refine IU ?_|refine GX ?_|refine GU ?_|refine F9 ?_|refine GV ?_|refine IR ?_|refine GY ?_|refine GZ ?_|refine Gf ?_|refine Gg ?_|refine Gh rfl ?_|refine Gi ?_)|(refine st ?_ rfl;(first|refine FV rfl ?_|refine Ig rfl ?_|refine Qu rfl rfl rfl rfl rfl ?_|refine A0r (t:=22) Tryz.underlying22 rfl zbk ?_ )))
 refine Pj rfl (fun h=>absurd h (show ¬Vw BinOp.eql 1 0=true by decide)) (fun h=>?_)
 clear h
 repeat(first|(first|refine IQ ?_|refine Ed ?_|refine IU ?_|refine GX ?_|refine GU ?_|refine F9 ?_|refine GV ?_|refine IR ?_|refine GY ?_|refine GZ ?_|refine Gf ?_|refine Gg ?_|refine Gh rfl ?_|refine Gi ?_)|(refine st ?_ rfl;(first|refine FV rfl ?_|refine Ig rfl ?_|refine Qu rfl rfl rfl rfl rfl ?_ )))
 refine Pj rfl (fun h=>absurd h zad) (fun h=>?_)
 clear h
 repeat(first|(first|refine IQ ?_|refine Ed ?_|refine IU ?_|refine GX ?_|refine GU ?_|refine F9 ?_|refine GV ?_|refine IR ?_|refine GY ?_|refine GZ ?_|refine Gf ?_|refine Gg ?_|refine Gh rfl ?_|refine Gi ?_)|(refine st ?_ rfl;(first|refine FV rfl ?_ )))
 obtain⟨cs,hrun,hle,hmx⟩:=Lib.run_makeNoZero (P:=Tryz.prog) w1 #[3] 22 5 Tryz.underlying22 32 zad
 have hcall:(callFunc 319 #[.int .i64 32]).run Tryz.prog w1=.ok (.value (.slice (some ⟨w1.heap.size,0,none⟩) 32 cs.size)) (w1.drew.drew.alloc (.cells cs 5)):=by
  rw[run_callFunc_extern Tryz.func319 zaj zaj zaj (e:=Extern.BytealgMakeNoZero.makeNoZero #[3] #[22]) zaj]
  have h2:(Extern.BytealgMakeNoZero.makeNoZero #[3] #[22] #[.int .i64 32]).run Tryz.prog w1=_:=hrun
  rw[h2]
  rfl
 have he2:Ext w1 (w1.drew.drew.alloc (.cells cs 5)):=Below.alloc (B:=w1.heap.size) (a:=w1) (w:=w1.drew.drew) ((Ext.drew w1).trans (Ext.drew w1.drew)) (Nat.le_refl _) _
 have hg2:(w1.drew.drew.alloc (.cells cs 5)).heap[w1.heap.size]?=some (.cells cs 5 (0,0)):=by
  show(w1.heap.push _)[w1.heap.size]?=_
  exact Array.getElem?_push_size
 generalize hw2:w1.drew.drew.alloc (.cells cs 5)=w2 at *
 clear hw2 hrun
 have hv2:=hv1.ext he2
 have hnew:w.heap.size<=w1.heap.size:=he1.size
 generalize hg0:w1.heap.size=g at *
 refine st (A2Q (ss:=[.v (.int .i64 32)]) (s:=.v (.slice (some ⟨g,0,none⟩) 32 cs.size)) rfl hcall ?_) rfl
 repeat(first|(first|refine IQ ?_|refine Ed ?_|refine IU ?_|refine GX ?_|refine GU ?_|refine F9 ?_|refine GV ?_|refine IR ?_|refine GY ?_|refine GZ ?_|refine Gf ?_|refine Gg ?_|refine Gh rfl ?_|refine Gi ?_)|(refine st ?_ rfl;(first|refine FV rfl ?_ )))
 refine st (JX (w':=w2) (s:=.v (.slice (some ⟨g,0,none⟩) 32 32)) (fun ρ he=>?_) ?_) rfl
 ·have e1:=he (.tmp 54) _ rfl
  have e2:=he (.tmp 55) _ rfl
  have e3:=he (.tmp 56) _ rfl
  simp only[SV.den] at e1 e2 e3
  exact He (l:=0) (h:=32) (mx:=32) A8H e1 (by
   simp only[Instr.sliceBounds,Option.map_some,Option.map_none,e2,e3,Sem.run_bind,Sem.run_pure,Result.andThen_ok,Option.isSome_some,if_true,IV _ _ _ _ (show(0:Int)<=32 by omega) (show(32:Int)<=(cs.size:Int) by omega),IV _ _ _ _ (show(0:Int)<=32 by omega) (show(32:Int)<=(((32:Int).toNat:Nat):Int) by omega)];rfl)
 repeat(first|(first|refine IQ ?_|refine Ed ?_|refine IU ?_|refine GX ?_|refine GU ?_|refine F9 ?_|refine GV ?_|refine IR ?_|refine GY ?_|refine GZ ?_|refine Gf ?_|refine Gg ?_|refine Gh rfl ?_|refine Gi ?_)|(refine st ?_ rfl;(first|refine FV rfl ?_|refine Ig rfl ?_ )))
 obtain⟨a,cap,rfl,-,-,-,hnil,hcell⟩:=hv2
 cases a with
 | none=>exact absurd (hnil rfl).1 zak
 | some p =>
 have hc0:=hcell p rfl
 refine st (A2R (cs:=[byteV x]) rfl rfl hg2 rfl (fun j v hj=>hc0 j v hj) zat (by intro v hv;simp at hv;subst hv;rfl) ?_) rfl
 repeat(first|(first|refine IQ ?_|refine Ed ?_|refine IU ?_|refine GX ?_|refine GU ?_|refine F9 ?_|refine GV ?_|refine IR ?_|refine GY ?_|refine GZ ?_|refine Gf ?_|refine Gg ?_|refine Gh rfl ?_|refine Gi ?_)|(refine st ?_ rfl;(first|refine Ig rfl ?_ )))
 refine A4o (fun bp:Nat=>[(10,.v (.int .i64 bp)),(7,.v (.int .i64 32)),(8,.v (.int .i64 32)),(9,.v (.slice (some ⟨g,0,none⟩) 32 32))]) (fun bp w'=>Fil w g x bp w') (fun bp=>32-bp) 1 ⟨rfl,rfl,rfl,rfl,trivial⟩ ?_ ?_
 ·refine⟨by omega,by omega,hnew,A5h (he1.trans he2) hnew,_,setRow_heap w2 g cs _ 5 _ hg2,?_,?_⟩
  ·simp;omega
  ·rfl
 intro bp w' hF
 repeat(first|(first|refine IQ ?_|refine Ed ?_|refine IU ?_|refine GX ?_|refine GU ?_|refine F9 ?_|refine GV ?_|refine IR ?_|refine GY ?_|refine GZ ?_|refine Gf ?_|refine Gg ?_|refine Gh rfl ?_|refine Gi ?_)|(refine st ?_ rfl;(first|refine FV rfl ?_|refine Qu rfl rfl rfl rfl rfl ?_ )))
 refine Pj rfl (fun h=>?_) (fun h=>?_)
 ·have hlt:bp<32:=by
   have:(bp:Int)<32:=by simpa [Vw] using h
   omega
  obtain⟨q1,q2,q3,q4,cur,q5,q6,q7⟩:=hF
  repeat(first|(first|refine IQ ?_|refine Ed ?_|refine IU ?_|refine GX ?_|refine GU ?_|refine F9 ?_|refine GV ?_|refine IR ?_|refine GY ?_|refine GZ ?_|refine Gf ?_|refine Gg ?_|refine Gh rfl ?_|refine Gi ?_)|(refine st ?_ rfl;(first|refine FV rfl ?_ )))
  refine st (A8I (c:=bp) rfl rfl zaa ?_) rfl
  repeat(first|(first|refine IQ ?_|refine Ed ?_|refine IU ?_|refine GX ?_|refine GU ?_|refine F9 ?_|refine GV ?_|refine IR ?_|refine GY ?_|refine GZ ?_|refine Gf ?_|refine Gg ?_|refine Gh rfl ?_|refine Gi ?_)|(refine st ?_ rfl;(first|refine Ig rfl ?_ )))
  have hbn:(List.replicate bp (byteV x)).length=bp:=List.length_replicate
  have hcl:cur.toList.length=cur.size:=Array.length_toList
  -- how many are copied, and the row behind it
  obtain⟨k,hk⟩:∃ k,k=min bp (32-bp):=⟨_,rfl⟩
  have hcs1:(cur.toList.take k)=List.replicate k (byteV x):=by
   have e1:cur.toList.take k=(cur.toList.take bp).take k:=zbc
   rw[e1,q7,List.take_replicate];congr 1;omega
  obtain⟨c1,hc1⟩:∃ c1:Array Value,c1=(cur.toList.take bp++List.replicate k (byteV x)++cur.toList.drop (bp+k)).toArray:=⟨_,rfl⟩
  have hl1:c1.toList.length=cur.size:=by
   rw[hc1,List.toList_toArray,List.length_append,List.length_append,List.length_replicate,List.length_take,List.length_drop,hcl];omega
  have ht1:c1.toList.take (bp+k)=List.replicate (bp+k) (byteV x):=by
   rw[hc1,List.toList_toArray,q7,List.replicate_append_replicate,List.take_left' List.length_replicate]
  have hd1:c1.toList.drop (bp+k)=cur.toList.drop (bp+k):=by
   rw[hc1,List.toList_toArray,q7,List.replicate_append_replicate,List.drop_left' List.length_replicate]
  have hid:(c1.toList.take bp++List.replicate k (byteV x)++c1.toList.drop (bp+k)).toArray=c1:=by
   have e1:c1.toList.take bp=List.replicate bp (byteV x):=by
    have:c1.toList.take bp=(c1.toList.take (bp+k)).take bp:=zbc
    rw[this,ht1,List.take_replicate];congr 1;omega
   rw[e1,hd1]
   conv=>rhs;rw[hc1,q7]
  have hcs2:(c1.toList.take k)=List.replicate k (byteV x):=by
   have e1:c1.toList.take k=(c1.toList.take (bp+k)).take k:=zbc
   rw[e1,ht1,List.take_replicate];congr 1;omega
  let Q1:World->Prop:=fun w=>w.heap[g]?=some (.cells c1 5 (0,0))
  let P1:World->Prop:=fun w=>w.heap[g]?=some (.cells cur 5 (0,0))\/Q1 w
  let X:Rl:=⟨fun a b=>Below g a b/\(P1 a->P1 b)/\(Q1 a->Q1 b),fun a=>⟨Below.refl _ _,id,id⟩,fun h1 h2=>⟨Below.trans h1.1 h2.1,fun h=>h2.2.1 (h1.2.1 h),fun h=>h2.2.2 (h1.2.2 h)⟩,fun a=>⟨(Below.refl _ _).drew,id,id⟩⟩
  have hX:∀ a,X.r a a:=X.refl
  refine A0s X zaj 9 zaj ?_
  refine drX rfl (fun w_ he_=>FV rfl ⟨hX _,rfl⟩) ?_
  refine drX rfl (fun w_ he_=>FV rfl ⟨hX _,rfl⟩) ?_
  refine drX rfl (fun w_ he_=>FV rfl ⟨hX _,rfl⟩) ?_
  refine drX (s:=.v (.slice (some ⟨g,bp,none⟩) (32-bp) (32-bp))) rfl (fun w_ he_=>JX (w':=w_) (s:=.v (.slice (some ⟨g,bp,none⟩) (32-bp) (32-bp))) (fun ρ he=>?_) ⟨hX _,rfl⟩) ?_
  ·have e1:=he (.tmp 68) _ rfl
   have e2:=he (.tmp 69) _ rfl
   simp only[SV.den] at e1 e2
   have e3:=He (P:=Tryz.prog) (ty:=22) (x:=.tmp 68) (olo:=some (.tmp 69)) (ohi:=none) (omx:=none) (w:=w_) (l:=bp) (h:=32) (mx:=32) A8H e1 (sb0 (isS:=true) (lo:=(bp:Int)) (by exact⟨_,e2⟩) zaa zaa)
   rw[if_neg zaa] at e3
   simp only[SV.den]
   rw[show(some (Addr.mk g bp none))=(some (Addr.mk g 0 none)).map (·.add (bp*1)) by simp[Addr.add];omega]
   exact e3
  refine drX rfl (fun w_ he_=>FV rfl ⟨hX _,rfl⟩) ?_
  refine drX rfl (fun w_ he_=>FV rfl ⟨hX _,rfl⟩) ?_
  refine drX (s:=.v (.slice (some ⟨g,0,none⟩) bp 32)) rfl (fun w_ he_=>JX (w':=w_) (s:=.v (.slice (some ⟨g,0,none⟩) bp 32)) (fun ρ he=>?_) ⟨hX _,rfl⟩) ?_
  ·have e1:=he (.tmp 71) _ rfl
   have e2:=he (.tmp 72) _ rfl
   simp only[SV.den] at e1 e2
   have e3:=He (P:=Tryz.prog) (ty:=22) (x:=.tmp 71) (olo:=none) (ohi:=some (.tmp 72)) (omx:=none) (w:=w_) (l:=0) (h:=bp) (mx:=32) A8H e1 (sb1 (isS:=true) (lo:=0) (hi:=(bp:Int)) rfl e2 zaa zaa zaa)
   rw[if_neg zaa] at e3
   simp only[SV.den]
   rw[show(some (Addr.mk g 0 none))=(some (Addr.mk g 0 none)).map (·.add (0*1)) by simp[Addr.add]]
   exact e3
  refine ABu (fun v w=>v=.int .i64 (k:Int)/\Q1 w) (fun v a b h hx=>⟨h.1,hx.2.2 h.2⟩) rfl (fun w_ he_=>?_) ?_
  ·obtain⟨c,h1,h2,h3,h4⟩:∃ c:Array Value,w_.heap[g]?=some (.cells c 5 (0,0))/\(c.toList.take bp++List.replicate k (byteV x)++c.toList.drop (bp+k)).toArray=c1/\c.toList.take k=List.replicate k (byteV x)/\c.toList.length=cur.size:=by
    rcases he_.2.1 (.inl q5) with hc|hc
    ·exact⟨cur,hc,hc1.symm,hcs1,hcl⟩
    ·exact⟨c1,hc,hid,hcs2,hl1⟩
   have hlk:(List.replicate k (byteV x)).length=k:=List.length_replicate
   refine A2R (g:=g) (o:=bp) (n:=32-bp) (cap:=32-bp) (m:=bp) (k:=32) (a:=⟨g,0,none⟩) (cur:=c) (cs:=List.replicate k (byteV x)) rfl rfl h1 (by rw[hlk,hk]) (fun j v hj=>?_) (by rw[hlk,<-Array.length_toList,h4];omega) (fun v hv=>by rw[List.eq_of_mem_replicate hv];rfl) ?_
   ·rw[<-h3] at hj
    rw[List.getElem?_take] at hj
    split at hj
    ·rw[Array.getElem?_toList] at hj
     simp[World.cell?,Addr.add_lit,h1,hj]
    ·cases hj
   ·rw[hlk,h2]
    have hq:Q1 (w_.setRow g c1):=setRow_heap w_ g c c1 _ _ h1
    have hb:Below g w_ (w_.setRow g c1):=by
     have q:=Fq w_ g c1
     have hgl:g<w_.heap.size:=(Array.getElem?_eq_some_iff.1 h1).1
     exact⟨q.os,q.tape,q.output,q.size,fun k hk=>q.block k zaa (by intro e;cases e;omega)⟩
    exact⟨⟨hb,fun _=>.inr hq,fun _=>hq⟩,rfl,hq⟩
  refine ABv (s:=.v (.int .i64 ((bp+k:Nat):Int))) (fun w_ he_=>?_) ?_
  ·rintro v ⟨rfl,hq⟩
   exact A7g rfl rfl zaa ⟨hX _,by simp only[SV.den];congr 1⟩
  refine A2S (fun w_ he_=>?_)
  rintro v ⟨rfl,hq⟩
  repeat(first|(first|refine IQ ?_|refine Ed ?_|refine IU ?_|refine GX ?_|refine GU ?_|refine F9 ?_|refine GV ?_|refine IR ?_|refine GY ?_|refine GZ ?_|refine Gf ?_|refine Gg ?_|refine Gh rfl ?_|refine Gi ?_)|(refine st ?_ rfl;(first|refine Ig rfl ?_ )))
  refine⟨bp+k,⟨rfl,rfl,rfl,rfl,trivial⟩,⟨by omega,by omega,q3,?_,c1,hq,?_,ht1⟩,by omega⟩
  ·exact Below.trans q4 (Below.mono he_.1 q3)
  ·rw[<-Array.length_toList,hl1];exact q6
 ·repeat(first|(first|refine IQ ?_|refine Ed ?_|refine IU ?_|refine GX ?_|refine GU ?_|refine F9 ?_|refine GV ?_|refine IR ?_|refine GY ?_|refine GZ ?_|refine Gf ?_|refine Gg ?_|refine Gh rfl ?_|refine Gi ?_)|(refine st ?_ rfl;(first|refine FV rfl ?_|refine Ig rfl ?_ )))
  refine A4q rfl ⟨g,rfl,?_⟩
  have:bp=32:=by
   have:¬(bp:Int)<32:=by simpa [Vw] using h
   have:=hF.hi
   omega
  exact this▸hF
theorem Ox{w:World}:∀(l:List UInt8),EW (fun x c=>CR .u8 x c w) l (l.map fun x=>[byteV x])
 | []=>trivial
 | x::l=>⟨by simp only[CR],Ox l⟩
theorem Zd{α β:Type}(f:α->β):∀(l:List α),(l.map fun x=>[f x]).flatten=l.map f
 | []=>rfl
 | x::l=>by rw[List.map_cons,List.flatten_cons,Zd f l];rfl
theorem A2T(x:UInt8):Yh Tryz.prog I0 277 [.sl .u8 [x],.i 32] [] (.sl .u8 (List.replicate 32 x)) []:=by
 intro ν O w args hG hR hP
 simp only[AY,Rep] at hR
 obtain⟨v,_,rfl,hv,_,_,rfl,rfl,rfl⟩:=hR
 have hvb:Bytes w v [x]:=by
  obtain⟨cs,h1,h2⟩:=hv w (Stp.refl _ _)
  cases cs with
  | nil=>exact h1.elim
  | cons c cs =>
   obtain⟨h3,h4⟩:=h1
   cases cs with
   | cons _ _=>exact h4.elim
   | nil =>
    simp only[CR] at h3
    subst h3
    exact h2
 refine xg.mono (yw w (hG.inv _ (Stp.refl _ _)) v x hvb) ?_
 rintro r w' ⟨g,rfl,q1,q2,q3,q4,cur,q5,q6,q7⟩
 refine⟨ν,fun _ _=>rfl,?_,fun k R hk=>(by cases hk),fun k k' R R' b hk=>(by cases hk),Stp.of_ext q4 _⟩
 simp only[Rep]
 intro w'' hs
 have hgl:g<w'.heap.size:=(Array.getElem?_eq_some_iff.1 q5).1
 have hnot:¬((O g/\¬EH ν (L9 0 []) g)\/EH ν (Gq id 0 []) g):=by
  rintro(h|⟨k,R,hk,_⟩)
  ·have:=hG.lt g h.1
   simp only at *;omega
  ·exact TW hk
 have h5:w''.heap[g]?=some (.cells cur 5 (0,0)):=by rw[hs.block g hgl hnot];exact q5
 refine⟨(List.replicate 32 x).map fun x=>[byteV x],Ox _,?_⟩
 rw[Zd]
 refine⟨some ⟨g,0,none⟩,32,by rw[List.length_replicate],by simp;rfl,by simp,by simp[maxLen],(fun h=>by cases h),fun p hp=>?_⟩
 obtain rfl:=Option.some.inj hp
 intro j u hu
 rw[List.map_replicate,<-q7,List.getElem?_take] at hu
 split at hu
 ·rw[Array.getElem?_toList] at hu
  simp[World.cell?,Addr.add_lit,h5,hu]
 ·cases hu
noncomputable def ovR:Orc:=fun q=>match q with
 | .call f args H=>bif Nat.beq f 277 then(match args,H with
   | [.sl .u8 [x],.i (.ofNat 32)],[]=>some (.ret (.sl .u8 (List.replicate 32 x)) [])
   | _,_=>none)
  else ovC (.call f args H)
 | .loop _ _ _ _ _ _=>none
theorem A8K{E:Env}:∀ q r,ovR q=some r->A5I Tryz.prog I0 E q r:=by
 intro q r h
 cases q with
 | loop f k n0 m L H=>cases h
 | call f args H =>
  simp only[ovR] at h
  cases hb:Nat.beq f 277 with
  | false=>rw[hb,cond_false] at h;exact A8G _ _ h
  | true =>
   obtain rfl:=Nat.eq_of_beq_eq_true hb
   rw[hb,cond_true] at h
   split at h
   ·obtain rfl:=Option.some.inj h
    exact A2T _
   ·cases h
end
noncomputable def E0:Env:=⟨TT0,FT0,CT0,ovR,[180,263]⟩
theorem e0:EnvOK Tryz.prog I0 E0:=⟨tg0,ft0,ct0.get,by kernel_rfl,A8K⟩
theorem A9c{f:Nat}{args:List AV}{H:List Rs}{r:Rsp}(h:E0.ov (.call f args H)=some r):Y E0 (.call f args H)=some r:=by
 rw[Y.eq_1];simp only[Bi];rw[h]
theorem A2U(l:List (El objT))(hl:l.length<=4294967296):Y E0 (.call 224 [.sl objT l] [])=some (.ret (.nm 0) [some (.row 99 objT l)]) :=
 A9c zaS
theorem dh(l:List (El BR))(hl:l.length<=4294967296):Y E0 (.call 339 [.sl BR l] [])=some (.ret (.nm 0) [some (.row 187 BR l)]) :=
 A9c zaS
end Go.Proofs.YtanagnimhaemgaaGreatDoor
namespace Go.Proofs.YtanagnimhaemgaaGreatDoor
open Go Go.Ax
section
attribute [local irreducible] Bl CQ CS Bo Bg Ar CU Dw EN Dy EC Bf BU Bv Bz and' C9 CB BK Au BA BL BN Aa Ad AP AZ CV Dq CW DI CE BP BM BF BG BB AU BC Ae Ap Ai CX BH Bh Ba BO CG CY CJ fits CZ CO A8 AA Ac
theorem A5z{α:Type}(a b:List α)(i:Nat)(hi:i<a.length)(hj:i<b.length)(h:a.take i=b.take i)(he:a[i]=b[i]):a.take (i+1)=b.take (i+1):=by
 rw[List.take_succ_eq_append_getElem hi,List.take_succ_eq_append_getElem hj,h,he]
theorem OL(a b:List UInt8)(hb:a.length<=4294967296)(hl:a.length=b.length):∀(k:Nat) (j:Int),j+k=a.length->0<=j->a.take j.toNat=b.take j.toNat ->
  Y E0 (.loop 21 0 0 0 [(0,.sl .u8 a),(1,.sl .u8 b),(5,.i j)] [])=if a=b then some (.fin (.exit 0) 0 [] []) else some (.fin .ret 0 [(4,.b false)] [])
 | 0,j,hj,h0,ht=>by
  have he:a=b:=by rwa [List.take_of_length_le zaa,List.take_of_length_le zaa] at ht
  rw[if_pos he]
  rw[AO];conv=>lhs;whnf
  rw[Gz zai]
  conv=>lhs;whnf
 | k+1,j,hj,h0,ht=>by
  by_cases hab:a[j.toNat]'zaa=b[j.toNat]'zaa
  ·have ih:=OL a b hb hl k (j+1) zaa zaa (by rw[show(j+1).toNat=j.toNat+1 from by omega];exact A5z a b _ zaa zaa ht hab)
   have hz:BC .neq (a[j.toNat]'zaa) (b[j.toNat]'zaa)=false:=by rw[JM,DY (by rw[hab])]
   rw[<-ih]
   rw[AO];conv=>lhs;whnf
   rw[Dp zai]
   conv=>lhs;whnf
   rw[D8 zaa]
   conv=>lhs;whnf
   rw[D8 zaa]
   conv=>lhs;whnf
   try dsimp -iota -beta -eta -zeta only
   rw[hz]
   conv=>lhs;whnf
   rw[drw zaj];conv=>lhs;whnf
   try dsimp -iota -beta -eta -zeta only
   rw[Bc zaa]
  ·have hne:a≠b:=fun e=>hab (by subst e;rfl)
   have hz:BC .neq (a[j.toNat]'zaa) (b[j.toNat]'zaa)=true:=by rw[JM,IY (fun e=>hab (UInt8.toNat_inj.1 zaa))]
   rw[if_neg hne]
   rw[AO];conv=>lhs;whnf
   rw[Dp zai]
   conv=>lhs;whnf
   rw[D8 zaa]
   conv=>lhs;whnf
   rw[D8 zaa]
   conv=>lhs;whnf
   try dsimp -iota -beta -eta -zeta only
   rw[hz]
   exact BX rfl
theorem OM(a b:List UInt8)(ha:a.length<=4294967296):Y E0 (.call 21 [.sl .u8 a,.sl .u8 b] [])=some (.ret (.b (decide (a=b))) []):=by
 by_cases h:a=b
 ·rw[decide_eq_true h]
  refine BX ?_
  rcases Bj (↑a.length) (↑b.length) with hc0|hc0
  ·
   rw[IY zai]
   conv=>lhs;whnf
   exact absurd (congrArg List.length h) zaa
  rw[DY zai]
  conv=>lhs;whnf
  try dsimp -iota -beta -eta -zeta only
  rw[EQ]
  rw[OL a b ha zaa a.length 0 zaa zaa zak,if_pos h]
  exact BX rfl
 ·rw[decide_eq_false h]
  refine BX ?_
  rcases Bj (↑a.length) (↑b.length) with hc0|hc0
  ·
   rw[IY zai]
   conv=>lhs;whnf
  rw[DY zai]
  conv=>lhs;whnf
  try dsimp -iota -beta -eta -zeta only
  rw[EQ]
  rw[OL a b ha zaa a.length 0 zaa zaa zak,if_neg h]
  exact BX rfl
end
end Go.Proofs.YtanagnimhaemgaaGreatDoor
