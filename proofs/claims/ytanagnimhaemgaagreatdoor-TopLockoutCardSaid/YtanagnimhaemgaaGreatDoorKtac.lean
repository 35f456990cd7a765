/-
  Own texts, laid together for this claim: contracts of functions of the program and its references, used by the statements of this seat.
-/
import Derived.Lib.MakeNoZero
import Derived.Laws.Externs
import Derived.Test.YtanagnimhaemgaaGreatDoorKtaa
import Derived.Test.YtanagnimhaemgaaGreatDoorKtab
set_option linter.all false
set_option maxHeartbeats 40000000
set_option maxRecDepth 100000
namespace Go.Proofs.YtanagnimhaemgaaGreatDoor
open Go Go.RowKit Go.Eng Go.Ax
section
attribute [local irreducible] FW RL OP Go.Eng.DRX thn Go.Eng.blk A4D A6o Calls
theorem A7e:Y E00 (.call 348 [.u64 1,.u64 32] [])=some (.ret (.tup [.u64 0,.u64 32]) []):=by
 rw[AU];conv=>lhs;whnf
 simp only[Dq,VV];kernel_rfl
theorem A5u:Y E00 (.call 318 [.u64 1,.u64 32] [])=some (.ret (.tup [.u64 0,.u64 32]) []):=by
 rw[AU];conv=>lhs;whnf
 rw[Aj,A7e]
 conv=>lhs;whnf
theorem Ry{k:Nat}{R:Rs}(h:EY k []=some R):False:=zaF
theorem zK(w:World)(hI:I0 w):Calls Tryz.prog 318 #[FD 1,FD 32] w (rD fun v w'=>v=.tuple #[FD 0,FD 32]/\Ext w w'):=by
 have e00:EnvOK Tryz.prog I0 E00:=⟨tg0,ft0,ct0.get,by kernel_rfl,fun _ _ h=>by cases h⟩
 have h:=KU e00 A5u (fun _=>undef) (fun _=>False) w [FD 1,FD 32] ⟨fun _ h=>h.elim,fun w' hs=>hI.ext (Stp.ext (hs.mono fun _ _ h=>h))⟩ (by simp only[AO,Rep];exact⟨_,_,rfl,rfl,_,_,rfl,rfl,rfl⟩) ⟨fun k R h=>(Ry h).elim,fun k k' R R' b h=>(Ry h).elim,fun k h=>(Gt k h).elim⟩
 refine rD.mono h ?_
 rintro v w' ⟨ν',hok⟩
 have h1:=hok.rep
 have h2:=hok.stp
 simp only[Rep,AO] at h1
 obtain⟨us,rfl,_,_,rfl,rfl,_,_,rfl,rfl,rfl⟩:=h1
 exact⟨rfl,Stp.ext (h2.mono fun i _ ⟨k,R,hk,_⟩=>(Ry hk).elim)⟩
structure Fil (w0:World) (g:Nat) (x:UInt8) (bp:Nat) (w:World):Prop where
 lo:1<=bp
 hi:bp<=32
 new:w0.heap.size<=g
 ext:Ext w0 w
 row:∃ cur,w.heap[g]?=some (.cells cur 5 (0,0))/\32<=cur.size/\cur.toList.take bp=List.replicate bp (byteV x)
theorem zL{P:Program}{L:Lst}{w w':World}{ty:TypeId}{K:SV->World->Prop}{xs:Array Operand}{ats:Array TypeId}{f:FuncId}{ss:List SV}{s:SV}(ha:evs L xs.toList=some ss)
  (hr:(callFunc f (ss.map SV.den).toArray).run P w=.ok (.value s.den) w') (hk:K s w'):OP P L (.call {callee:=.value (.func f),args:=xs,argTypes:=ats}) ty w K:=by
 refine Gq (fun ρ he=>?_) hk
 have h1:execOp ρ ⟨none,.call {callee:=.value (.func f),args:=xs,argTypes:=ats},ty, "", #[],none⟩=(do let d<-resolve ρ {callee:=.value (.func f),args:=xs,argTypes:=ats} ty;invoke d.target d.args):=rfl
 have hargs:xs.map ρ=(ss.map SV.den).toArray:=by
  grind[nO,Array.toList_map]
 have hf:ρ (.func f)=.func (.func f) #[] #[]:=he (.func f) (.v (.func (.func f) #[] #[])) rfl
 rw[h1]
 simp only[resolve,hf,Deferred.ofValue,Sem.run_bind,Sem.run_pure,Result.andThen_ok,invoke,hargs]
 simpa using hr
theorem zM{L:Lst}{w:World}{ty:TypeId}{K:SV->World->Prop}{x y:Operand}{g o n cap m k:Nat}{a:Addr}{cur:Array Value}{cs:List Value}(hx:Ir L x=some (.v (.slice (some ⟨g,o,none⟩) n cap)))(hy:Ir L y=some (.v (.slice (some a) m k)))
  (hg:w.heap[g]?=some (.cells cur 5 (0,0))) (hn:cs.length=Nat.min m n) (hsrc:∀ j v,cs[j]?=some v->w.cell? (a.add j)=some v) (hfit:o+cs.length<=cur.size) (h1:∀ v∈cs,v.oneCell'=true)
  (hk:K (.v (.int .i64 cs.length)) (w.setRow g (cur.toList.take o++cs++cur.toList.drop (o+cs.length)).toArray)):OP Tryz.prog L (.call {callee:=.builtin .copy,args := #[x,y],argTypes := #[22,22]}) ty w K:=by
 refine Gq (fun ρ he=>Ee ρ _ _ _ ?_) hk
 have e1:=he x _ hx
 have e2:=he y _ hy
 simp only[SV.den] at e1 e2
 simp only[builtin,List.map_toArray,List.map_cons,List.map_nil,e1,e2,Sem.run_bind,QH w 22 22 ty 5 g o n cap a m k cur 5 (0,0) cs Tryz.underlying22 zai hg (.inr rfl) hn hsrc hfit h1,Result.andThen_ok,Sem.run_pure]
 rfl
theorem A4n:SliceT Tryz.prog 22 5 (.int .u8 0) 1 1:=⟨Tryz.underlying22,by kernel_rfl,rfl,by decide⟩
theorem A2Y{w w2:World}(h:Ext w w2){g:Nat}{cs:Array Value}(hg:w.heap.size<=g):Ext w (w2.setRow g cs):=by
 have q:=FX w2 g cs
 exact⟨q.os.trans h.os,q.tape.trans h.tape,q.output.trans h.output,Nat.le_trans h.size q.size,fun k hk=>(q.block k (Nat.lt_of_lt_of_le hk h.size) (by intro e;cases e;omega)).trans (h.block k hk)⟩
theorem A4o{P:Program}{L:Lst}{w:World}{ty:TypeId}{K:SV->World->Prop}{x y:Operand}{ats:Array TypeId}{a b c:Int}(hx:Ir L x=some (.v (.int .i64 a)))(hy:Ir L y=some (.v (.int .i64 b)))(h:min a b=c)(hk:K (.v (.int .i64 c)) w):OP P L (.call {callee:=.builtin .min,args := #[x,y],argTypes:=ats}) ty w K:=by
 refine Gq (fun ρ he=>Ee ρ _ _ _ ?_) hk
 have h1:=he x _ hx
 have h2:=he y _ hy
 simp only[SV.den] at h1 h2
 have h3:(if b<a then b else a)=c:=zaa
 simp_all[builtin,Builtin.min_,Builtin.min2,SV.den]
section
variable {X:Rl}{P:Program}{ops:Array Oper}{w0:World}{fin:Lst->World->Prop}{d:Nat}{op:Op}{ty:TypeId}{pos:String}{af:Array Edge}{r:List Oper}{L:Lst}{F:Flx}
theorem drX{s:SV}(hf:XU (lks op) F=true)(h:∀ w,X.r w0 w->OP P L op ty w fun s' w'=>X.r w w'/\s'.den=s.den)(hr:Go.Eng.DRX X P ops w0 fin r ((d,s)::L) F):Go.Eng.DRX X P ops w0 fin (⟨some d,op,ty,pos,af,none⟩::r) L F:=by
 unfold Go.Eng.DRX;exact⟨.rig s,Sp.stable_rig s,fun w he=>QG hf (h w he),hr⟩
theorem A7f(R:Value->World->Prop)(hst:∀ v w w',R v w->X.r w w'->R v w')(hf:XU (lks op) F=true)(h:∀ w,X.r w0 w->OP P L op ty w fun s' w'=>X.r w w'/\R s'.den w')(hr:Go.Eng.DRX X P ops w0 fin r L ((d,R)::F)):Go.Eng.DRX X P ops w0 fin (⟨some d,op,ty,pos,af,none⟩::r) L F:=by
 unfold Go.Eng.DRX;exact⟨.flx R,hst,fun w he=>QG hf (h w he),hr⟩
theorem A7g{s:SV}(h:∀ w,X.r w0 w->UL (lks op) w (fun Lx=>OP P Lx op ty w fun s' w'=>X.r w w'/\s'.den=s.den) F L)(hr:Go.Eng.DRX X P ops w0 fin r ((d,s)::L) F):Go.Eng.DRX X P ops w0 fin (⟨some d,op,ty,pos,af,none⟩::r) L F:=by
 unfold Go.Eng.DRX;exact⟨.rig s,Sp.stable_rig s,h,hr⟩
theorem zN{t:Nat}{R:Value->World->Prop}(h:∀ w,X.r w0 w->∀ v,R v w->fin ((t,.v v)::L) w):Go.Eng.DRX X P ops w0 fin [] L [(t,R)]:=by
 unfold Go.Eng.DRX;exact h
end
theorem uD(w:World)(hI:I0 w)(v:Value)(x:UInt8)(hv:Bytes w v [x]):Calls Tryz.prog 277 #[v,.int .i64 32] w (rD fun r w'=>∃ g,r=.slice (some ⟨g,0,none⟩) 32 32/\Fil w g x 32 w'):=by
 refine aJ [.v v,.v (.int .i64 32)] Tryz.func277 rfl Tryz.ntmps277 rfl rfl ?_
 repeat(first|(first|refine IA ?_|refine EO ?_|refine IC ?_|refine G6 ?_|refine Fz ?_|refine Et ?_|refine G5 ?_|refine IB ?_|refine G7 ?_|refine G8 ?_|refine G9 ?_|refine GG ?_|refine GH rfl ?_|refine GI ?_)|(refine st ?_ rfl;(first|refine EZ rfl ?_|refine EP rfl ?_|refine Hg rfl rfl rfl rfl rfl ?_|refine Hf rfl rfl zaa ?_|refine IE rfl rfl zaa ?_|refine IG rfl rfl zaa ?_|refine II rfl rfl zaa ?_|refine IJ rfl rfl zaa ?_|refine IL rfl rfl rfl ?_|refine KD rfl rfl rfl ?_|refine IM rfl rfl rfl ?_|refine IK rfl ?_|refine Eu rfl ?_|refine Ew rfl rfl rfl zac ?_|refine Ey rfl rfl rfl zac ?_|refine Eh rfl rfl rfl zac ?_|refine Ei rfl rfl rfl zac ?_|refine GK rfl rfl rfl zac ?_|refine EQ rfl rfl rfl zaa ?_|refine ER rfl rfl rfl zaa ?_|refine KE (src:=3) (dst:=5) Tryz.underlying3 Tryz.underlying5 rfl ?_|refine IR (src:=5) (dst:=3) Tryz.underlying5 Tryz.underlying3 rfl ?_|refine IP (src:=3) (dst:=128) Tryz.underlying3 Tryz.underlying128 rfl ?_|refine E8 (src:=3) (dst:=163) Tryz.underlying3 Tryz.underlying163 rfl ?_|refine IQ (src:=3) (dst:=117) Tryz.underlying3 Tryz.underlying117 rfl zaa ?_|refine E8 (src:=3) (dst:=117) Tryz.underlying3 Tryz.underlying117 rfl ?_|refine Ez (src:=5) (dst:=128) Tryz.underlying5 Tryz.underlying128 rfl ?_|refine F5 (src:=5) (dst:=163) Tryz.underlying5 Tryz.underlying163 rfl ?_|refine F6 (src:=128) (dst:=5) Tryz.underlying128 Tryz.underlying5 rfl ?_|refine F7 (src:=163) (dst:=5) Tryz.underlying163 Tryz.underlying5 rfl ?_|refine DX rfl ?_|refine BV (t:=22) Tryz.underlying22 rfl zae ?_|refine BV (t:=131) Tryz.underlying131 rfl zae ?_|refine BV (t:=38) Tryz.underlying38 rfl zae ?_|refine BV (t:=24) Tryz.underlying24 rfl zae ?_|refine Dt rfl rfl ?_|refine GL (s:=.u32 _) (t:=128) Tryz.underlying128 rfl rfl (Nc.at zae (Ext.refl _) _ zaa) rfl ?_|refine BX (t:=129) at64 rfl rfl rfl zaa ?_|refine BX (t:=239) at80 rfl rfl rfl zaa ?_|refine BX (t:=270) at8 rfl rfl rfl zaa ?_|refine BX (t:=267) at5 rfl rfl rfl zaa ?_ )))
 refine PG rfl (fun h=>absurd h zac) (fun h=>?_)
 clear h
 repeat(first|(first|refine IA ?_|refine EO ?_|refine IC ?_|refine G6 ?_|refine Fz ?_|refine Et ?_|refine G5 ?_|refine IB ?_|refine G7 ?_|refine G8 ?_|refine G9 ?_|refine GG ?_|refine GH rfl ?_|refine GI ?_)|(refine st ?_ rfl;(first|refine EZ rfl ?_|refine EP rfl ?_|refine Hg rfl rfl rfl rfl rfl ?_|refine Hf rfl rfl zaa ?_|refine IE rfl rfl zaa ?_|refine IG rfl rfl zaa ?_|refine II rfl rfl zaa ?_|refine IJ rfl rfl zaa ?_|refine IL rfl rfl rfl ?_|refine KD rfl rfl rfl ?_|refine IM rfl rfl rfl ?_|refine IK rfl ?_|refine Eu rfl ?_|refine Ew rfl rfl rfl zac ?_|refine Ey rfl rfl rfl zac ?_|refine Eh rfl rfl rfl zac ?_|refine Ei rfl rfl rfl zac ?_|refine GK rfl rfl rfl zac ?_|refine EQ rfl rfl rfl zaa ?_|refine ER rfl rfl rfl zaa ?_|refine KE (src:=3) (dst:=5) Tryz.underlying3 Tryz.underlying5 rfl ?_|refine IR (src:=5) (dst:=3) Tryz.underlying5 Tryz.underlying3 rfl ?_|refine IP (src:=3) (dst:=128) Tryz.underlying3 Tryz.underlying128 rfl ?_|refine E8 (src:=3) (dst:=163) Tryz.underlying3 Tryz.underlying163 rfl ?_|refine IQ (src:=3) (dst:=117) Tryz.underlying3 Tryz.underlying117 rfl zaa ?_|refine E8 (src:=3) (dst:=117) Tryz.underlying3 Tryz.underlying117 rfl ?_|refine Ez (src:=5) (dst:=128) Tryz.underlying5 Tryz.underlying128 rfl ?_|refine F5 (src:=5) (dst:=163) Tryz.underlying5 Tryz.underlying163 rfl ?_|refine F6 (src:=128) (dst:=5) Tryz.underlying128 Tryz.underlying5 rfl ?_|refine F7 (src:=163) (dst:=5) Tryz.underlying163 Tryz.underlying5 rfl ?_|refine DX rfl ?_|refine BV (t:=22) Tryz.underlying22 rfl zae ?_|refine BV (t:=131) Tryz.underlying131 rfl zae ?_|refine BV (t:=38) Tryz.underlying38 rfl zae ?_|refine BV (t:=24) Tryz.underlying24 rfl zae ?_|refine Dt rfl rfl ?_|refine GL (s:=.u32 _) (t:=128) Tryz.underlying128 rfl rfl (Nc.at zae (Ext.refl _) _ zaa) rfl ?_|refine BX (t:=129) at64 rfl rfl rfl zaa ?_|refine BX (t:=239) at80 rfl rfl rfl zaa ?_|refine BX (t:=270) at8 rfl rfl rfl zaa ?_|refine BX (t:=267) at5 rfl rfl rfl zaa ?_ )))
 refine PG rfl (fun h=>absurd h zac) (fun h=>?_)
 clear h
 repeat(first|(first|refine IA ?_|refine EO ?_|refine IC ?_|refine G6 ?_|refine Fz ?_|refine Et ?_|refine G5 ?_|refine IB ?_|refine G7 ?_|refine G8 ?_|refine G9 ?_|refine GG ?_|refine GH rfl ?_|refine GI ?_)|(refine st ?_ rfl;(first|refine EZ rfl ?_|refine EP rfl ?_|refine Hg rfl rfl rfl rfl rfl ?_|refine Hf rfl rfl zaa ?_|refine IE rfl rfl zaa ?_|refine IG rfl rfl zaa ?_|refine II rfl rfl zaa ?_|refine IJ rfl rfl zaa ?_|refine IL rfl rfl rfl ?_|refine KD rfl rfl rfl ?_|refine IM rfl rfl rfl ?_|refine IK rfl ?_|refine Eu rfl ?_|refine Ew rfl rfl rfl zac ?_|refine Ey rfl rfl rfl zac ?_|refine Eh rfl rfl rfl zac ?_|refine Ei rfl rfl rfl zac ?_|refine GK rfl rfl rfl zac ?_|refine EQ rfl rfl rfl zaa ?_|refine ER rfl rfl rfl zaa ?_|refine KE (src:=3) (dst:=5) Tryz.underlying3 Tryz.underlying5 rfl ?_|refine IR (src:=5) (dst:=3) Tryz.underlying5 Tryz.underlying3 rfl ?_|refine IP (src:=3) (dst:=128) Tryz.underlying3 Tryz.underlying128 rfl ?_|refine E8 (src:=3) (dst:=163) Tryz.underlying3 Tryz.underlying163 rfl ?_|refine IQ (src:=3) (dst:=117) Tryz.underlying3 Tryz.underlying117 rfl zaa ?_|refine E8 (src:=3) (dst:=117) Tryz.underlying3 Tryz.underlying117 rfl ?_|refine Ez (src:=5) (dst:=128) Tryz.underlying5 Tryz.underlying128 rfl ?_|refine F5 (src:=5) (dst:=163) Tryz.underlying5 Tryz.underlying163 rfl ?_|refine F6 (src:=128) (dst:=5) Tryz.underlying128 Tryz.underlying5 rfl ?_|refine F7 (src:=163) (dst:=5) Tryz.underlying163 Tryz.underlying5 rfl ?_|refine DX rfl ?_|refine BV (t:=22) Tryz.underlying22 rfl zae ?_|refine BV (t:=131) Tryz.underlying131 rfl zae ?_|refine BV (t:=38) Tryz.underlying38 rfl zae ?_|refine BV (t:=24) Tryz.underlying24 rfl zae ?_|refine Dt rfl rfl ?_|refine GL (s:=.u32 _) (t:=128) Tryz.underlying128 rfl rfl (Nc.at zae (Ext.refl _) _ zaa) rfl ?_|refine BX (t:=129) at64 rfl rfl rfl zaa ?_|refine BX (t:=239) at80 rfl rfl rfl zaa ?_|refine BX (t:=270) at8 rfl rfl rfl zaa ?_|refine BX (t:=267) at5 rfl rfl rfl zaa ?_ )))
 refine st (A1i (ss:=[.u64 1,.v (.int .u64 32)]) (Ent.mk Tryz.func318 zai rfl) rfl (zK w hI) ?_) rfl
 rintro _ w1 ⟨rfl,he1⟩
 have hI1:=hI.ext he1
 have hv1:=hv.ext he1
 repeat(first|(first|refine IA ?_|refine EO ?_|refine IC ?_|refine G6 ?_|refine Fz ?_|refine Et ?_|refine G5 ?_|refine IB ?_|refine G7 ?_|refine G8 ?_|refine G9 ?_|refine GG ?_|refine GH rfl ?_|refine GI ?_)|(refine st ?_ rfl;(first|refine EZ rfl ?_|refine EP rfl ?_|refine Hg rfl rfl rfl rfl rfl ?_|refine Hf rfl rfl zaa ?_|refine IE rfl rfl zaa ?_|refine IG rfl rfl zaa ?_|refine II rfl rfl zaa ?_|refine IJ rfl rfl zaa ?_|refine IL rfl rfl rfl ?_|refine KD rfl rfl rfl ?_|refine IM rfl rfl rfl ?_|refine IK rfl ?_|refine Eu rfl ?_|refine Ew rfl rfl rfl zac ?_|refine Ey rfl rfl rfl zac ?_|refine Eh rfl rfl rfl zac ?_|refine Ei rfl rfl rfl zac ?_|refine GK rfl rfl rfl zac ?_|refine EQ rfl rfl rfl zaa ?_|refine ER rfl rfl rfl zaa ?_|refine KE (src:=3) (dst:=5) Tryz.underlying3 Tryz.underlying5 rfl ?_|refine IR (src:=5) (dst:=3) Tryz.underlying5 Tryz.underlying3 rfl ?_|refine IP (src:=3) (dst:=128) Tryz.underlying3 Tryz.underlying128 rfl ?_|refine E8 (src:=3) (dst:=163) Tryz.underlying3 Tryz.underlying163 rfl ?_|refine IQ (src:=3) (dst:=117) Tryz.underlying3 Tryz.underlying117 rfl zaa ?_|refine E8 (src:=3) (dst:=117) Tryz.underlying3 Tryz.underlying117 rfl ?_|refine Ez (src:=5) (dst:=128) Tryz.underlying5 Tryz.underlying128 rfl ?_|refine F5 (src:=5) (dst:=163) Tryz.underlying5 Tryz.underlying163 rfl ?_|refine F6 (src:=128) (dst:=5) Tryz.underlying128 Tryz.underlying5 rfl ?_|refine F7 (src:=163) (dst:=5) Tryz.underlying163 Tryz.underlying5 rfl ?_|refine DX rfl ?_|refine BV (t:=22) Tryz.underlying22 rfl zae ?_|refine BV (t:=131) Tryz.underlying131 rfl zae ?_|refine BV (t:=38) Tryz.underlying38 rfl zae ?_|refine BV (t:=24) Tryz.underlying24 rfl zae ?_|refine Dt rfl rfl ?_|refine GL (s:=.u32 _) (t:=128) Tryz.underlying128 rfl rfl (Nc.at zae (Ext.refl _) _ zaa) rfl ?_|refine BX (t:=129) at64 rfl rfl rfl zaa ?_|refine BX (t:=239) at80 rfl rfl rfl zaa ?_|refine BX (t:=270) at8 rfl rfl rfl zaa ?_|refine BX (t:=267) at5 rfl rfl rfl zaa ?_ )))
 refine A5e rfl rfl (EZ rfl ?_) rfl rfl
 refine A5e rfl rfl (Hg rfl rfl rfl rfl rfl ?_) rfl rfl
 refine st (wV rfl rfl ?_) rfl
 repeat(first|(first|refine IA ?_|refine EO ?_|refine IC ?_|refine G6 ?_|refine Fz ?_|refine Et ?_|refine G5 ?_|refine IB ?_|refine G7 ?_|refine G8 ?_|refine G9 ?_|refine GG ?_|refine GH rfl ?_|refine GI ?_)|(refine st ?_ rfl;(first|refine EZ rfl ?_|refine EP rfl ?_|refine Hg rfl rfl rfl rfl rfl ?_|refine Hf rfl rfl zaa ?_|refine IE rfl rfl zaa ?_|refine IG rfl rfl zaa ?_|refine II rfl rfl zaa ?_|refine IJ rfl rfl zaa ?_|refine IL rfl rfl rfl ?_|refine KD rfl rfl rfl ?_|refine IM rfl rfl rfl ?_|refine IK rfl ?_|refine Eu rfl ?_|refine Ew rfl rfl rfl zac ?_|refine Ey rfl rfl rfl zac ?_|refine Eh rfl rfl rfl zac ?_|refine Ei rfl rfl rfl zac ?_|refine GK rfl rfl rfl zac ?_|refine EQ rfl rfl rfl zaa ?_|refine ER rfl rfl rfl zaa ?_|refine KE (src:=3) (dst:=5) Tryz.underlying3 Tryz.underlying5 rfl ?_|refine IR (src:=5) (dst:=3) Tryz.underlying5 Tryz.underlying3 rfl ?_|refine IP (src:=3) (dst:=128) Tryz.underlying3 Tryz.underlying128 rfl ?_|refine E8 (src:=3) (dst:=163) Tryz.underlying3 Tryz.underlying163 rfl ?_|refine IQ (src:=3) (dst:=117) Tryz.underlying3 Tryz.underlying117 rfl zaa ?_|refine E8 (src:=3) (dst:=117) Tryz.underlying3 Tryz.underlying117 rfl ?_|refine Ez (src:=5) (dst:=128) Tryz.underlying5 Tryz.underlying128 rfl ?_|refine F5 (src:=5) (dst:=163) Tryz.underlying5 Tryz.underlying163 rfl ?_|refine F6 (src:=128) (dst:=5) Tryz.underlying128 Tryz.underlying5 rfl ?_|refine F7 (src:=163) (dst:=5) Tryz.underlying163 Tryz.underlying5 rfl ?_|refine DX rfl ?_|refine BV (t:=22) Tryz.underlying22 rfl zae ?_|refine BV (t:=131) Tryz.underlying131 rfl zae ?_|refine BV (t:=38) Tryz.underlying38 rfl zae ?_|refine BV (t:=24) Tryz.underlying24 rfl zae ?_|refine Dt rfl rfl ?_|refine GL (s:=.u32 _) (t:=128) Tryz.underlying128 rfl rfl (Nc.at zae (Ext.refl _) _ zaa) rfl ?_|refine BX (t:=129) at64 rfl rfl rfl zaa ?_|refine BX (t:=239) at80 rfl rfl rfl zaa ?_|refine BX (t:=270) at8 rfl rfl rfl zaa ?_|refine BX (t:=267) at5 rfl rfl rfl zaa ?_ )))
 refine PG rfl (fun h=>absurd h zac) (fun h=>?_)
 clear h
 repeat(first|(first|refine IA ?_|refine EO ?_|refine IC ?_|refine G6 ?_|refine Fz ?_|refine Et ?_|refine G5 ?_|refine IB ?_|refine G7 ?_|refine G8 ?_|refine G9 ?_|refine GG ?_|refine GH rfl ?_|refine GI ?_)|(refine st ?_ rfl;(first|refine EZ rfl ?_|refine EP rfl ?_|refine Hg rfl rfl rfl rfl rfl ?_|refine Hf rfl rfl zaa ?_|refine IE rfl rfl zaa ?_|refine IG rfl rfl zaa ?_|refine II rfl rfl zaa ?_|refine IJ rfl rfl zaa ?_|refine IL rfl rfl rfl ?_|refine KD rfl rfl rfl ?_|refine IM rfl rfl rfl ?_|refine IK rfl ?_|refine Eu rfl ?_|refine Ew rfl rfl rfl zac ?_|refine Ey rfl rfl rfl zac ?_|refine Eh rfl rfl rfl zac ?_|refine Ei rfl rfl rfl zac ?_|refine GK rfl rfl rfl zac ?_|refine EQ rfl rfl rfl zaa ?_|refine ER rfl rfl rfl zaa ?_|refine KE (src:=3) (dst:=5) Tryz.underlying3 Tryz.underlying5 rfl ?_|refine IR (src:=5) (dst:=3) Tryz.underlying5 Tryz.underlying3 rfl ?_|refine IP (src:=3) (dst:=128) Tryz.underlying3 Tryz.underlying128 rfl ?_|refine E8 (src:=3) (dst:=163) Tryz.underlying3 Tryz.underlying163 rfl ?_|refine IQ (src:=3) (dst:=117) Tryz.underlying3 Tryz.underlying117 rfl zaa ?_|refine E8 (src:=3) (dst:=117) Tryz.underlying3 Tryz.underlying117 rfl ?_|refine Ez (src:=5) (dst:=128) Tryz.underlying5 Tryz.underlying128 rfl ?_|refine F5 (src:=5) (dst:=163) Tryz.underlying5 Tryz.underlying163 rfl ?_|refine F6 (src:=128) (dst:=5) Tryz.underlying128 Tryz.underlying5 rfl ?_|refine F7 (src:=163) (dst:=5) Tryz.underlying163 Tryz.underlying5 rfl ?_|refine DX rfl ?_|refine BV (t:=22) Tryz.underlying22 rfl zae ?_|refine BV (t:=131) Tryz.underlying131 rfl zae ?_|refine BV (t:=38) Tryz.underlying38 rfl zae ?_|refine BV (t:=24) Tryz.underlying24 rfl zae ?_|refine Dt rfl rfl ?_|refine GL (s:=.u32 _) (t:=128) Tryz.underlying128 rfl rfl (Nc.at zae (Ext.refl _) _ zaa) rfl ?_|refine BX (t:=129) at64 rfl rfl rfl zaa ?_|refine BX (t:=239) at80 rfl rfl rfl zaa ?_|refine BX (t:=270) at8 rfl rfl rfl zaa ?_|refine BX (t:=267) at5 rfl rfl rfl zaa ?_ )))
 refine st (Jz (s:=.v (.int .i64 32)) (k:=.u64) (a:=32) Tryz.underlying117 Tryz.underlying3 rfl rfl rfl ?_) rfl
 repeat(first|(first|refine IA ?_|refine EO ?_|refine IC ?_|refine G6 ?_|refine Fz ?_|refine Et ?_|refine G5 ?_|refine IB ?_|refine G7 ?_|refine G8 ?_|refine G9 ?_|refine GG ?_|refine GH rfl ?_|refine GI ?_)|(refine st ?_ rfl;(first|refine EZ rfl ?_|refine EP rfl ?_|refine Hg rfl rfl rfl rfl rfl ?_|refine Hf rfl rfl zaa ?_|refine IE rfl rfl zaa ?_|refine IG rfl rfl zaa ?_|refine II rfl rfl zaa ?_|refine IJ rfl rfl zaa ?_|refine IL rfl rfl rfl ?_|refine KD rfl rfl rfl ?_|refine IM rfl rfl rfl ?_|refine IK rfl ?_|refine Eu rfl ?_|refine Ew rfl rfl rfl zac ?_|refine Ey rfl rfl rfl zac ?_|refine Eh rfl rfl rfl zac ?_|refine Ei rfl rfl rfl zac ?_|refine GK rfl rfl rfl zac ?_|refine EQ rfl rfl rfl zaa ?_|refine ER rfl rfl rfl zaa ?_|refine KE (src:=3) (dst:=5) Tryz.underlying3 Tryz.underlying5 rfl ?_|refine IR (src:=5) (dst:=3) Tryz.underlying5 Tryz.underlying3 rfl ?_|refine IP (src:=3) (dst:=128) Tryz.underlying3 Tryz.underlying128 rfl ?_|refine E8 (src:=3) (dst:=163) Tryz.underlying3 Tryz.underlying163 rfl ?_|refine IQ (src:=3) (dst:=117) Tryz.underlying3 Tryz.underlying117 rfl zaa ?_|refine E8 (src:=3) (dst:=117) Tryz.underlying3 Tryz.underlying117 rfl ?_|refine Ez (src:=5) (dst:=128) Tryz.underlying5 Tryz.underlying128 rfl ?_|refine F5 (src:=5) (dst:=163) Tryz.underlying5 Tryz.underlying163 rfl ?_|refine F6 (src:=128) (dst:=5) Tryz.underlying128 Tryz.underlying5 rfl ?_|refine F7 (src:=163) (dst:=5) Tryz.underlying163 Tryz.underlying5 rfl ?_|refine DX rfl ?_|refine BV (t:=22) Tryz.underlying22 rfl zae ?_|refine BV (t:=131) Tryz.underlying131 rfl zae ?_|refine BV (t:=38) Tryz.underlying38 rfl zae ?_|refine BV (t:=24) Tryz.underlying24 rfl zae ?_|refine Dt rfl rfl ?_|refine GL (s:=.u32 _) (t:=128) Tryz.underlying128 rfl rfl (Nc.at zae (Ext.refl _) _ zaa) rfl ?_|refine BX (t:=129) at64 rfl rfl rfl zaa ?_|refine BX (t:=239) at80 rfl rfl rfl zaa ?_|refine BX (t:=270) at8 rfl rfl rfl zaa ?_|refine BX (t:=267) at5 rfl rfl rfl zaa ?_ )))
 refine PG rfl (fun h=>absurd h (show ¬Um BinOp.eql 1 0=true by decide)) (fun h=>?_)
 clear h
 repeat(first|(first|refine IA ?_|refine EO ?_|refine IC ?_|refine G6 ?_|refine Fz ?_|refine Et ?_|refine G5 ?_|refine IB ?_|refine G7 ?_|refine G8 ?_|refine G9 ?_|refine GG ?_|refine GH rfl ?_|refine GI ?_)|(refine st ?_ rfl;(first|refine EZ rfl ?_|refine EP rfl ?_|refine Hg rfl rfl rfl rfl rfl ?_|refine Hf rfl rfl zaa ?_|refine IE rfl rfl zaa ?_|refine IG rfl rfl zaa ?_|refine II rfl rfl zaa ?_|refine IJ rfl rfl zaa ?_|refine IL rfl rfl rfl ?_|refine KD rfl rfl rfl ?_|refine IM rfl rfl rfl ?_|refine IK rfl ?_|refine Eu rfl ?_|refine Ew rfl rfl rfl zac ?_|refine Ey rfl rfl rfl zac ?_|refine Eh rfl rfl rfl zac ?_|refine Ei rfl rfl rfl zac ?_|refine GK rfl rfl rfl zac ?_|refine EQ rfl rfl rfl zaa ?_|refine ER rfl rfl rfl zaa ?_|refine KE (src:=3) (dst:=5) Tryz.underlying3 Tryz.underlying5 rfl ?_|refine IR (src:=5) (dst:=3) Tryz.underlying5 Tryz.underlying3 rfl ?_|refine IP (src:=3) (dst:=128) Tryz.underlying3 Tryz.underlying128 rfl ?_|refine E8 (src:=3) (dst:=163) Tryz.underlying3 Tryz.underlying163 rfl ?_|refine IQ (src:=3) (dst:=117) Tryz.underlying3 Tryz.underlying117 rfl zaa ?_|refine E8 (src:=3) (dst:=117) Tryz.underlying3 Tryz.underlying117 rfl ?_|refine Ez (src:=5) (dst:=128) Tryz.underlying5 Tryz.underlying128 rfl ?_|refine F5 (src:=5) (dst:=163) Tryz.underlying5 Tryz.underlying163 rfl ?_|refine F6 (src:=128) (dst:=5) Tryz.underlying128 Tryz.underlying5 rfl ?_|refine F7 (src:=163) (dst:=5) Tryz.underlying163 Tryz.underlying5 rfl ?_|refine DX rfl ?_|refine BV (t:=22) Tryz.underlying22 rfl zae ?_|refine BV (t:=131) Tryz.underlying131 rfl zae ?_|refine BV (t:=38) Tryz.underlying38 rfl zae ?_|refine BV (t:=24) Tryz.underlying24 rfl zae ?_|refine Dt rfl rfl ?_|refine GL (s:=.u32 _) (t:=128) Tryz.underlying128 rfl rfl (Nc.at zae (Ext.refl _) _ zaa) rfl ?_|refine BX (t:=129) at64 rfl rfl rfl zaa ?_|refine BX (t:=239) at80 rfl rfl rfl zaa ?_|refine BX (t:=270) at8 rfl rfl rfl zaa ?_|refine BX (t:=267) at5 rfl rfl rfl zaa ?_ )))
 refine PG rfl (fun h=>absurd h zac) (fun h=>?_)
 clear h
 repeat(first|(first|refine IA ?_|refine EO ?_|refine IC ?_|refine G6 ?_|refine Fz ?_|refine Et ?_|refine G5 ?_|refine IB ?_|refine G7 ?_|refine G8 ?_|refine G9 ?_|refine GG ?_|refine GH rfl ?_|refine GI ?_)|(refine st ?_ rfl;(first|refine EZ rfl ?_|refine EP rfl ?_|refine Hg rfl rfl rfl rfl rfl ?_|refine Hf rfl rfl zaa ?_|refine IE rfl rfl zaa ?_|refine IG rfl rfl zaa ?_|refine II rfl rfl zaa ?_|refine IJ rfl rfl zaa ?_|refine IL rfl rfl rfl ?_|refine KD rfl rfl rfl ?_|refine IM rfl rfl rfl ?_|refine IK rfl ?_|refine Eu rfl ?_|refine Ew rfl rfl rfl zac ?_|refine Ey rfl rfl rfl zac ?_|refine Eh rfl rfl rfl zac ?_|refine Ei rfl rfl rfl zac ?_|refine GK rfl rfl rfl zac ?_|refine EQ rfl rfl rfl zaa ?_|refine ER rfl rfl rfl zaa ?_|refine KE (src:=3) (dst:=5) Tryz.underlying3 Tryz.underlying5 rfl ?_|refine IR (src:=5) (dst:=3) Tryz.underlying5 Tryz.underlying3 rfl ?_|refine IP (src:=3) (dst:=128) Tryz.underlying3 Tryz.underlying128 rfl ?_|refine E8 (src:=3) (dst:=163) Tryz.underlying3 Tryz.underlying163 rfl ?_|refine IQ (src:=3) (dst:=117) Tryz.underlying3 Tryz.underlying117 rfl zaa ?_|refine E8 (src:=3) (dst:=117) Tryz.underlying3 Tryz.underlying117 rfl ?_|refine Ez (src:=5) (dst:=128) Tryz.underlying5 Tryz.underlying128 rfl ?_|refine F5 (src:=5) (dst:=163) Tryz.underlying5 Tryz.underlying163 rfl ?_|refine F6 (src:=128) (dst:=5) Tryz.underlying128 Tryz.underlying5 rfl ?_|refine F7 (src:=163) (dst:=5) Tryz.underlying163 Tryz.underlying5 rfl ?_|refine DX rfl ?_|refine BV (t:=22) Tryz.underlying22 rfl zae ?_|refine BV (t:=131) Tryz.underlying131 rfl zae ?_|refine BV (t:=38) Tryz.underlying38 rfl zae ?_|refine BV (t:=24) Tryz.underlying24 rfl zae ?_|refine Dt rfl rfl ?_|refine GL (s:=.u32 _) (t:=128) Tryz.underlying128 rfl rfl (Nc.at zae (Ext.refl _) _ zaa) rfl ?_|refine BX (t:=129) at64 rfl rfl rfl zaa ?_|refine BX (t:=239) at80 rfl rfl rfl zaa ?_|refine BX (t:=270) at8 rfl rfl rfl zaa ?_|refine BX (t:=267) at5 rfl rfl rfl zaa ?_ )))
 obtain⟨cs,hrun,hle,hmx⟩:=Lib.run_makeNoZero (P:=Tryz.prog) w1 #[3] 22 5 Tryz.underlying22 32 zac
 have hcall:(callFunc 319 #[.int .i64 32]).run Tryz.prog w1=.ok (.value (.slice (some ⟨w1.heap.size,0,none⟩) 32 cs.size)) (w1.drew.drew.alloc (.cells cs 5)):=by
  rw[run_callFunc_extern Tryz.func319 zai zai zai (e:=Extern.BytealgMakeNoZero.makeNoZero #[3] #[22]) zai]
  have h2:(Extern.BytealgMakeNoZero.makeNoZero #[3] #[22] #[.int .i64 32]).run Tryz.prog w1=_:=hrun
  rw[h2]
  rfl
 have he2:Ext w1 (w1.drew.drew.alloc (.cells cs 5)):=Below.alloc (B:=w1.heap.size) (a:=w1) (w:=w1.drew.drew) ((Ext.drew w1).trans (Ext.drew w1.drew)) (Nat.le_refl _) _
 have hg2:(w1.drew.drew.alloc (.cells cs 5)).heap[w1.heap.size]?=some (.cells cs 5 (0,0)):=by
  show(w1.heap.push _)[w1.heap.size]?=_
  exact Array.getElem?_push_size
 generalize hw2:w1.drew.drew.alloc (.cells cs 5)=w2 at *
 clear hw2 hrun
 have hv2:=hv1.ext he2
 have hnew:w.heap.size<=w1.heap.size:=he1.size
 generalize hg0:w1.heap.size=g at *
 refine st (zL (ss:=[.v (.int .i64 32)]) (s:=.v (.slice (some ⟨g,0,none⟩) 32 cs.size)) rfl hcall ?_) rfl
 repeat(first|(first|refine IA ?_|refine EO ?_|refine IC ?_|refine G6 ?_|refine Fz ?_|refine Et ?_|refine G5 ?_|refine IB ?_|refine G7 ?_|refine G8 ?_|refine G9 ?_|refine GG ?_|refine GH rfl ?_|refine GI ?_)|(refine st ?_ rfl;(first|refine EZ rfl ?_|refine EP rfl ?_|refine Hg rfl rfl rfl rfl rfl ?_|refine Hf rfl rfl zaa ?_|refine IE rfl rfl zaa ?_|refine IG rfl rfl zaa ?_|refine II rfl rfl zaa ?_|refine IJ rfl rfl zaa ?_|refine IL rfl rfl rfl ?_|refine KD rfl rfl rfl ?_|refine IM rfl rfl rfl ?_|refine IK rfl ?_|refine Eu rfl ?_|refine Ew rfl rfl rfl zac ?_|refine Ey rfl rfl rfl zac ?_|refine Eh rfl rfl rfl zac ?_|refine Ei rfl rfl rfl zac ?_|refine GK rfl rfl rfl zac ?_|refine EQ rfl rfl rfl zaa ?_|refine ER rfl rfl rfl zaa ?_|refine KE (src:=3) (dst:=5) Tryz.underlying3 Tryz.underlying5 rfl ?_|refine IR (src:=5) (dst:=3) Tryz.underlying5 Tryz.underlying3 rfl ?_|refine IP (src:=3) (dst:=128) Tryz.underlying3 Tryz.underlying128 rfl ?_|refine E8 (src:=3) (dst:=163) Tryz.underlying3 Tryz.underlying163 rfl ?_|refine IQ (src:=3) (dst:=117) Tryz.underlying3 Tryz.underlying117 rfl zaa ?_|refine E8 (src:=3) (dst:=117) Tryz.underlying3 Tryz.underlying117 rfl ?_|refine Ez (src:=5) (dst:=128) Tryz.underlying5 Tryz.underlying128 rfl ?_|refine F5 (src:=5) (dst:=163) Tryz.underlying5 Tryz.underlying163 rfl ?_|refine F6 (src:=128) (dst:=5) Tryz.underlying128 Tryz.underlying5 rfl ?_|refine F7 (src:=163) (dst:=5) Tryz.underlying163 Tryz.underlying5 rfl ?_|refine DX rfl ?_|refine BV (t:=22) Tryz.underlying22 rfl zae ?_|refine BV (t:=131) Tryz.underlying131 rfl zae ?_|refine BV (t:=38) Tryz.underlying38 rfl zae ?_|refine BV (t:=24) Tryz.underlying24 rfl zae ?_|refine Dt rfl rfl ?_|refine GL (s:=.u32 _) (t:=128) Tryz.underlying128 rfl rfl (Nc.at zae (Ext.refl _) _ zaa) rfl ?_|refine BX (t:=129) at64 rfl rfl rfl zaa ?_|refine BX (t:=239) at80 rfl rfl rfl zaa ?_|refine BX (t:=270) at8 rfl rfl rfl zaa ?_|refine BX (t:=267) at5 rfl rfl rfl zaa ?_ )))
 refine st (Gq (w':=w2) (s:=.v (.slice (some ⟨g,0,none⟩) 32 32)) (fun ρ he=>?_) ?_) rfl
 ·have e1:=he (.tmp 54) _ rfl
  have e2:=he (.tmp 55) _ rfl
  have e3:=he (.tmp 56) _ rfl
  simp only[SV.den] at e1 e2 e3
  exact Gu (l:=0) (h:=32) (mx:=32) A4n e1 (by
   simp only[Instr.sliceBounds,Option.map_some,Option.map_none,e2,e3,Sem.run_bind,Sem.run_pure,Result.andThen_ok,Option.isSome_some,if_true,IU _ _ _ _ (show(0:Int)<=32 by omega) (show(32:Int)<=(cs.size:Int) by omega),IU _ _ _ _ (show(0:Int)<=32 by omega) (show(32:Int)<=(((32:Int).toNat:Nat):Int) by omega)];rfl)
 repeat(first|(first|refine IA ?_|refine EO ?_|refine IC ?_|refine G6 ?_|refine Fz ?_|refine Et ?_|refine G5 ?_|refine IB ?_|refine G7 ?_|refine G8 ?_|refine G9 ?_|refine GG ?_|refine GH rfl ?_|refine GI ?_)|(refine st ?_ rfl;(first|refine EZ rfl ?_|refine EP rfl ?_|refine Hg rfl rfl rfl rfl rfl ?_|refine Hf rfl rfl zaa ?_|refine IE rfl rfl zaa ?_|refine IG rfl rfl zaa ?_|refine II rfl rfl zaa ?_|refine IJ rfl rfl zaa ?_|refine IL rfl rfl rfl ?_|refine KD rfl rfl rfl ?_|refine IM rfl rfl rfl ?_|refine IK rfl ?_|refine Eu rfl ?_|refine Ew rfl rfl rfl zac ?_|refine Ey rfl rfl rfl zac ?_|refine Eh rfl rfl rfl zac ?_|refine Ei rfl rfl rfl zac ?_|refine GK rfl rfl rfl zac ?_|refine EQ rfl rfl rfl zaa ?_|refine ER rfl rfl rfl zaa ?_|refine KE (src:=3) (dst:=5) Tryz.underlying3 Tryz.underlying5 rfl ?_|refine IR (src:=5) (dst:=3) Tryz.underlying5 Tryz.underlying3 rfl ?_|refine IP (src:=3) (dst:=128) Tryz.underlying3 Tryz.underlying128 rfl ?_|refine E8 (src:=3) (dst:=163) Tryz.underlying3 Tryz.underlying163 rfl ?_|refine IQ (src:=3) (dst:=117) Tryz.underlying3 Tryz.underlying117 rfl zaa ?_|refine E8 (src:=3) (dst:=117) Tryz.underlying3 Tryz.underlying117 rfl ?_|refine Ez (src:=5) (dst:=128) Tryz.underlying5 Tryz.underlying128 rfl ?_|refine F5 (src:=5) (dst:=163) Tryz.underlying5 Tryz.underlying163 rfl ?_|refine F6 (src:=128) (dst:=5) Tryz.underlying128 Tryz.underlying5 rfl ?_|refine F7 (src:=163) (dst:=5) Tryz.underlying163 Tryz.underlying5 rfl ?_|refine DX rfl ?_|refine BV (t:=22) Tryz.underlying22 rfl zae ?_|refine BV (t:=131) Tryz.underlying131 rfl zae ?_|refine BV (t:=38) Tryz.underlying38 rfl zae ?_|refine BV (t:=24) Tryz.underlying24 rfl zae ?_|refine Dt rfl rfl ?_|refine GL (s:=.u32 _) (t:=128) Tryz.underlying128 rfl rfl (Nc.at zae (Ext.refl _) _ zaa) rfl ?_|refine BX (t:=129) at64 rfl rfl rfl zaa ?_|refine BX (t:=239) at80 rfl rfl rfl zaa ?_|refine BX (t:=270) at8 rfl rfl rfl zaa ?_|refine BX (t:=267) at5 rfl rfl rfl zaa ?_ )))
 obtain⟨a,cap,rfl,-,-,-,hnil,hcell⟩:=hv2
 cases a with
 | none=>exact absurd (hnil rfl).1 zan
 | some p =>
 have hc0:=hcell p rfl
 refine st (zM (cs:=[byteV x]) rfl rfl hg2 rfl (fun j v hj=>hc0 j v hj) zar (by intro v hv;simp at hv;subst hv;rfl) ?_) rfl
 repeat(first|(first|refine IA ?_|refine EO ?_|refine IC ?_|refine G6 ?_|refine Fz ?_|refine Et ?_|refine G5 ?_|refine IB ?_|refine G7 ?_|refine G8 ?_|refine G9 ?_|refine GG ?_|refine GH rfl ?_|refine GI ?_)|(refine st ?_ rfl;(first|refine EZ rfl ?_|refine EP rfl ?_|refine Hg rfl rfl rfl rfl rfl ?_|refine Hf rfl rfl zaa ?_|refine IE rfl rfl zaa ?_|refine IG rfl rfl zaa ?_|refine II rfl rfl zaa ?_|refine IJ rfl rfl zaa ?_|refine IL rfl rfl rfl ?_|refine KD rfl rfl rfl ?_|refine IM rfl rfl rfl ?_|refine IK rfl ?_|refine Eu rfl ?_|refine Ew rfl rfl rfl zac ?_|refine Ey rfl rfl rfl zac ?_|refine Eh rfl rfl rfl zac ?_|refine Ei rfl rfl rfl zac ?_|refine GK rfl rfl rfl zac ?_|refine EQ rfl rfl rfl zaa ?_|refine ER rfl rfl rfl zaa ?_|refine KE (src:=3) (dst:=5) Tryz.underlying3 Tryz.underlying5 rfl ?_|refine IR (src:=5) (dst:=3) Tryz.underlying5 Tryz.underlying3 rfl ?_|refine IP (src:=3) (dst:=128) Tryz.underlying3 Tryz.underlying128 rfl ?_|refine E8 (src:=3) (dst:=163) Tryz.underlying3 Tryz.underlying163 rfl ?_|refine IQ (src:=3) (dst:=117) Tryz.underlying3 Tryz.underlying117 rfl zaa ?_|refine E8 (src:=3) (dst:=117) Tryz.underlying3 Tryz.underlying117 rfl ?_|refine Ez (src:=5) (dst:=128) Tryz.underlying5 Tryz.underlying128 rfl ?_|refine F5 (src:=5) (dst:=163) Tryz.underlying5 Tryz.underlying163 rfl ?_|refine F6 (src:=128) (dst:=5) Tryz.underlying128 Tryz.underlying5 rfl ?_|refine F7 (src:=163) (dst:=5) Tryz.underlying163 Tryz.underlying5 rfl ?_|refine DX rfl ?_|refine BV (t:=22) Tryz.underlying22 rfl zae ?_|refine BV (t:=131) Tryz.underlying131 rfl zae ?_|refine BV (t:=38) Tryz.underlying38 rfl zae ?_|refine BV (t:=24) Tryz.underlying24 rfl zae ?_|refine Dt rfl rfl ?_|refine GL (s:=.u32 _) (t:=128) Tryz.underlying128 rfl rfl (Nc.at zae (Ext.refl _) _ zaa) rfl ?_|refine BX (t:=129) at64 rfl rfl rfl zaa ?_|refine BX (t:=239) at80 rfl rfl rfl zaa ?_|refine BX (t:=270) at8 rfl rfl rfl zaa ?_|refine BX (t:=267) at5 rfl rfl rfl zaa ?_ )))
 refine A1f (fun bp:Nat=>[(10,.v (.int .i64 bp)),(7,.v (.int .i64 32)),(8,.v (.int .i64 32)),(9,.v (.slice (some ⟨g,0,none⟩) 32 32))]) (fun bp w'=>Fil w g x bp w') (fun bp=>32-bp) 1 ⟨rfl,rfl,rfl,rfl,trivial⟩ ?_ ?_
 ·refine⟨by omega,by omega,hnew,A2Y (he1.trans he2) hnew,_,setRow_heap w2 g cs _ 5 _ hg2,?_,?_⟩
  ·simp;omega
  ·rfl
 intro bp w' hF
 repeat(first|(first|refine IA ?_|refine EO ?_|refine IC ?_|refine G6 ?_|refine Fz ?_|refine Et ?_|refine G5 ?_|refine IB ?_|refine G7 ?_|refine G8 ?_|refine G9 ?_|refine GG ?_|refine GH rfl ?_|refine GI ?_)|(refine st ?_ rfl;(first|refine EZ rfl ?_|refine EP rfl ?_|refine Hg rfl rfl rfl rfl rfl ?_|refine Hf rfl rfl zaa ?_|refine IE rfl rfl zaa ?_|refine IG rfl rfl zaa ?_|refine II rfl rfl zaa ?_|refine IJ rfl rfl zaa ?_|refine IL rfl rfl rfl ?_|refine KD rfl rfl rfl ?_|refine IM rfl rfl rfl ?_|refine IK rfl ?_|refine Eu rfl ?_|refine Ew rfl rfl rfl zac ?_|refine Ey rfl rfl rfl zac ?_|refine Eh rfl rfl rfl zac ?_|refine Ei rfl rfl rfl zac ?_|refine GK rfl rfl rfl zac ?_|refine EQ rfl rfl rfl zaa ?_|refine ER rfl rfl rfl zaa ?_|refine KE (src:=3) (dst:=5) Tryz.underlying3 Tryz.underlying5 rfl ?_|refine IR (src:=5) (dst:=3) Tryz.underlying5 Tryz.underlying3 rfl ?_|refine IP (src:=3) (dst:=128) Tryz.underlying3 Tryz.underlying128 rfl ?_|refine E8 (src:=3) (dst:=163) Tryz.underlying3 Tryz.underlying163 rfl ?_|refine IQ (src:=3) (dst:=117) Tryz.underlying3 Tryz.underlying117 rfl zaa ?_|refine E8 (src:=3) (dst:=117) Tryz.underlying3 Tryz.underlying117 rfl ?_|refine Ez (src:=5) (dst:=128) Tryz.underlying5 Tryz.underlying128 rfl ?_|refine F5 (src:=5) (dst:=163) Tryz.underlying5 Tryz.underlying163 rfl ?_|refine F6 (src:=128) (dst:=5) Tryz.underlying128 Tryz.underlying5 rfl ?_|refine F7 (src:=163) (dst:=5) Tryz.underlying163 Tryz.underlying5 rfl ?_|refine DX rfl ?_|refine BV (t:=22) Tryz.underlying22 rfl zae ?_|refine BV (t:=131) Tryz.underlying131 rfl zae ?_|refine BV (t:=38) Tryz.underlying38 rfl zae ?_|refine BV (t:=24) Tryz.underlying24 rfl zae ?_|refine Dt rfl rfl ?_|refine GL (s:=.u32 _) (t:=128) Tryz.underlying128 rfl rfl (Nc.at zae (Ext.refl _) _ zaa) rfl ?_|refine BX (t:=129) at64 rfl rfl rfl zaa ?_|refine BX (t:=239) at80 rfl rfl rfl zaa ?_|refine BX (t:=270) at8 rfl rfl rfl zaa ?_|refine BX (t:=267) at5 rfl rfl rfl zaa ?_ )))
 refine PG rfl (fun h=>?_) (fun h=>?_)
 ·have hlt:bp<32:=by
   have:(bp:Int)<32:=by simpa [Um] using h
   omega
  obtain⟨q1,q2,q3,q4,cur,q5,q6,q7⟩:=hF
  repeat(first|(first|refine IA ?_|refine EO ?_|refine IC ?_|refine G6 ?_|refine Fz ?_|refine Et ?_|refine G5 ?_|refine IB ?_|refine G7 ?_|refine G8 ?_|refine G9 ?_|refine GG ?_|refine GH rfl ?_|refine GI ?_)|(refine st ?_ rfl;(first|refine EZ rfl ?_|refine EP rfl ?_|refine Hg rfl rfl rfl rfl rfl ?_|refine Hf rfl rfl zaa ?_|refine IE rfl rfl zaa ?_|refine IG rfl rfl zaa ?_|refine II rfl rfl zaa ?_|refine IJ rfl rfl zaa ?_|refine IL rfl rfl rfl ?_|refine KD rfl rfl rfl ?_|refine IM rfl rfl rfl ?_|refine IK rfl ?_|refine Eu rfl ?_|refine Ew rfl rfl rfl zac ?_|refine Ey rfl rfl rfl zac ?_|refine Eh rfl rfl rfl zac ?_|refine Ei rfl rfl rfl zac ?_|refine GK rfl rfl rfl zac ?_|refine EQ rfl rfl rfl zaa ?_|refine ER rfl rfl rfl zaa ?_|refine KE (src:=3) (dst:=5) Tryz.underlying3 Tryz.underlying5 rfl ?_|refine IR (src:=5) (dst:=3) Tryz.underlying5 Tryz.underlying3 rfl ?_|refine IP (src:=3) (dst:=128) Tryz.underlying3 Tryz.underlying128 rfl ?_|refine E8 (src:=3) (dst:=163) Tryz.underlying3 Tryz.underlying163 rfl ?_|refine IQ (src:=3) (dst:=117) Tryz.underlying3 Tryz.underlying117 rfl zaa ?_|refine E8 (src:=3) (dst:=117) Tryz.underlying3 Tryz.underlying117 rfl ?_|refine Ez (src:=5) (dst:=128) Tryz.underlying5 Tryz.underlying128 rfl ?_|refine F5 (src:=5) (dst:=163) Tryz.underlying5 Tryz.underlying163 rfl ?_|refine F6 (src:=128) (dst:=5) Tryz.underlying128 Tryz.underlying5 rfl ?_|refine F7 (src:=163) (dst:=5) Tryz.underlying163 Tryz.underlying5 rfl ?_|refine DX rfl ?_|refine BV (t:=22) Tryz.underlying22 rfl zae ?_|refine BV (t:=131) Tryz.underlying131 rfl zae ?_|refine BV (t:=38) Tryz.underlying38 rfl zae ?_|refine BV (t:=24) Tryz.underlying24 rfl zae ?_|refine Dt rfl rfl ?_|refine GL (s:=.u32 _) (t:=128) Tryz.underlying128 rfl rfl (Nc.at zae (Ext.refl _) _ zaa) rfl ?_|refine BX (t:=129) at64 rfl rfl rfl zaa ?_|refine BX (t:=239) at80 rfl rfl rfl zaa ?_|refine BX (t:=270) at8 rfl rfl rfl zaa ?_|refine BX (t:=267) at5 rfl rfl rfl zaa ?_ )))
  refine st (A4o (c:=bp) rfl rfl zaa ?_) rfl
  repeat(first|(first|refine IA ?_|refine EO ?_|refine IC ?_|refine G6 ?_|refine Fz ?_|refine Et ?_|refine G5 ?_|refine IB ?_|refine G7 ?_|refine G8 ?_|refine G9 ?_|refine GG ?_|refine GH rfl ?_|refine GI ?_)|(refine st ?_ rfl;(first|refine EZ rfl ?_|refine EP rfl ?_|refine Hg rfl rfl rfl rfl rfl ?_|refine Hf rfl rfl zaa ?_|refine IE rfl rfl zaa ?_|refine IG rfl rfl zaa ?_|refine II rfl rfl zaa ?_|refine IJ rfl rfl zaa ?_|refine IL rfl rfl rfl ?_|refine KD rfl rfl rfl ?_|refine IM rfl rfl rfl ?_|refine IK rfl ?_|refine Eu rfl ?_|refine Ew rfl rfl rfl zac ?_|refine Ey rfl rfl rfl zac ?_|refine Eh rfl rfl rfl zac ?_|refine Ei rfl rfl rfl zac ?_|refine GK rfl rfl rfl zac ?_|refine EQ rfl rfl rfl zaa ?_|refine ER rfl rfl rfl zaa ?_|refine KE (src:=3) (dst:=5) Tryz.underlying3 Tryz.underlying5 rfl ?_|refine IR (src:=5) (dst:=3) Tryz.underlying5 Tryz.underlying3 rfl ?_|refine IP (src:=3) (dst:=128) Tryz.underlying3 Tryz.underlying128 rfl ?_|refine E8 (src:=3) (dst:=163) Tryz.underlying3 Tryz.underlying163 rfl ?_|refine IQ (src:=3) (dst:=117) Tryz.underlying3 Tryz.underlying117 rfl zaa ?_|refine E8 (src:=3) (dst:=117) Tryz.underlying3 Tryz.underlying117 rfl ?_|refine Ez (src:=5) (dst:=128) Tryz.underlying5 Tryz.underlying128 rfl ?_|refine F5 (src:=5) (dst:=163) Tryz.underlying5 Tryz.underlying163 rfl ?_|refine F6 (src:=128) (dst:=5) Tryz.underlying128 Tryz.underlying5 rfl ?_|refine F7 (src:=163) (dst:=5) Tryz.underlying163 Tryz.underlying5 rfl ?_|refine DX rfl ?_|refine BV (t:=22) Tryz.underlying22 rfl zae ?_|refine BV (t:=131) Tryz.underlying131 rfl zae ?_|refine BV (t:=38) Tryz.underlying38 rfl zae ?_|refine BV (t:=24) Tryz.underlying24 rfl zae ?_|refine Dt rfl rfl ?_|refine GL (s:=.u32 _) (t:=128) Tryz.underlying128 rfl rfl (Nc.at zae (Ext.refl _) _ zaa) rfl ?_|refine BX (t:=129) at64 rfl rfl rfl zaa ?_|refine BX (t:=239) at80 rfl rfl rfl zaa ?_|refine BX (t:=270) at8 rfl rfl rfl zaa ?_|refine BX (t:=267) at5 rfl rfl rfl zaa ?_ )))
  have hbn:(List.replicate bp (byteV x)).length=bp:=List.length_replicate
  have hcl:cur.toList.length=cur.size:=Array.length_toList
  -- how many are copied, and the row behind it
  obtain⟨k,hk⟩:∃ k,k=min bp (32-bp):=⟨_,rfl⟩
  have hcs1:(cur.toList.take k)=List.replicate k (byteV x):=by
   have e1:cur.toList.take k=(cur.toList.take bp).take k:=za1
   rw[e1,q7,List.take_replicate];congr 1;omega
  obtain⟨c1,hc1⟩:∃ c1:Array Value,c1=(cur.toList.take bp++List.replicate k (byteV x)++cur.toList.drop (bp+k)).toArray:=⟨_,rfl⟩
  have hl1:c1.toList.length=cur.size:=by
   rw[hc1,List.toList_toArray,List.length_append,List.length_append,List.length_replicate,List.length_take,List.length_drop,hcl];omega
  have ht1:c1.toList.take (bp+k)=List.replicate (bp+k) (byteV x):=by
   rw[hc1,List.toList_toArray,q7,List.replicate_append_replicate,List.take_left' List.length_replicate]
  have hd1:c1.toList.drop (bp+k)=cur.toList.drop (bp+k):=by
   rw[hc1,List.toList_toArray,q7,List.replicate_append_replicate,List.drop_left' List.length_replicate]
  have hid:(c1.toList.take bp++List.replicate k (byteV x)++c1.toList.drop (bp+k)).toArray=c1:=by
   have e1:c1.toList.take bp=List.replicate bp (byteV x):=by
    have:c1.toList.take bp=(c1.toList.take (bp+k)).take bp:=za1
    rw[this,ht1,List.take_replicate];congr 1;omega
   rw[e1,hd1]
   conv=>rhs;rw[hc1,q7]
  have hcs2:(c1.toList.take k)=List.replicate k (byteV x):=by
   have e1:c1.toList.take k=(c1.toList.take (bp+k)).take k:=za1
   rw[e1,ht1,List.take_replicate];congr 1;omega
  let Q1:World->Prop:=fun w=>w.heap[g]?=some (.cells c1 5 (0,0))
  let P1:World->Prop:=fun w=>w.heap[g]?=some (.cells cur 5 (0,0))\/Q1 w
  let X:Rl:=⟨fun a b=>Below g a b/\(P1 a->P1 b)/\(Q1 a->Q1 b),fun a=>⟨Below.refl _ _,id,id⟩,fun h1 h2=>⟨Below.trans h1.1 h2.1,fun h=>h2.2.1 (h1.2.1 h),fun h=>h2.2.2 (h1.2.2 h)⟩,fun a=>⟨(Below.refl _ _).drew,id,id⟩⟩
  have hX:∀ a,X.r a a:=X.refl
  refine wO X zai 9 zai ?_
  refine drX rfl (fun w_ he_=>EZ rfl ⟨hX _,rfl⟩) ?_
  refine drX rfl (fun w_ he_=>EZ rfl ⟨hX _,rfl⟩) ?_
  refine drX rfl (fun w_ he_=>EZ rfl ⟨hX _,rfl⟩) ?_
  refine drX (s:=.v (.slice (some ⟨g,bp,none⟩) (32-bp) (32-bp))) rfl (fun w_ he_=>Gq (w':=w_) (s:=.v (.slice (some ⟨g,bp,none⟩) (32-bp) (32-bp))) (fun ρ he=>?_) ⟨hX _,rfl⟩) ?_
  ·have e1:=he (.tmp 68) _ rfl
   have e2:=he (.tmp 69) _ rfl
   simp only[SV.den] at e1 e2
   have e3:=Gu (P:=Tryz.prog) (ty:=22) (x:=.tmp 68) (olo:=some (.tmp 69)) (ohi:=none) (omx:=none) (w:=w_) (l:=bp) (h:=32) (mx:=32) A4n e1 (sb0 (isS:=true) (lo:=(bp:Int)) (by exact⟨_,e2⟩) zaa zaa)
   rw[if_neg zaa] at e3
   simp only[SV.den]
   rw[show(some (Addr.mk g bp none))=(some (Addr.mk g 0 none)).map (·.add (bp*1)) by simp[Addr.add];omega]
   exact e3
  refine drX rfl (fun w_ he_=>EZ rfl ⟨hX _,rfl⟩) ?_
  refine drX rfl (fun w_ he_=>EZ rfl ⟨hX _,rfl⟩) ?_
  refine drX (s:=.v (.slice (some ⟨g,0,none⟩) bp 32)) rfl (fun w_ he_=>Gq (w':=w_) (s:=.v (.slice (some ⟨g,0,none⟩) bp 32)) (fun ρ he=>?_) ⟨hX _,rfl⟩) ?_
  ·have e1:=he (.tmp 71) _ rfl
   have e2:=he (.tmp 72) _ rfl
   simp only[SV.den] at e1 e2
   have e3:=Gu (P:=Tryz.prog) (ty:=22) (x:=.tmp 71) (olo:=none) (ohi:=some (.tmp 72)) (omx:=none) (w:=w_) (l:=0) (h:=bp) (mx:=32) A4n e1 (sb1 (isS:=true) (lo:=0) (hi:=(bp:Int)) rfl e2 zaa zaa zaa)
   rw[if_neg zaa] at e3
   simp only[SV.den]
   rw[show(some (Addr.mk g 0 none))=(some (Addr.mk g 0 none)).map (·.add (0*1)) by simp[Addr.add]]
   exact e3
  refine A7f (fun v w=>v=.int .i64 (k:Int)/\Q1 w) (fun v a b h hx=>⟨h.1,hx.2.2 h.2⟩) rfl (fun w_ he_=>?_) ?_
  ·obtain⟨c,h1,h2,h3,h4⟩:∃ c:Array Value,w_.heap[g]?=some (.cells c 5 (0,0))/\(c.toList.take bp++List.replicate k (byteV x)++c.toList.drop (bp+k)).toArray=c1/\c.toList.take k=List.replicate k (byteV x)/\c.toList.length=cur.size:=by
    rcases he_.2.1 (.inl q5) with hc|hc
    ·exact⟨cur,hc,hc1.symm,hcs1,hcl⟩
    ·exact⟨c1,hc,hid,hcs2,hl1⟩
   have hlk:(List.replicate k (byteV x)).length=k:=List.length_replicate
   refine zM (g:=g) (o:=bp) (n:=32-bp) (cap:=32-bp) (m:=bp) (k:=32) (a:=⟨g,0,none⟩) (cur:=c) (cs:=List.replicate k (byteV x)) rfl rfl h1 (by rw[hlk,hk]) (fun j v hj=>?_) (by rw[hlk,<-Array.length_toList,h4];omega) (fun v hv=>by rw[List.eq_of_mem_replicate hv];rfl) ?_
   ·rw[<-h3] at hj
    rw[List.getElem?_take] at hj
    split at hj
    ·rw[Array.getElem?_toList] at hj
     simp[World.cell?,Addr.add_lit,h1,hj]
    ·cases hj
   ·rw[hlk,h2]
    have hq:Q1 (w_.setRow g c1):=setRow_heap w_ g c c1 _ _ h1
    have hb:Below g w_ (w_.setRow g c1):=by
     have q:=FX w_ g c1
     have hgl:g<w_.heap.size:=(Array.getElem?_eq_some_iff.1 h1).1
     exact⟨q.os,q.tape,q.output,q.size,fun k hk=>q.block k zaa (by intro e;cases e;omega)⟩
    exact⟨⟨hb,fun _=>.inr hq,fun _=>hq⟩,rfl,hq⟩
  refine A7g (s:=.v (.int .i64 ((bp+k:Nat):Int))) (fun w_ he_=>?_) ?_
  ·rintro v ⟨rfl,hq⟩
   exact Hf rfl rfl zaa ⟨hX _,by simp only[SV.den];congr 1⟩
  refine zN (fun w_ he_=>?_)
  rintro v ⟨rfl,hq⟩
  repeat(first|(first|refine IA ?_|refine EO ?_|refine IC ?_|refine G6 ?_|refine Fz ?_|refine Et ?_|refine G5 ?_|refine IB ?_|refine G7 ?_|refine G8 ?_|refine G9 ?_|refine GG ?_|refine GH rfl ?_|refine GI ?_)|(refine st ?_ rfl;(first|refine EZ rfl ?_|refine EP rfl ?_|refine Hg rfl rfl rfl rfl rfl ?_|refine Hf rfl rfl zaa ?_|refine IE rfl rfl zaa ?_|refine IG rfl rfl zaa ?_|refine II rfl rfl zaa ?_|refine IJ rfl rfl zaa ?_|refine IL rfl rfl rfl ?_|refine KD rfl rfl rfl ?_|refine IM rfl rfl rfl ?_|refine IK rfl ?_|refine Eu rfl ?_|refine Ew rfl rfl rfl zac ?_|refine Ey rfl rfl rfl zac ?_|refine Eh rfl rfl rfl zac ?_|refine Ei rfl rfl rfl zac ?_|refine GK rfl rfl rfl zac ?_|refine EQ rfl rfl rfl zaa ?_|refine ER rfl rfl rfl zaa ?_|refine KE (src:=3) (dst:=5) Tryz.underlying3 Tryz.underlying5 rfl ?_|refine IR (src:=5) (dst:=3) Tryz.underlying5 Tryz.underlying3 rfl ?_|refine IP (src:=3) (dst:=128) Tryz.underlying3 Tryz.underlying128 rfl ?_|refine E8 (src:=3) (dst:=163) Tryz.underlying3 Tryz.underlying163 rfl ?_|refine IQ (src:=3) (dst:=117) Tryz.underlying3 Tryz.underlying117 rfl zaa ?_|refine E8 (src:=3) (dst:=117) Tryz.underlying3 Tryz.underlying117 rfl ?_|refine Ez (src:=5) (dst:=128) Tryz.underlying5 Tryz.underlying128 rfl ?_|refine F5 (src:=5) (dst:=163) Tryz.underlying5 Tryz.underlying163 rfl ?_|refine F6 (src:=128) (dst:=5) Tryz.underlying128 Tryz.underlying5 rfl ?_|refine F7 (src:=163) (dst:=5) Tryz.underlying163 Tryz.underlying5 rfl ?_|refine DX rfl ?_|refine BV (t:=22) Tryz.underlying22 rfl zae ?_|refine BV (t:=131) Tryz.underlying131 rfl zae ?_|refine BV (t:=38) Tryz.underlying38 rfl zae ?_|refine BV (t:=24) Tryz.underlying24 rfl zae ?_|refine Dt rfl rfl ?_|refine GL (s:=.u32 _) (t:=128) Tryz.underlying128 rfl rfl (Nc.at zae (Ext.refl _) _ zaa) rfl ?_|refine BX (t:=129) at64 rfl rfl rfl zaa ?_|refine BX (t:=239) at80 rfl rfl rfl zaa ?_|refine BX (t:=270) at8 rfl rfl rfl zaa ?_|refine BX (t:=267) at5 rfl rfl rfl zaa ?_ )))
  refine⟨bp+k,⟨rfl,rfl,rfl,rfl,trivial⟩,⟨by omega,by omega,q3,?_,c1,hq,?_,ht1⟩,by omega⟩
  ·exact Below.trans q4 (Below.mono he_.1 q3)
  ·rw[<-Array.length_toList,hl1];exact q6
 ·repeat(first|(first|refine IA ?_|refine EO ?_|refine IC ?_|refine G6 ?_|refine Fz ?_|refine Et ?_|refine G5 ?_|refine IB ?_|refine G7 ?_|refine G8 ?_|refine G9 ?_|refine GG ?_|refine GH rfl ?_|refine GI ?_)|(refine st ?_ rfl;(first|refine EZ rfl ?_|refine EP rfl ?_|refine Hg rfl rfl rfl rfl rfl ?_|refine Hf rfl rfl zaa ?_|refine IE rfl rfl zaa ?_|refine IG rfl rfl zaa ?_|refine II rfl rfl zaa ?_|refine IJ rfl rfl zaa ?_|refine IL rfl rfl rfl ?_|refine KD rfl rfl rfl ?_|refine IM rfl rfl rfl ?_|refine IK rfl ?_|refine Eu rfl ?_|refine Ew rfl rfl rfl zac ?_|refine Ey rfl rfl rfl zac ?_|refine Eh rfl rfl rfl zac ?_|refine Ei rfl rfl rfl zac ?_|refine GK rfl rfl rfl zac ?_|refine EQ rfl rfl rfl zaa ?_|refine ER rfl rfl rfl zaa ?_|refine KE (src:=3) (dst:=5) Tryz.underlying3 Tryz.underlying5 rfl ?_|refine IR (src:=5) (dst:=3) Tryz.underlying5 Tryz.underlying3 rfl ?_|refine IP (src:=3) (dst:=128) Tryz.underlying3 Tryz.underlying128 rfl ?_|refine E8 (src:=3) (dst:=163) Tryz.underlying3 Tryz.underlying163 rfl ?_|refine IQ (src:=3) (dst:=117) Tryz.underlying3 Tryz.underlying117 rfl zaa ?_|refine E8 (src:=3) (dst:=117) Tryz.underlying3 Tryz.underlying117 rfl ?_|refine Ez (src:=5) (dst:=128) Tryz.underlying5 Tryz.underlying128 rfl ?_|refine F5 (src:=5) (dst:=163) Tryz.underlying5 Tryz.underlying163 rfl ?_|refine F6 (src:=128) (dst:=5) Tryz.underlying128 Tryz.underlying5 rfl ?_|refine F7 (src:=163) (dst:=5) Tryz.underlying163 Tryz.underlying5 rfl ?_|refine DX rfl ?_|refine BV (t:=22) Tryz.underlying22 rfl zae ?_|refine BV (t:=131) Tryz.underlying131 rfl zae ?_|refine BV (t:=38) Tryz.underlying38 rfl zae ?_|refine BV (t:=24) Tryz.underlying24 rfl zae ?_|refine Dt rfl rfl ?_|refine GL (s:=.u32 _) (t:=128) Tryz.underlying128 rfl rfl (Nc.at zae (Ext.refl _) _ zaa) rfl ?_|refine BX (t:=129) at64 rfl rfl rfl zaa ?_|refine BX (t:=239) at80 rfl rfl rfl zaa ?_|refine BX (t:=270) at8 rfl rfl rfl zaa ?_|refine BX (t:=267) at5 rfl rfl rfl zaa ?_ )))
  refine A1h rfl ⟨g,rfl,?_⟩
  have:bp=32:=by
   have:¬(bp:Int)<32:=by simpa [Um] using h
   have:=hF.hi
   omega
  exact this▸hF
theorem OZ{w:World}:∀(l:List UInt8),EE (fun x c=>CR .u8 x c w) l (l.map fun x=>[byteV x])
 | []=>trivial
 | x::l=>⟨by simp only[CR],OZ l⟩
theorem YB{α β:Type}(f:α->β):∀(l:List α),(l.map fun x=>[f x]).flatten=l.map f
 | []=>rfl
 | x::l=>by rw[List.map_cons,List.flatten_cons,YB f l];rfl
theorem zO(x:UInt8):XD Tryz.prog I0 277 [.sl .u8 [x],.i 32] [] (.sl .u8 (List.replicate 32 x)) []:=by
 intro ν O w args hG hR hP
 simp only[AO,Rep] at hR
 obtain⟨v,_,rfl,hv,_,_,rfl,rfl,rfl⟩:=hR
 have hvb:Bytes w v [x]:=by
  obtain⟨cs,h1,h2⟩:=hv w (Stp.refl _ _)
  cases cs with
  | nil=>exact h1.elim
  | cons c cs =>
   obtain⟨h3,h4⟩:=h1
   cases cs with
   | cons _ _=>exact h4.elim
   | nil =>
    simp only[CR] at h3
    subst h3
    exact h2
 refine rD.mono (uD w (hG.inv _ (Stp.refl _ _)) v x hvb) ?_
 rintro r w' ⟨g,rfl,q1,q2,q3,q4,cur,q5,q6,q7⟩
 refine⟨ν,fun _ _=>rfl,?_,fun k R hk=>(by cases hk),fun k k' R R' b hk=>(by cases hk),Stp.of_ext q4 _⟩
 simp only[Rep]
 intro w'' hs
 have hgl:g<w'.heap.size:=(Array.getElem?_eq_some_iff.1 q5).1
 have hnot:¬((O g/\¬Di ν (Kq 0 []) g)\/Di ν (GU id 0 []) g):=by
  rintro(h|⟨k,R,hk,_⟩)
  ·have:=hG.lt g h.1
   simp only at *;omega
  ·exact Ry hk
 have h5:w''.heap[g]?=some (.cells cur 5 (0,0)):=by rw[hs.block g hgl hnot];exact q5
 refine⟨(List.replicate 32 x).map fun x=>[byteV x],OZ _,?_⟩
 rw[YB]
 refine⟨some ⟨g,0,none⟩,32,by rw[List.length_replicate],by simp;rfl,by simp,by simp[maxLen],(fun h=>by cases h),fun p hp=>?_⟩
 obtain rfl:=Option.some.inj hp
 intro j u hu
 rw[List.map_replicate,<-q7,List.getElem?_take] at hu
 split at hu
 ·rw[Array.getElem?_toList] at hu
  simp[World.cell?,Addr.add_lit,h5,hu]
 ·cases hu
noncomputable def ovR:Orc:=fun q=>match q with
 | .call f args H=>bif Nat.beq f 277 then(match args,H with
   | [.sl .u8 [x],.i (.ofNat 32)],[]=>some (.ret (.sl .u8 (List.replicate 32 x)) [])
   | _,_=>none)
  else ovC (.call f args H)
 | .loop _ _ _ _ _ _=>none
theorem A4q{E:Env}:∀ q r,ovR q=some r->A2B Tryz.prog I0 E q r:=by
 intro q r h
 cases q with
 | loop f k n0 m L H=>cases h
 | call f args H =>
  simp only[ovR] at h
  cases hb:Nat.beq f 277 with
  | false=>rw[hb,cond_false] at h;exact A4m _ _ h
  | true =>
   obtain rfl:=Nat.eq_of_beq_eq_true hb
   rw[hb,cond_true] at h
   split at h
   ·obtain rfl:=Option.some.inj h
    exact zO _
   ·cases h
end
end Go.Proofs.YtanagnimhaemgaaGreatDoor
