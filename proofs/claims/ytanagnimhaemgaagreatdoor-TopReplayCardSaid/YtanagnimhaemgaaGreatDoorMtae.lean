/-
  Own texts, laid together for this claim: contracts of functions of the program and its references, used by the statements of this seat.
-/
import Derived.Test.YtanagnimhaemgaaGreatDoorRows
import Derived.Test.YtanagnimhaemgaaGreatDoorCards
import Derived.Test.YtanagnimhaemgaaGreatDoorTie
import Derived.WalkKit
import Derived.ProofKit
import Derived.OpenShut
import Derived.Carry
import Derived.ChangeSlices
import Derived.Deep.DeepHandedRow
import Derived.Lib.LaidTab
import Derived.ChangeArms
import Derived.Test.YtanagnimhaemgaaGreatDoorMtaa
import Derived.Test.YtanagnimhaemgaaGreatDoorMtab
import Derived.Test.YtanagnimhaemgaaGreatDoorMtac
import Derived.Test.YtanagnimhaemgaaGreatDoorMtad
set_option linter.all false
set_option maxHeartbeats 40000000
set_option maxRecDepth 100000
namespace Go.Ax
open Go Go.Eng
def PT(ws:List UInt32):Nat->Nat->List UInt32->List UInt32
 | 0,_,s=>s
 | k+1,t,s=>PT ws k (t+1) (Vs (MZ.getD t 0) (ws.getD t 0) s)
theorem rndsF_eq(ws s:List UInt32):∀(k t:Nat),PT ws k t (Pj ws s t)=Pj ws s (t+k)
 | 0,t=>rfl
 | k+1,t=>by rw[show t+(k+1)=t+1+k from by omega,<-rndsF_eq ws s k (t+1)];rfl
theorem k256_get{t:Nat}(h:t<64):BA MZ (t:Int)=some (MZ.getD t 0):=by
 rw[lget_i ⟨by omega,by show(t:Int)<64;omega⟩];simp[List.getD,show t<MZ.length from h]
theorem rndsF_len(ws:List UInt32):∀(k t:Nat) (s:List UInt32),s.length=8->(PT ws k t s).length=8
 | 0,_,_,h=>h
 | k+1,t,s,_=>rndsF_len ws k (t+1) _ rfl
theorem comp256_c(h0 h1 h2 h3 h4 h5 h6 h7:UInt32)(b:List UInt8):Gm [h0,h1,h2,h3,h4,h5,h6,h7] b=(List.range 8).map fun i=>[h0,h1,h2,h3,h4,h5,h6,h7].getD i 0+(PT (Pi b 64) 64 0 [h0,h1,h2,h3,h4,h5,h6,h7]).getD i 0:=by
 have hl:=rndsF_len (Pi b 64) 64 0 [h0,h1,h2,h3,h4,h5,h6,h7] rfl
 rw[Gm,<-show PT (Pi b 64) 64 0 [h0,h1,h2,h3,h4,h5,h6,h7]=Pj (Pi b 64) [h0,h1,h2,h3,h4,h5,h6,h7] 64 from rndsF_eq _ _ 64 0]
 revert hl
 generalize PT (Pi b 64) 64 0 [h0,h1,h2,h3,h4,h5,h6,h7]=l
 intro hl
 match l,hl with
 | [_,_,_,_,_,_,_,_],_=>rfl
def JC(ws:List UInt32):Nat->Nat->S5->S5
 | 0,_,s=>s
 | k+1,t,s=>JC ws k (t+1) (Pm t (ws.getD t 0) s)
theorem rnds1F_eq(ws:List UInt32)(s:S5):∀(k t:Nat),JC ws k t (Zl ws s t)=Zl ws s (t+k)
 | 0,t=>rfl
 | k+1,t=>by rw[show t+(k+1)=t+1+k from by omega,<-rnds1F_eq ws s k (t+1)];rfl
theorem rnd1_eq(t:Nat)(w a b c d e f q:UInt32)(hf:f=f1 t b c d)(hq:q=k1 t):Pm t w ⟨a,b,c,d,e⟩=⟨jF a 5+f+e+q+w,a,jF b 30,c,d⟩:=by subst hf hq;rfl
theorem comp1_c(h0 h1 h2 h3 h4:UInt32)(b:List UInt8):MH [h0,h1,h2,h3,h4] b=[h0+(JC (aT b 80) 80 0 ⟨h0,h1,h2,h3,h4⟩).a,h1+(JC (aT b 80) 80 0 ⟨h0,h1,h2,h3,h4⟩).b,h2+(JC (aT b 80) 80 0 ⟨h0,h1,h2,h3,h4⟩).c,h3+(JC (aT b 80) 80 0 ⟨h0,h1,h2,h3,h4⟩).d,h4+(JC (aT b 80) 80 0 ⟨h0,h1,h2,h3,h4⟩).e]:=by
 rw[show JC (aT b 80) 80 0 ⟨h0,h1,h2,h3,h4⟩=Zl (aT b 80) ⟨h0,h1,h2,h3,h4⟩ 80 from rnds1F_eq _ _ 80 0];rfl
theorem eta5{l:List UInt32}(h:l.length=5):[l.getD 0 0,l.getD 1 0,l.getD 2 0,l.getD 3 0,l.getD 4 0]=l:=by
 match l,h with
 | [_,_,_,_,_],_=>rfl
theorem eta8{l:List UInt32}(h:l.length=8):[l.getD 0 0,l.getD 1 0,l.getD 2 0,l.getD 3 0,l.getD 4 0,l.getD 5 0,l.getD 6 0,l.getD 7 0]=l:=by
 match l,h with
 | [_,_,_,_,_,_,_,_],_=>rfl
theorem cut64{p:List UInt8}(h:64<=p.length):List.take (Ar p-64).toNat (List.drop (Int.toNat 64) p)=p.drop 64:=by
 rw[QP];exact List.take_of_length_le (by rw[List.length_drop];omega)
theorem k256_len:MZ.length=64:=rfl
end Go.Ax
namespace Go.Proofs.YtanagnimhaemgaaGreatDoor
open Go Go.RowKit Go.Eng Go.ChangeShapes Go.WideShapes Go.ChangeAt Go.Ax
theorem MX{H:Type}{enc:TypeId×Value->H}{P:Program}(hl:laidOutB P=true){W W':World}(he:Ext W W'){sp:Nat->Bool}:
  ∀ {ts:List TypeId} {vs:List Value} {ds:List (DataW H)} {ps:List MemPlace},(ts.all fun t=>P.readableRec t&&decide (t<P.types.size))=true ->
  DataW.TrodAll enc P W 0 (fun _=>true) true ts vs ds ps->(∀ p∈ps,p.block<W.heap.size)->(∀ p∈ps,sp p.block=true)->DataW.TrodAll enc P W' 0 sp true ts vs ds ps
 | [],_,_,_,_,h,_,_=>by
  obtain⟨rfl,rfl,rfl⟩:=trodAll_nil h
  exact trodAll_mk0
 | t::ts,_,_,_,hr,h,hlt,hsp=>by
  obtain⟨v,vs1,d,ds1,a,b,rfl,rfl,rfl,h1,h2⟩:=trodAll_cons h
  simp only[List.all_cons,Bool.and_eq_true,decide_eq_true_eq] at hr
  exact⟨a,b,WideElems.Trod_stays hl hr.1.1 hr.1.2 h1 (fun x hx=>he.same (hlt x (by simp[hx]))) (fun x hx=>hsp x (by simp[hx])),
   MX hl he hr.2 h2 (fun x hx=>hlt x (by simp[hx])) (fun x hx=>hsp x (by simp[hx])),rfl⟩
theorem VS{H:Type}{enc:TypeId×Value->H}{P:Program}{f:Func}{s:ChangeSpec}{W W':World}{args:Array Value}{ds gs:List (DataW H)}{before:List MemPlace}{tb:TypeId}
  (hW:DataW.Whole enc P f.params.toList s.vars false W args.toList ds gs before) (hl:laidOutB P=true) (hr:(f.params.toList.all fun t=>P.readableRec t&&decide (t<P.types.size))=true)
  (hv:s.vars=[]) (hres:f.resultTypes = #[tb]) (htb:P.underlying tb=some .bool) (h1:(s.fn H ds).results=[.lit (.bool true)]) (h2:(s.fn H ds).args=ds) (h3:(s.fn H ds).vars=[]) (he:Ext W W') :
  s.post enc P f false true false false W args (.bool true) W':=by
 have hW':=hW
 have hlt:∀ p∈before,p.block<W.heap.size:=fun p hp=>hW'.lt p hp
 obtain⟨p,q,hA,hV,rfl,hfz,hnd⟩:=hW
 rw[hv] at hV
 obtain⟨rfl,rfl⟩:=trodVars_none hV
 refine⟨ds,[],_,[],p,[],hW',?_,?_,?_,?_,fun h=>by cases h⟩
 ·rw[hres,List.append_nil,h1]
  exact trodAll_cons_mk (shut_bool htb _) trodAll_mk0
 ·rw[List.append_nil,h2]
  exact MX hl he hr hA (fun x hx=>hlt x (by simpa using hx)) (fun x hx=>by simpa using hlt x (by simpa using hx))
 ·rw[List.append_nil,h3,hv];rfl
 ·exact he.frame _
theorem laidOut:laidOutB Tryz.prog=true:=zi
theorem own:ownKnob Tryz.prog.godebug=none:=zi
theorem VT{H:Type}{enc:TypeId×Value->H}{P:Program}{t:TypeId}{W:World}{base:Nat}{v:Value}{d:DataW H}{p:List MemPlace}(ht:P.underlying t=some (.int .u8))
  (hval:Value.okWide P W .any base t v) (h:DataW.Trod enc P W 0 (fun _=>true) true t v d p):∃ b,v=byteV b:=by
 obtain⟨n,rfl,_,_,hw⟩:=open_int ht hval h
 have:=bounds_u8 hw
 refine⟨UInt8.ofNat n.toNat,?_⟩
 simp only[byteV,UInt8.toNat_ofNat']
 congr 1
 omega
theorem VU{f:FuncId}{ins:List AV}(h:Y E0 (.call f ins [])=some (.ret (.b true) [])){w:World}{args:List Value}(hI:∀ w',Ext w w'->I0 w')(hr:AA ⟨fun k=>k<0,fun _=>undef,No,w⟩ ins args):Calls Tryz.prog f args.toArray w (UY fun v w'=>v=.bool true/\Ext w w'):=by
 refine UY.mono (Gj e0 h (fun _=>undef) No w args ⟨fun b hb=>hb.elim,fun w' hs=>hI w' hs.ext⟩ hr ⟨(fun k R h=>by cases h),(fun k k' R R' b h=>by cases h),fun k h=>absurd h (ET k)⟩) ?_
 rintro v w' ⟨ν',ok⟩
 have h1:=ok.rep
 simp only[Rep] at h1
 refine⟨h1,(ok.stp.mono fun i _ hh=>?_).ext⟩
 obtain⟨k,R,hk,_⟩:=hh
 cases hk
theorem NP{τ:Ty}{x:El τ}{v:Value}{w:World}{N:Nat->Prop}{ν:Nat->Value}{a:AV}(hf:flat τ x=[a])(hc:v.cells.toList=[v])(h:CR τ x v.cells.toList w):AA ⟨N,ν,No,w⟩ [a] [v]:=by
 rw[hc] at h
 have:=CR.reps (c:=⟨N,ν,No,w⟩) (fun w' hs=>h.ext (Stp.ext hs))
 rw[hf] at this;exact this
mutual
def TY{H:Type}:DataW H->List Value
 | .lit (.int k n)=>[.int k n]
 | .agg l=>Vk l
 | _=>[]
def Vk{H:Type}:List (DataW H)->List Value
 | []=>[]
 | d::r=>TY d++Vk r
end
theorem UU{H:Type}:∀(a b:List (DataW H)),Vk (a++b)=Vk a++Vk b
 | [],b=>rfl
 | x::a,b=>by rw[List.cons_append,Vk,Vk,UU a b,List.append_assoc]
section
variable {H:Type}{enc:TypeId×Value->H}{P:Program}{w:World}{base:Nat}{sp:Nat->Bool}{held:Bool}{fuel:Nat}{t e:TypeId}{n s:Nat}{cs:List Value}{d:DataW H}{p:List MemPlace}
theorem TZ{k:IntKind}(ht:P.underlying t=some (.int k))(h:DataW.trod enc P w base sp held fuel t cs=some (d,p)):cs=TY d:=by
 obtain⟨n,rfl,hx,_⟩:=DataW.trod_int ht h
 obtain⟨rfl,-⟩:=Prod.mk.inj hx
 rfl
theorem Xo(xs:List (DataW H×List MemPlace))(hs:cs.length=xs.length*s)(hel:∀ i b,xs[i]?=some b->(cs.drop (i*s)).take s=TY b.1):cs=Vk (xs.map (·.1)):=by
 have key:∀ i,i<=xs.length->cs.take (i*s)=Vk ((xs.map (·.1)).take i):=by
  intro i
  induction i with
  | zero=>intro _;simp[Vk]
  | succ i ih =>
   intro hi
   have hlt:i<xs.length:=zf
   have h1:=hel i xs[i] (List.getElem?_eq_getElem hlt)
   have h2:(xs.map (·.1)).take (i+1)=(xs.map (·.1)).take i++[(xs[i]).1]:=by
    rw[List.take_succ_eq_append_getElem (by simpa using hlt)];simp
   rw[h2,UU,<-ih zf,show Vk [(xs[i]).1]=TY (xs[i]).1 from by simp[Vk],<-h1,Nat.add_mul,Nat.one_mul,List.take_add]
 have:=key xs.length (Nat.le_refl _)
 rw[List.take_of_length_le zf,List.take_of_length_le zB] at this
 exact this
theorem Tc(ht:P.underlying t=some (.array n e))(hce:P.cellsOf e=s)(hct:P.cellsOf t=n*s)(hel:∀ fuel cs d p,DataW.trod enc P w base sp held fuel e cs=some (d,p)->cs=TY d)(h:DataW.trod enc P w base sp held fuel t cs=some (d,p)):cs=TY d:=by
 cases fuel with
 | zero=>simp[DataW.trod] at h
 | succ fuel =>
  simp only[DataW.trod,ht,hce,hct] at h
  split at h
  ·rename_i hl
   obtain⟨xs,hm,hx⟩:=Option.map_eq_some_iff.1 h
   obtain⟨rfl,-⟩:=Prod.mk.inj hx
   have hxl:xs.length=n:=by simpa using Lib.mapM_length hm
   rw[TY]
   refine Xo (s:=s) xs (by rw[hl,hxl]) fun i b hb=>?_
   have hi:i<n:=by rw[<-hxl];exact(List.getElem?_eq_some_iff.1 hb).1
   obtain⟨b',hb',hf⟩:=Lib.mapM_at hm i i (by simp[hi])
   obtain rfl:=Option.some.inj (hb.symm.trans hb')
   exact hel _ _ b.1 b.2 hf
  ·cases h
theorem gQ{fs:Array Field}(ht:P.underlying t=some (.struct fs))(hct:P.cellsOf t=fs.size)(hf:∀(i:Nat) (f:Field),fs[i]?=some f->f.offset=i/\P.cellsOf f.type=1/\P.underlying f.type=some (.int .i64))(h:DataW.trod enc P w base sp held fuel t cs=some (d,p)):cs=TY d:=by
 obtain⟨xs,m,rfl,hx,hl,hxl,hg⟩:=DataW.trod_struct ht h
 obtain⟨rfl,-⟩:=Prod.mk.inj hx
 rw[TY]
 refine Xo (s:=1) xs (by rw[hl,hct,hxl,Nat.mul_one]) fun i b hb=>?_
 have hi:i<fs.size:=by rw[<-hxl];exact(List.getElem?_eq_some_iff.1 hb).1
 obtain⟨q1,q2,q3⟩:=hf i fs[i] (Array.getElem?_eq_getElem hi)
 have h2:=hg i fs[i] (Array.getElem?_eq_getElem hi)
 rw[q1,q2,hb] at h2
 rw[Nat.mul_one]
 exact TZ (d:=b.1) (p:=b.2) q3 h2
end
theorem UV{P:Program}{W:World}:∀ {l:List (String×DataW Unit)} {ps:List MemPlace},DataW.LaidVars P W l ps->∀ x∈l,∃ g t cs fuel p,P.globalNamed x.1=some g/\(P.globals[g]?).map (·.type)=some t/\W.var? P x.1=some cs/\DataW.trod (fun _=>()) P W 0 (fun _=>true) false fuel t cs.toList=some (x.2,p)
 | [],_,_,x,hx=>by cases hx
 | (n,d)::r,ps,h,x,hx=>by
  obtain⟨g,t,cs,fuel,p,q,h1,h2,h3,h4,h5,-⟩:=h
  rcases List.mem_cons.1 hx with rfl|hx
  ·exact⟨g,t,cs,fuel,p,h1,h2,h3,h4⟩
  ·exact UV h5 x hx
theorem Lu{P:Program}{W:World}{l:List (String×DataW Unit)}(h:laidMet P l W){x:String×DataW Unit}(hx:x∈l){g:Nat}{t:TypeId}(hg:P.globalNamed x.1=some g)(hty:(P.globals[g]?).map (·.type)=some t)
  (hel:∀ fuel cs p,DataW.trod (fun _=>()) P W 0 (fun _=>true) false fuel t cs=some (x.2,p)->cs=TY x.2) (j:Nat):W.cell? ⟨g,j,none⟩=(TY x.2)[j]?:=by
 obtain⟨ps,hl,-⟩:=h
 obtain⟨g',t',cs,fuel,p,h1,h2,h3,h4⟩:=UV hl x hx
 obtain rfl:=Option.some.inj (hg.symm.trans h1)
 obtain rfl:=Option.some.inj (hty.symm.trans h2)
 rw[World.var?_cell hg h3 j,<-hel _ _ _ h4,Array.getElem?_toList]
abbrev Xp:List (String×DataW Unit):=Rows.topReplayRow.laid
theorem kt{W:World}(h:laidMetH Tryz.prog Xp W):KT W:=by
 have h':laidMet Tryz.prog Xp W:=h
 have q0:=fun j=>Lu h' (x:=("sealwright/digest.round256", Rows.laid_sealwright_digest_round256)) (by exact List.mem_cons_self ..) (g:=2) (t:=129) zi zi
  (fun fuel cs p hh=>Tc (s:=1) Tryz.underlying129 zi zi (fun fuel cs d p=>TZ Tryz.underlying128) hh) j
 have q1:=fun j=>Lu h' (x:=("sealwright/command.magic", Rows.laid_sealwright_command_magic)) (by exact List.mem_cons_of_mem _ (List.mem_cons_self ..)) (g:=0) (t:=244) zi zi
  (fun fuel cs p hh=>Tc (s:=1) Tryz.underlying244 zi zi (fun fuel cs d p=>TZ Tryz.underlying5) hh) j
 have q2:=fun j=>Lu h' (x:=("sealwright/command.forms", Rows.laid_sealwright_command_forms)) (by exact List.mem_cons_of_mem _ (List.mem_cons_of_mem _ (List.mem_cons_self ..))) (g:=1) (t:=247) zi zi
  (fun fuel cs p hh=>Tc (s:=5) Tryz.underlying247 zi zi (fun fuel cs d p=>gQ Tryz.underlying246 zi (fun i f hf=>by
   rcases i with _|_|_|_|_|i
   all_goals first|(obtain rfl:=Option.some.inj hf;exact⟨rfl,by kernel_rfl,Tryz.underlying3⟩)|exact absurd (Array.getElem?_eq_some_iff.1 hf).1 zB)) hh) j
 have e0:(TY (Rows.laid_sealwright_digest_round256:DataW Unit))=MZ.map wordV:=zi
 have e1:(TY (Rows.laid_sealwright_command_magic:DataW Unit))=magicV:=zi
 have e2:(TY (Rows.laid_sealwright_command_forms:DataW Unit))=formsV:=zi
 refine⟨fun j hj=>?_,fun j u hu=>?_,fun j u hu=>?_⟩
 ·rw[Nat.zero_add,q0 j,e0,List.getElem?_map,List.getD_eq_getElem?_getD,List.getElem?_eq_getElem (show j<MZ.length from hj)];rfl
 ·rw[q2 j,e2];exact hu
 ·rw[q1 j,e1];exact hu
def Xq(d:DataW Unit):Obj->Obj
 | .cells _ t frozen=>.cells (TY d).toArray t frozen
 | o=>o
noncomputable def laidWorld(os:Os):World :=
 {World.holding Tryz.prog os ⟨#[],#[],[]⟩ with heap:=((((((World.holding Tryz.prog os ⟨#[],#[],[]⟩).heap.modify 2 (Xq Rows.laid_sealwright_digest_round256)).modify 0 (Xq Rows.laid_sealwright_command_magic)).modify 1 (Xq Rows.laid_sealwright_command_forms)).modify 5 (Xq Rows.laid_unicode_utf8_acceptRanges)).modify 4 (Xq Rows.laid_unicode_utf8_first))}
theorem hI0{w:World}(h:laidMetH Tryz.prog Xp w):∀ w',Ext w w'->I0 w':=fun w' he=>(kt h).ext he
end Go.Proofs.YtanagnimhaemgaaGreatDoor
namespace Go.Proofs.YtanagnimhaemgaaGreatDoor
open Go Go.Ax Go.Eng
variable (ws:List UInt32)
section
attribute [local irreducible] BL BM BN BO BP BJ BQ CX Cm CY CW Ba Bc BF BC and' BG Bd Aa Ac Ad Ae Af AL AO AP AQ BR D8 BU D5 Be Bf Ag Ah Ai Aj AB AZ AU Ar BA BV BH BB Au Aw BI Bg BX fits BZ BK A7 A8 AC
attribute [local irreducible] OV MZ PT
theorem ev_r256(ws:List UInt32)(hw:ws.length=64)(h0 h1 h2 h3 h4 h5 h6 h7:UInt32):∀(k t:Nat) (a0 a1 a2 a3 a4 a5 a6 a7:UInt32),t+k=64->Y E0 (.loop 215 1 1 3 [(0,AV.pa 0 0),(4,AV.pa 1 0),(10,AV.pa 2 0),(70,AV.i t)] [(0,some (.var [.u32 h0,.u32 h1,.u32 h2,.u32 h3,.u32 h4,.u32 h5,.u32 h6,.u32 h7])),(1,some (Rs.var (OV ws))),(2,some (.var [.u32 a0,.u32 a1,.u32 a2,.u32 a3,.u32 a4,.u32 a5,.u32 a6,.u32 a7]))])=some (.fin (.exit 2) 2 [(0,AV.pa 0 0),(10,AV.pa 1 0)] [(0,some (.var [.u32 h0,.u32 h1,.u32 h2,.u32 h3,.u32 h4,.u32 h5,.u32 h6,.u32 h7])),(1,some (Rs.var (OV (PT ws k t [a0,a1,a2,a3,a4,a5,a6,a7]))))])
 | 0,t,a0,a1,a2,a3,a4,a5,a6,a7,hk=>by
  rw[JB];conv=>lhs;whnf
  refine tqA ?_
  unfold PT OV;rfl
 | k+1,t,a0,a1,a2,a3,a4,a5,a6,a7,hk=>by
  have ih:=fun s0 s1 s2 s3 s4 s5 s6 s7=>ev_r256 ws hw h0 h1 h2 h3 h4 h5 h6 h7 k (t+1) s0 s1 s2 s3 s4 s5 s6 s7 zf
  rw[JB];conv=>lhs;whnf
  refine tqA ?_
  rw[ev_ror6 _]
  refine tqA ?_
  rw[ev_ror11 _]
  refine tqA ?_
  rw[ev_ror25 _]
  conv=>lhs;whnf
  try dsimp -iota -beta -eta -zeta only
  rw[fK zf]
  conv=>lhs;whnf
  rw[fH zf]
  conv=>lhs;whnf
  try dsimp -iota -beta -eta -zeta only
  rw[fK zf]
  conv=>lhs;whnf
  rw[fH zf]
  conv=>lhs;whnf
  rw[k256_get zf]
  refine tqA ?_
  rw[w32l_drop zf]
  refine tqA ?_
  rw[ev_ror2 _]
  refine tqA ?_
  rw[ev_ror13 _]
  refine tqA ?_
  rw[ev_ror22 _]
  refine tqA ?_
  ((conv in(close _ _ _ _)=>skip);rw[w32l_n hw])
  refine tqA ?_
  rw[show((t:Int)+1)=((t+1:Nat):Int) from by omega];refine((congrArg (Y E0) (by rw[w32l_n hw];rfl)).trans (ih _ _ _ _ _ _ _ _)).trans ?_;simp only[u32add_eq,u32xor_eq,u32and_eq,show 0+(t:Int).toNat*1=t from by omega];rw[show PT ws (k+1) t [a0,a1,a2,a3,a4,a5,a6,a7]=PT ws k (t+1) (Vs (MZ.getD t 0) (ws.getD t 0) [a0,a1,a2,a3,a4,a5,a6,a7]) from by rw[PT]];rfl
end
section
attribute [local irreducible] BL BM BN BO BP BJ BQ CX Cm CY CW Ba Bc BF BC and' BG Bd Aa Ac Ad Ae Af AL AO AP AQ BR D8 BU D5 Be Bf Ag Ah Ai Aj AB AZ AU Ar BA BV BH BB Au Aw BI Bg BX fits BZ BK A7 A8 AC
attribute [local irreducible] OV MZ PT
theorem ev_r256z(hw:ws.length=64)(h0 h1 h2 h3 h4 h5 h6 h7 a0 a1 a2 a3 a4 a5 a6 a7:UInt32):Y E0 (.loop 215 1 1 3 [(0,AV.pa 0 0),(4,AV.pa 1 0),(10,AV.pa 2 0),(70,AV.i 0)] [(0,some (.var [.u32 h0,.u32 h1,.u32 h2,.u32 h3,.u32 h4,.u32 h5,.u32 h6,.u32 h7])),(1,some (Rs.var ((List.range 64).map fun i=>AV.u32 (ws.getD i 0)))),(2,some (.var [.u32 a0,.u32 a1,.u32 a2,.u32 a3,.u32 a4,.u32 a5,.u32 a6,.u32 a7]))])=some (.fin (.exit 2) 2 [(0,AV.pa 0 0),(10,AV.pa 1 0)] [(0,some (.var [.u32 h0,.u32 h1,.u32 h2,.u32 h3,.u32 h4,.u32 h5,.u32 h6,.u32 h7])),(1,some (Rs.var (OV (PT ws 64 0 [a0,a1,a2,a3,a4,a5,a6,a7]))))]):=by
 have e:=ev_r256 ws hw h0 h1 h2 h3 h4 h5 h6 h7 64 0 a0 a1 a2 a3 a4 a5 a6 a7 rfl
 rw[w32l_n hw] at e
 exact e
theorem ev_a256(h0 h1 h2 h3 h4 h5 h6 h7 s0 s1 s2 s3 s4 s5 s6 s7:UInt32):Y E0 (.loop 215 2 1 2 [(0,.pa 0 0),(10,.pa 1 0),(152,.i 0)] [(0,some (.var [.u32 h0,.u32 h1,.u32 h2,.u32 h3,.u32 h4,.u32 h5,.u32 h6,.u32 h7])),(1,some (.var [.u32 s0,.u32 s1,.u32 s2,.u32 s3,.u32 s4,.u32 s5,.u32 s6,.u32 s7]))])=some (.fin (.exit 4) 1 [] [(0,some (.var [.u32 (h0+s0),.u32 (h1+s1),.u32 (h2+s2),.u32 (h3+s3),.u32 (h4+s4),.u32 (h5+s5),.u32 (h6+s6),.u32 (h7+s7)]))]):=by
 refine tqA ?_
 refine tqA ?_
 refine tqA ?_
 refine tqA ?_
 refine tqA ?_
 refine tqA ?_
 refine tqA ?_
 refine tqA ?_
 refine tqA ?_
 simp only[u32add_eq]
theorem ev_c256(b:List UInt8)(h0 h1 h2 h3 h4 h5 h6 h7:UInt32)(hb:b.length=64):Y E0 (.call 215 [.pa 0 0,.sl .u8 b] [.var [.u32 h0,.u32 h1,.u32 h2,.u32 h3,.u32 h4,.u32 h5,.u32 h6,.u32 h7]])=some (.ret (.tup []) [some (.var ((List.range 8).map fun i=>.u32 ((Gm [h0,h1,h2,h3,h4,h5,h6,h7] b).getD i 0)))]):=by
 rw[comp256_c]
 refine tqA ?_
 rw[ev_w256z (hb:=sdcA) ..]
 refine tqA ?_
 ((conv in(close _ _ _ _)=>skip);rw[w32l_n (sch256_len b 64)])
 refine tqA ?_
 (erw[ev_r256z (Pi b 64) (sch256_len b 64)])
 refine tqA ?_
 ((conv in(close _ _ _ _)=>skip);rw[w32l_n (rndsF_len (Pi b 64) 64 0 [h0,h1,h2,h3,h4,h5,h6,h7] rfl)])
 refine tqA ?_
 rw[ev_a256 ..]
 refine tqA ?_
 rfl
end
section
attribute [local irreducible] BL BM BN BO BP BJ BQ CX Cm CY CW Ba Bc BF BC and' BG Bd Aa Ac Ad Ae Af AL AO AP AQ BR D8 BU D5 Be Bf Ag Ah Ai Aj AB AZ AU Ar BA BV BH BB Au Aw BI Bg BX fits BZ BK A7 A8 AC
attribute [local irreducible] OV JC Pm
theorem ev_m1(hw:ws.length=80)(h0 h1 h2 h3 h4:UInt32){G:S5->Option Rsp}(t:Nat)(a b c d e f q:UInt32)(ht:t<80)(hr:∀ s:S5,Y E0 (.loop 213 1 1 2 [(0,.pa 0 0),(4,.pa 1 0),(6,.u32 s.a),(7,.u32 s.b),(8,.u32 s.c),(9,.u32 s.d),(10,.u32 s.e),(67,.i (t+1:Nat))] [(0,some (.var [.u32 h0,.u32 h1,.u32 h2,.u32 h3,.u32 h4])),(1,some (.var (OV ws)))])=G s)(hf:f=f1 t b c d)(hq:q=k1 t):Y E0 (.drw ⟨165,213,1⟩ [true,true,true,false,true,false,false,true,true,false,false,true,true,true] 0 [] [.blk 3,.seq [true,true,true,false,true,false,false,true,true,true] 2,.lup 1] 2 [(0,.pa 0 0),(4,.pa 1 0),(6,.u32 a),(7,.u32 b),(8,.u32 c),(9,.u32 d),(10,.u32 e),(11,.i t),(12,.u32 f),(13,.u32 q),(67,.i t)] [(0,some (.var [.u32 h0,.u32 h1,.u32 h2,.u32 h3,.u32 h4])),(1,some (.var (OV ws)))])=G (Pm t (ws.getD t 0) ⟨a,b,c,d,e⟩):=by
 rw[rnd1_eq t _ a b c d e f q hf hq]
 rw[JB];conv=>lhs;whnf
 refine tqA ?_
 rw[ev_rol5 _]
 refine tqA ?_
 rw[w32l_drop zf]
 refine tqA ?_
 rw[ev_rol30 _]
 refine tqA ?_
 ((conv in(close _ _ _ _)=>skip);rw[w32l_n hw])
 refine tqA ?_
 rw[show((t:Int)+1)=((t+1:Nat):Int) from by omega];simp only[u32add_eq,show 0+(t:Int).toNat*1=t from by omega];exact(congrArg (Y E0) (by rw[w32l_n hw];rfl)).trans (hr ⟨_,_,_,_,_⟩)
theorem ev_r1(ws:List UInt32)(hw:ws.length=80)(h0 h1 h2 h3 h4:UInt32):∀(k t:Nat) (s:S5),t+k=80->Y E0 (.loop 213 1 1 2 [(0,.pa 0 0),(4,.pa 1 0),(6,.u32 s.a),(7,.u32 s.b),(8,.u32 s.c),(9,.u32 s.d),(10,.u32 s.e),(67,.i t)] [(0,some (.var [.u32 h0,.u32 h1,.u32 h2,.u32 h3,.u32 h4])),(1,some (.var (OV ws)))])=some (.fin (.exit 2) 1 [(0,.pa 0 0),(6,.u32 (JC ws k t s).a),(7,.u32 (JC ws k t s).b),(8,.u32 (JC ws k t s).c),(9,.u32 (JC ws k t s).d),(10,.u32 (JC ws k t s).e)] [(0,some (.var [.u32 h0,.u32 h1,.u32 h2,.u32 h3,.u32 h4]))])
 | 0,t,s,hk=>by
  rw[JB];conv=>lhs;whnf
  refine tqA ?_
  unfold JC;rfl
 | k+1,t,⟨a,b,c,d,e⟩,hk=>by
  have ih:=fun f q=>ev_m1 ws hw h0 h1 h2 h3 h4 t a b c d e f q zf (fun s=>ev_r1 ws hw h0 h1 h2 h3 h4 k (t+1) s zf)
  rw[show JC ws (k+1) t ⟨a,b,c,d,e⟩=JC ws k (t+1) (Pm t (ws.getD t 0) ⟨a,b,c,d,e⟩) from by rw[JC]]
  rw[JB];conv=>lhs;whnf
  refine tqA ?_
  rcases ieq_c (↑t/20) 0 with hc0|hc0
  ·
   refine tqA ?_
   ((conv in(close _ _ _ _)=>skip);rw[w32l_n hw])
   conv=>lhs;whnf
   exact(congrArg (Y E0) (by rw[w32l_n hw];rfl)).trans (ih _ _ (by simp only[u32xor_eq,u32and_eq];simp only[f1];first|rw[if_pos zf]|rw[if_neg zf,if_pos zf]|rw[if_neg zf,if_neg zf,if_pos zf]|rw[if_neg zf,if_neg zf,if_neg zf]) (by simp only[k1];first|(rw[if_pos zf];rfl)|(rw[if_neg zf,if_pos zf];rfl)|(rw[if_neg zf,if_neg zf,if_pos zf];rfl)|(rw[if_neg zf,if_neg zf,if_neg zf];rfl)))
  refine tqA ?_
  rcases ieq_c (↑t/20) 1 with hc1|hc1
  ·
   refine tqA ?_
   ((conv in(close _ _ _ _)=>skip);rw[w32l_n hw])
   conv=>lhs;whnf
   exact(congrArg (Y E0) (by rw[w32l_n hw];rfl)).trans (ih _ _ (by simp only[u32xor_eq,u32and_eq];simp only[f1];first|rw[if_pos zf]|rw[if_neg zf,if_pos zf]|rw[if_neg zf,if_neg zf,if_pos zf]|rw[if_neg zf,if_neg zf,if_neg zf]) (by simp only[k1];first|(rw[if_pos zf];rfl)|(rw[if_neg zf,if_pos zf];rfl)|(rw[if_neg zf,if_neg zf,if_pos zf];rfl)|(rw[if_neg zf,if_neg zf,if_neg zf];rfl)))
  refine tqA ?_
  rcases ieq_c (↑t/20) 2 with hc2|hc2
  ·
   refine tqA ?_
   ((conv in(close _ _ _ _)=>skip);rw[w32l_n hw])
   conv=>lhs;whnf
   exact(congrArg (Y E0) (by rw[w32l_n hw];rfl)).trans (ih _ _ (by simp only[u32xor_eq,u32and_eq];simp only[f1];first|rw[if_pos zf]|rw[if_neg zf,if_pos zf]|rw[if_neg zf,if_neg zf,if_pos zf]|rw[if_neg zf,if_neg zf,if_neg zf]) (by simp only[k1];first|(rw[if_pos zf];rfl)|(rw[if_neg zf,if_pos zf];rfl)|(rw[if_neg zf,if_neg zf,if_pos zf];rfl)|(rw[if_neg zf,if_neg zf,if_neg zf];rfl)))
  refine tqA ?_
  ((conv in(close _ _ _ _)=>skip);rw[w32l_n hw])
  conv=>lhs;whnf
  exact(congrArg (Y E0) (by rw[w32l_n hw];rfl)).trans (ih _ _ (by simp only[u32xor_eq,u32and_eq];simp only[f1];first|rw[if_pos zf]|rw[if_neg zf,if_pos zf]|rw[if_neg zf,if_neg zf,if_pos zf]|rw[if_neg zf,if_neg zf,if_neg zf]) (by simp only[k1];first|(rw[if_pos zf];rfl)|(rw[if_neg zf,if_pos zf];rfl)|(rw[if_neg zf,if_neg zf,if_pos zf];rfl)|(rw[if_neg zf,if_neg zf,if_neg zf];rfl)))
end
section
attribute [local irreducible] BL BM BN BO BP BJ BQ CX Cm CY CW Ba Bc BF BC and' BG Bd Aa Ac Ad Ae Af AL AO AP AQ BR D8 BU D5 Be Bf Ag Ah Ai Aj AB AZ AU Ar BA BV BH BB Au Aw BI Bg BX fits BZ BK A7 A8 AC
attribute [local irreducible] OV JC Pm
theorem ev_r1z(hw:ws.length=80)(h0 h1 h2 h3 h4:UInt32):Y E0 (.loop 213 1 1 2 [(0,.pa 0 0),(4,.pa 1 0),(6,.u32 h0),(7,.u32 h1),(8,.u32 h2),(9,.u32 h3),(10,.u32 h4),(67,.i 0)] [(0,some (.var [.u32 h0,.u32 h1,.u32 h2,.u32 h3,.u32 h4])),(1,some (.var ((List.range 80).map fun i=>.u32 (ws.getD i 0))))])=some (.fin (.exit 2) 1 [(0,.pa 0 0),(6,.u32 (JC ws 80 0 ⟨h0,h1,h2,h3,h4⟩).a),(7,.u32 (JC ws 80 0 ⟨h0,h1,h2,h3,h4⟩).b),(8,.u32 (JC ws 80 0 ⟨h0,h1,h2,h3,h4⟩).c),(9,.u32 (JC ws 80 0 ⟨h0,h1,h2,h3,h4⟩).d),(10,.u32 (JC ws 80 0 ⟨h0,h1,h2,h3,h4⟩).e)] [(0,some (.var [.u32 h0,.u32 h1,.u32 h2,.u32 h3,.u32 h4]))]):=by
 have e:=ev_r1 ws hw h0 h1 h2 h3 h4 80 0 ⟨h0,h1,h2,h3,h4⟩ rfl
 rw[w32l_n hw] at e
 exact e
theorem ev_c1(b:List UInt8)(h0 h1 h2 h3 h4:UInt32)(hb:b.length=64):Y E0 (.call 213 [.pa 0 0,.sl .u8 b] [.var [.u32 h0,.u32 h1,.u32 h2,.u32 h3,.u32 h4]])=some (.ret (.tup []) [some (.var ((List.range 5).map fun i=>.u32 ((MH [h0,h1,h2,h3,h4] b).getD i 0)))]):=by
 rw[comp1_c]
 refine tqA ?_
 (erw[ev_w1z b _ _ _ _ _ hb])
 refine tqA ?_
 ((conv in(close _ _ _ _)=>skip);rw[w32l_n (sch1_len b 80)])
 refine tqA ?_
 (erw[ev_r1z (aT b 80) (sch1_len b 80)])
 refine tqA ?_
 simp only[u32add_eq];rfl
end
section
attribute [local irreducible] BL BM BN BO BP BJ BQ CX Cm CY CW Ba Bc BF BC and' BG Bd Aa Ac Ad Ae Af AL AO AP AQ BR D8 BU D5 Be Bf Ag Ah Ai Aj AB AZ AU Ar BA BV BH BB Au Aw BI Bg BX fits BZ BK A7 A8 AC
attribute [local irreducible] MH Gm Hr
theorem ev_sum_l0:∀(n:Nat) (p:List UInt8) (h0 h1 h2 h3 h4:UInt32),p.length=64*n->p.length<=8589934592->Y E0 (.loop 176 0 0 1 [(5,.pa 0 0),(6,.sl .u8 p)] [(0,some (.var [.u32 h0,.u32 h1,.u32 h2,.u32 h3,.u32 h4]))])=some (.fin (.exit 1) 1 [(5,.pa 0 0)] [(0,some (.var ((List.range 5).map fun i=>.u32 ((Hr MH n [h0,h1,h2,h3,h4] p).getD i 0))))])
 | 0,p,h0,h1,h2,h3,h4,hp,hq=>by
  rw[JB];conv=>lhs;whnf
  refine tqA ?_
  unfold Hr;rfl
 | n+1,p,h0,h1,h2,h3,h4,hp,hq=>by
  have ih:=ev_sum_l0 n (p.drop 64) ((MH [h0,h1,h2,h3,h4] (p.take 64)).getD 0 0) ((MH [h0,h1,h2,h3,h4] (p.take 64)).getD 1 0) ((MH [h0,h1,h2,h3,h4] (p.take 64)).getD 2 0) ((MH [h0,h1,h2,h3,h4] (p.take 64)).getD 3 0) ((MH [h0,h1,h2,h3,h4] (p.take 64)).getD 4 0) (by rw[List.length_drop];omega) (by rw[List.length_drop];omega)
  rw[eta5 (Uh _ _)] at ih
  rw[JB];conv=>lhs;whnf
  refine tqA ?_
  rw[ev_c1 (hb:=sdcA) ..]
  refine tqA ?_
  rw[cut64 zf];exact ih.trans (by rw[Hr])
theorem ev_sum_l1:∀(n:Nat) (p:List UInt8) (h0 h1 h2 h3 h4 h5 h6 h7:UInt32),p.length=64*n->p.length<=8589934592->Y E0 (.loop 176 1 0 1 [(7,.pa 0 0),(8,.sl .u8 p)] [(0,some (.var [.u32 h0,.u32 h1,.u32 h2,.u32 h3,.u32 h4,.u32 h5,.u32 h6,.u32 h7]))])=some (.fin (.exit 3) 1 [(7,.pa 0 0)] [(0,some (.var ((List.range 8).map fun i=>.u32 ((Hr Gm n [h0,h1,h2,h3,h4,h5,h6,h7] p).getD i 0))))])
 | 0,p,h0,h1,h2,h3,h4,h5,h6,h7,hp,hq=>by
  rw[JB];conv=>lhs;whnf
  refine tqA ?_
  unfold Hr;rfl
 | n+1,p,h0,h1,h2,h3,h4,h5,h6,h7,hp,hq=>by
  have ih:=ev_sum_l1 n (p.drop 64) ((Gm [h0,h1,h2,h3,h4,h5,h6,h7] (p.take 64)).getD 0 0) ((Gm [h0,h1,h2,h3,h4,h5,h6,h7] (p.take 64)).getD 1 0) ((Gm [h0,h1,h2,h3,h4,h5,h6,h7] (p.take 64)).getD 2 0) ((Gm [h0,h1,h2,h3,h4,h5,h6,h7] (p.take 64)).getD 3 0) ((Gm [h0,h1,h2,h3,h4,h5,h6,h7] (p.take 64)).getD 4 0) ((Gm [h0,h1,h2,h3,h4,h5,h6,h7] (p.take 64)).getD 5 0) ((Gm [h0,h1,h2,h3,h4,h5,h6,h7] (p.take 64)).getD 6 0) ((Gm [h0,h1,h2,h3,h4,h5,h6,h7] (p.take 64)).getD 7 0) (by rw[List.length_drop];omega) (by rw[List.length_drop];omega)
  rw[eta8 (Qe _ _ rfl)] at ih
  rw[JB];conv=>lhs;whnf
  refine tqA ?_
  rw[ev_c256 (hb:=sdcA) ..]
  refine tqA ?_
  rw[cut64 zf];exact ih.trans (by rw[Hr])
theorem e_dig_sum(alg:Int)(l:List UInt8)(hl:l.length<=4294967296):Y E0 (.call 176 [.i alg,.sl .u8 l] [])=some (.ret (.sl .u8 (sumB alg l)) []):=by
 have hp:=padB_len l
 have e0:=ev_sum_l0 ((YV l).length/64) (YV l) 1732584193 4023233417 2562383102 271733878 3285377520 zf zf
 have e1:=ev_sum_l1 ((YV l).length/64) (YV l) 1779033703 3144134277 1013904242 2773480762 1359893119 2600822924 528734635 1541459225 zf zf
 refine tqA ?_
 rcases ieq_c alg 0 with hc0|hc0
 ·
  subst hc0
  refine tqA ?_
  rw[ev_pad _ sdcA]
  refine tqA ?_
  (erw[e0])
  refine tqA ?_
  rw[ev_spread _ sdcA sdcA]
  refine tqA ?_
  rw[eta5 (NW (m:=5) (fun h b _=>Uh h b) _ _ _ rfl)];rfl
 refine tqA ?_
 rcases ieq_c alg 1 with hc1|hc1
 ·
  subst hc1
  refine tqA ?_
  rw[ev_pad _ sdcA]
  refine tqA ?_
  (erw[e1])
  refine tqA ?_
  rw[ev_spread _ sdcA sdcA]
  refine tqA ?_
  rw[eta8 (NW (m:=8) Qe _ _ _ rfl)];rfl
 refine tqA ?_
 rw[sumB,if_neg hc0,if_neg hc1]
end
section
attribute [local irreducible] BL BM BN BO BP BJ BQ CX Cm CY CW Ba Bc BF BC and' BG Bd Aa Ac Ad Ae Af AL AO AP AQ BR D8 BU D5 Be Bf Ag Ah Ai Aj AB AZ AU Ar BA BV BH BB Au Aw BI Bg BX fits BZ BK A7 A8 AC
attribute [local irreducible] MH Gm Hr OV MZ PT JC Pm
theorem ev_rw(h:List UInt32)(p b:List UInt8)(a:Nat)(ha:a+64<=p.length)(hp:p.length<=8589934592)(hb:b=List.take ((a:Int)+64-a).toNat (List.drop (a:Int).toNat p)):∀(k t:Nat) (ws:List UInt32),t+k=64->ws.length=64->ws.take t=Pi b t->Y E0 (.loop 29 1 0 3 [(3,.pa 0 0),(4,.nm 1),(5,.sl .u8 p),(6,.i a),(7,.pa 2 0),(8,.i t)] [(0,some (.var (OV MZ))),(1,some (.row 128 .u32 h)),(2,some (.var (OV ws)))])=some (.fin (.exit 2) 3 [(3,.pa 0 0),(4,.nm 1),(5,.sl .u8 p),(6,.i a),(7,.pa 2 0)] [(0,some (.var (OV MZ))),(1,some (.row 128 .u32 h)),(2,some (.var (OV (Pi b 64))))])
 | 0,t,ws,hk,hw,hs=>by
  have e:ws=Pi b 64:=by rw[<-show t=64 from by omega,<-hs,List.take_of_length_le zf]
  rw[<-e]
  rw[JB];conv=>lhs;whnf
  refine tqA ?_
  ((conv in(close _ _ _ _)=>skip);conv=>lhs;rw[w32l_n k256_len,w32l_n hw])
  refine tqA ?_
  rw[w32l_n hw,w32l_n k256_len];rfl
 | k+1,t,ws,hk,hw,hs=>by
  have ih:=fun x (hx:x=YW b (Pi b t) t)=>ev_rw h p b a ha hp hb k (t+1) (ws.set t x) zf (by simpa using hw) (by rw[take_put hs zf,hx];rfl)
  rw[JB];conv=>lhs;whnf
  refine tqA ?_
  rcases ilt_c (↑t) 16 with hc0|hc0
  ·
   refine tqA ?_
   rw[ev_rword _ _ sdcA sdcA]
   conv=>lhs;whnf
   try dsimp -iota -beta -eta -zeta only
   rw[fK zf]
   conv=>lhs;whnf
   rw[fH zf]
   conv=>lhs;whnf
   try dsimp -iota -beta -eta -zeta only
   rw[w32l_ble1 zf];conv=>lhs;whnf
   rw[w32l_put zf]
   refine tqA ?_
   ((conv in(close _ _ _ _)=>skip);conv=>lhs;rw[w32l_n k256_len,w32l_s hw])
   refine tqA ?_
   rw[show((t:Int)+1)=((t+1:Nat):Int) from by omega,show 0+((t:Nat):Int).toNat*1=t from by omega,<-hb];refine(congrArg (Y E0) ?_).trans (ih (be32 b (4*t)) (by rw[YW,if_pos zf]));rw[w32l_s hw,w32l_n k256_len];rfl
  refine tqA ?_
  rw[w32l_drop zf]
  refine tqA ?_
  rw[ev_rr7 _]
  refine tqA ?_
  rw[w32l_drop zf]
  refine tqA ?_
  rw[ev_rr18 _]
  refine tqA ?_
  rw[w32l_drop zf]
  refine tqA ?_
  rw[w32l_drop zf]
  refine tqA ?_
  rw[ev_rr17 _]
  refine tqA ?_
  rw[w32l_drop zf]
  refine tqA ?_
  rw[ev_rr19 _]
  refine tqA ?_
  rw[w32l_drop zf]
  refine tqA ?_
  rw[w32l_drop zf]
  refine tqA ?_
  rw[w32l_drop zf]
  conv=>lhs;whnf
  try dsimp -iota -beta -eta -zeta only
  rw[fK zf]
  conv=>lhs;whnf
  rw[fH zf]
  conv=>lhs;whnf
  try dsimp -iota -beta -eta -zeta only
  rw[w32l_ble1 zf];conv=>lhs;whnf
  rw[w32l_put zf]
  refine tqA ?_
  ((conv in(close _ _ _ _)=>skip);conv=>lhs;rw[w32l_n k256_len,w32l_s hw])
  refine tqA ?_
  rw[show((t:Int)+1)=((t+1:Nat):Int) from by omega,show 0+((t:Nat):Int).toNat*1=t from by omega];refine(congrArg (Y E0) ?_).trans (ih _ (nx256 b ws t hs zf));rw[w32l_s hw,w32l_n k256_len];rfl
end
end Go.Proofs.YtanagnimhaemgaaGreatDoor
