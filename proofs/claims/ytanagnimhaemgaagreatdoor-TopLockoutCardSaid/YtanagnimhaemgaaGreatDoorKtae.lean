/-
  Own texts, laid together for this claim: contracts of functions of the program and its references, used by the statements of this seat.
-/
import Derived.Test.YtanagnimhaemgaaGreatDoorRows
import Derived.Test.YtanagnimhaemgaaGreatDoorCards
import Derived.Test.YtanagnimhaemgaaGreatDoorTie
import Derived.WalkKit
import Derived.ProofKit
import Derived.OpenShut
import Derived.Carry
import Derived.ChangeSlices
import Derived.Deep.DeepHandedRow
import Derived.Lib.LaidTab
import Derived.ChangeArms
import Derived.Test.YtanagnimhaemgaaGreatDoorKtaa
import Derived.Test.YtanagnimhaemgaaGreatDoorKtab
import Derived.Test.YtanagnimhaemgaaGreatDoorKtac
import Derived.Test.YtanagnimhaemgaaGreatDoorKtad
set_option linter.all false
set_option maxHeartbeats 40000000
set_option maxRecDepth 100000
namespace Go.Ax
open Go Go.Eng
variable (a0 a1 a2 a3 a4 a5 a6 a7:UInt32)
def Gz(ws:List UInt32):Nat->Nat->List UInt32->List UInt32
 | 0,_,s=>s
 | k+1,t,s=>Gz ws k (t+1) (Yy (J8.getD t 0) (ws.getD t 0) s)
theorem WS(ws s:List UInt32):∀(k t:Nat),Gz ws k t (Nk ws s t)=Nk ws s (t+k)
 | 0,t=>rfl
 | k+1,t=>by rw[show t+(k+1)=t+1+k from by omega,<-WS ws s k (t+1)];rfl
theorem zq{t:Nat}(h:t<64):Ah J8 (t:Int)=some (J8.getD t 0):=by
 rw[DZ ⟨by omega,by show(t:Int)<64;omega⟩];simp[List.getD,show t<J8.length from h]
theorem Pi(ws:List UInt32):∀(k t:Nat) (s:List UInt32),s.length=8->(Gz ws k t s).length=8
 | 0,_,_,h=>h
 | k+1,t,s,_=>Pi ws k (t+1) _ rfl
theorem uH(h0 h1 h2 h3 h4 h5 h6 h7:UInt32)(b:List UInt8):EK [h0,h1,h2,h3,h4,h5,h6,h7] b=(List.range 8).map fun i=>[h0,h1,h2,h3,h4,h5,h6,h7].getD i 0+(Gz (EW b 64) 64 0 [h0,h1,h2,h3,h4,h5,h6,h7]).getD i 0:=by
 have hl:=Pi (EW b 64) 64 0 [h0,h1,h2,h3,h4,h5,h6,h7] rfl
 rw[EK,<-show Gz (EW b 64) 64 0 [h0,h1,h2,h3,h4,h5,h6,h7]=Nk (EW b 64) [h0,h1,h2,h3,h4,h5,h6,h7] 64 from WS _ _ 64 0]
 revert hl
 generalize Gz (EW b 64) 64 0 [h0,h1,h2,h3,h4,h5,h6,h7]=l
 intro hl
 match l,hl with
 | [_,_,_,_,_,_,_,_],_=>rfl
def Ea(ws:List UInt32):Nat->Nat->S5->S5
 | 0,_,s=>s
 | k+1,t,s=>Ea ws k (t+1) (Un t (ws.getD t 0) s)
theorem YC(ws:List UInt32)(s:S5):∀(k t:Nat),Ea ws k t (aY ws s t)=aY ws s (t+k)
 | 0,t=>rfl
 | k+1,t=>by rw[show t+(k+1)=t+1+k from by omega,<-YC ws s k (t+1)];rfl
theorem A2n(t:Nat)(w a b c d e f q:UInt32)(hf:f=f1 t b c d)(hq:q=k1 t):Un t w ⟨a,b,c,d,e⟩=⟨rQ a 5+f+e+q+w,a,rQ b 30,c,d⟩:=by subst hf hq;rfl
theorem A2o(h0 h1 h2 h3 h4:UInt32)(b:List UInt8):KY [h0,h1,h2,h3,h4] b=[h0+(Ea (N9 b 80) 80 0 ⟨h0,h1,h2,h3,h4⟩).a,h1+(Ea (N9 b 80) 80 0 ⟨h0,h1,h2,h3,h4⟩).b,h2+(Ea (N9 b 80) 80 0 ⟨h0,h1,h2,h3,h4⟩).c,h3+(Ea (N9 b 80) 80 0 ⟨h0,h1,h2,h3,h4⟩).d,h4+(Ea (N9 b 80) 80 0 ⟨h0,h1,h2,h3,h4⟩).e]:=by
 rw[show Ea (N9 b 80) 80 0 ⟨h0,h1,h2,h3,h4⟩=aY (N9 b 80) ⟨h0,h1,h2,h3,h4⟩ 80 from YC _ _ 80 0];rfl
theorem A69{l:List UInt32}(h:l.length=5):[l.getD 0 0,l.getD 1 0,l.getD 2 0,l.getD 3 0,l.getD 4 0]=l:=by
 match l,h with
 | [_,_,_,_,_],_=>rfl
theorem A50{l:List UInt32}(h:l.length=8):[l.getD 0 0,l.getD 1 0,l.getD 2 0,l.getD 3 0,l.getD 4 0,l.getD 5 0,l.getD 6 0,l.getD 7 0]=l:=by
 match l,h with
 | [_,_,_,_,_,_,_,_],_=>rfl
theorem A3v{p:List UInt8}(h:64<=p.length):List.take (Aw p-64).toNat (List.drop (Int.toNat 64) p)=p.drop 64:=by
 rw[AC];exact List.take_of_length_le zaK
theorem Gg:J8.length=64:=rfl
theorem A6A:Ah [a0,a1,a2,a3,a4,a5,a6,a7] 0=some a0:=MZ zac rfl
theorem A01:Ah [a0,a1,a2,a3,a4,a5,a6,a7] 1=some a1:=MZ zac rfl
theorem A02:Ah [a0,a1,a2,a3,a4,a5,a6,a7] 2=some a2:=MZ zac rfl
theorem A6B:Ah [a0,a1,a2,a3,a4,a5,a6,a7] 3=some a3:=MZ zac rfl
theorem A6C:Ah [a0,a1,a2,a3,a4,a5,a6,a7] 4=some a4:=MZ zac rfl
theorem A3x:Ah [a0,a1,a2,a3,a4,a5,a6,a7] 5=some a5:=MZ zac rfl
theorem A3y:Ah [a0,a1,a2,a3,a4,a5,a6,a7] 6=some a6:=MZ zac rfl
theorem A6D:Ah [a0,a1,a2,a3,a4,a5,a6,a7] 7=some a7:=MZ zac rfl
end Go.Ax
namespace Go.Proofs.YtanagnimhaemgaaGreatDoor
open Go Go.RowKit Go.Eng Go.ChangeShapes Go.WideShapes Go.ChangeAt Go.Ax
theorem Uc{H:Type}{enc:TypeId×Value->H}{P:Program}(hl:laidOutB P=true){W W':World}(he:Ext W W'){sp:Nat->Bool}:
  ∀ {ts:List TypeId} {vs:List Value} {ds:List (DataW H)} {ps:List MemPlace},(ts.all fun t=>P.readableRec t&&decide (t<P.types.size))=true ->
  DataW.TrodAll enc P W 0 (fun _=>true) true ts vs ds ps->(∀ p∈ps,p.block<W.heap.size)->(∀ p∈ps,sp p.block=true)->DataW.TrodAll enc P W' 0 sp true ts vs ds ps
 | [],_,_,_,_,h,_,_=>by
  obtain⟨rfl,rfl,rfl⟩:=trodAll_nil h
  exact trodAll_mk0
 | t::ts,_,_,_,hr,h,hlt,hsp=>by
  obtain⟨v,vs1,d,ds1,a,b,rfl,rfl,rfl,h1,h2⟩:=trodAll_cons h
  simp only[List.all_cons,Bool.and_eq_true,decide_eq_true_eq] at hr
  exact⟨a,b,WideElems.Trod_stays hl hr.1.1 hr.1.2 h1 (fun x hx=>he.same (hlt x (by simp[hx]))) (fun x hx=>hsp x (by simp[hx])),
   Uc hl he hr.2 h2 (fun x hx=>hlt x (by simp[hx])) (fun x hx=>hsp x (by simp[hx])),rfl⟩
theorem uF{H:Type}{enc:TypeId×Value->H}{P:Program}{f:Func}{s:ChangeSpec}{W W':World}{args:Array Value}{ds gs:List (DataW H)}{before:List MemPlace}{tb:TypeId}
  (hW:DataW.Whole enc P f.params.toList s.vars false W args.toList ds gs before) (hl:laidOutB P=true) (hr:(f.params.toList.all fun t=>P.readableRec t&&decide (t<P.types.size))=true)
  (hv:s.vars=[]) (hres:f.resultTypes = #[tb]) (htb:P.underlying tb=some .bool) (h1:(s.fn H ds).results=[.lit (.bool true)]) (h2:(s.fn H ds).args=ds) (h3:(s.fn H ds).vars=[]) (he:Ext W W') :
  s.post enc P f false true false false W args (.bool true) W':=by
 have hW':=hW
 have hlt:∀ p∈before,p.block<W.heap.size:=fun p hp=>hW'.lt p hp
 obtain⟨p,q,hA,hV,rfl,hfz,hnd⟩:=hW
 rw[hv] at hV
 obtain⟨rfl,rfl⟩:=trodVars_none hV
 refine⟨ds,[],_,[],p,[],hW',?_,?_,?_,?_,fun h=>by cases h⟩
 ·rw[hres,List.append_nil,h1]
  exact trodAll_cons_mk (shut_bool htb _) trodAll_mk0
 ·rw[List.append_nil,h2]
  exact Uc hl he hr hA (fun x hx=>hlt x zaS) (fun x hx=>by simpa using hlt x zaS)
 ·rw[List.append_nil,h3,hv];rfl
 ·exact he.frame _
theorem laidOut:laidOutB Tryz.prog=true:=zai
theorem own:ownKnob Tryz.prog.godebug=none:=zai
theorem uG{f:FuncId}{ins:List AV}(h:Y E0 (.call f ins [])=some (.ret (.b true) [])){w:World}{args:List Value}(hI:∀ w',Ext w w'->I0 w')(hr:AO ⟨fun k=>k<0,fun _=>undef,No,w⟩ ins args):Calls Tryz.prog f args.toArray w (rD fun v w'=>v=.bool true/\Ext w w'):=by
 refine rD.mono (KU e0 h (fun _=>undef) No w args ⟨fun b hb=>hb.elim,fun w' hs=>hI w' hs.ext⟩ hr ⟨(fun k R h=>by cases h),(fun k k' R R' b h=>by cases h),fun k h=>absurd h (Gt k)⟩) ?_
 rintro v w' ⟨ν',ok⟩
 have h1:=ok.rep
 simp only[Rep] at h1
 refine⟨h1,(ok.stp.mono fun i _ hh=>?_).ext⟩
 obtain⟨k,R,hk,_⟩:=hh
 cases hk
theorem Zc{τ:Ty}{x:El τ}{v:Value}{w:World}{N:Nat->Prop}{ν:Nat->Value}{a:AV}(hf:flat τ x=[a])(hc:v.cells.toList=[v])(h:CR τ x v.cells.toList w):AO ⟨N,ν,No,w⟩ [a] [v]:=by
 rw[hc] at h
 have:=CR.reps (c:=⟨N,ν,No,w⟩) (fun w' hs=>h.ext (Stp.ext hs))
 rw[hf] at this;exact this
mutual
def kZ{H:Type}:DataW H->List Value
 | .lit (.int k n)=>[.int k n]
 | .agg l=>wH l
 | _=>[]
def wH{H:Type}:List (DataW H)->List Value
 | []=>[]
 | d::r=>kZ d++wH r
end
theorem oU{H:Type}:∀(a b:List (DataW H)),wH (a++b)=wH a++wH b
 | [],b=>rfl
 | x::a,b=>by rw[List.cons_append,wH,wH,oU a b,List.append_assoc]
section
variable {H:Type}{enc:TypeId×Value->H}{P:Program}{w:World}{base:Nat}{sp:Nat->Bool}{held:Bool}{fuel:Nat}{t e:TypeId}{n s:Nat}{cs:List Value}{d:DataW H}{p:List MemPlace}
theorem kw{k:IntKind}(ht:P.underlying t=some (.int k))(h:DataW.trod enc P w base sp held fuel t cs=some (d,p)):cs=kZ d:=by
 obtain⟨n,rfl,hx,_⟩:=DataW.trod_int ht h
 obtain⟨rfl,-⟩:=Prod.mk.inj hx
 rfl
theorem zQ(xs:List (DataW H×List MemPlace))(hs:cs.length=xs.length*s)(hel:∀ i b,xs[i]?=some b->(cs.drop (i*s)).take s=kZ b.1):cs=wH (xs.map (·.1)):=by
 have key:∀ i,i<=xs.length->cs.take (i*s)=wH ((xs.map (·.1)).take i):=by
  intro i
  induction i with
  | zero=>intro _;simp[wH]
  | succ i ih =>
   intro hi
   have hlt:i<xs.length:=zaa
   have h1:=hel i xs[i] (List.getElem?_eq_getElem hlt)
   have h2:(xs.map (·.1)).take (i+1)=(xs.map (·.1)).take i++[(xs[i]).1]:=by
    rw[List.take_succ_eq_append_getElem (by simpa using hlt)];simp
   rw[h2,oU,<-ih zaa,show wH [(xs[i]).1]=kZ (xs[i]).1 from by simp[wH],<-h1,Nat.add_mul,Nat.one_mul,List.take_add]
 have:=key xs.length (Nat.le_refl _)
 rw[List.take_of_length_le zaa,List.take_of_length_le zan] at this
 exact this
theorem kz(ht:P.underlying t=some (.array n e))(hce:P.cellsOf e=s)(hct:P.cellsOf t=n*s)(hel:∀ fuel cs d p,DataW.trod enc P w base sp held fuel e cs=some (d,p)->cs=kZ d)(h:DataW.trod enc P w base sp held fuel t cs=some (d,p)):cs=kZ d:=by
 cases fuel with
 | zero=>simp[DataW.trod] at h
 | succ fuel =>
  simp only[DataW.trod,ht,hce,hct] at h
  split at h
  ·rename_i hl
   obtain⟨xs,hm,hx⟩:=Option.map_eq_some_iff.1 h
   obtain⟨rfl,-⟩:=Prod.mk.inj hx
   have hxl:xs.length=n:=by simpa using Lib.mapM_length hm
   rw[kZ]
   refine zQ (s:=s) xs (by rw[hl,hxl]) fun i b hb=>?_
   have hi:i<n:=by rw[<-hxl];exact(List.getElem?_eq_some_iff.1 hb).1
   obtain⟨b',hb',hf⟩:=Lib.mapM_at hm i i (by simp[hi])
   obtain rfl:=Option.some.inj (hb.symm.trans hb')
   exact hel _ _ b.1 b.2 hf
  ·cases h
theorem A5v{fs:Array Field}(ht:P.underlying t=some (.struct fs))(hct:P.cellsOf t=fs.size)(hf:∀(i:Nat) (f:Field),fs[i]?=some f->f.offset=i/\P.cellsOf f.type=1/\P.underlying f.type=some (.int .i64))(h:DataW.trod enc P w base sp held fuel t cs=some (d,p)):cs=kZ d:=by
 obtain⟨xs,m,rfl,hx,hl,hxl,hg⟩:=DataW.trod_struct ht h
 obtain⟨rfl,-⟩:=Prod.mk.inj hx
 rw[kZ]
 refine zQ (s:=1) xs (by rw[hl,hct,hxl,Nat.mul_one]) fun i b hb=>?_
 have hi:i<fs.size:=by rw[<-hxl];exact(List.getElem?_eq_some_iff.1 hb).1
 obtain⟨q1,q2,q3⟩:=hf i fs[i] (Array.getElem?_eq_getElem hi)
 have h2:=hg i fs[i] (Array.getElem?_eq_getElem hi)
 rw[q1,q2,hb] at h2
 rw[Nat.mul_one]
 exact kw (d:=b.1) (p:=b.2) q3 h2
end
theorem oV{P:Program}{W:World}:∀ {l:List (String×DataW Unit)} {ps:List MemPlace},DataW.LaidVars P W l ps->∀ x∈l,∃ g t cs fuel p,P.globalNamed x.1=some g/\(P.globals[g]?).map (·.type)=some t/\W.var? P x.1=some cs/\DataW.trod (fun _=>()) P W 0 (fun _=>true) false fuel t cs.toList=some (x.2,p)
 | [],_,_,x,hx=>by cases hx
 | (n,d)::r,ps,h,x,hx=>by
  obtain⟨g,t,cs,fuel,p,q,h1,h2,h3,h4,h5,-⟩:=h
  rcases List.mem_cons.1 hx with rfl|hx
  ·exact⟨g,t,cs,fuel,p,h1,h2,h3,h4⟩
  ·exact oV h5 x hx
theorem U5{P:Program}{W:World}{l:List (String×DataW Unit)}(h:laidMet P l W){x:String×DataW Unit}(hx:x∈l){g:Nat}{t:TypeId}(hg:P.globalNamed x.1=some g)(hty:(P.globals[g]?).map (·.type)=some t)
  (hel:∀ fuel cs p,DataW.trod (fun _=>()) P W 0 (fun _=>true) false fuel t cs=some (x.2,p)->cs=kZ x.2) (j:Nat):W.cell? ⟨g,j,none⟩=(kZ x.2)[j]?:=by
 obtain⟨ps,hl,-⟩:=h
 obtain⟨g',t',cs,fuel,p,h1,h2,h3,h4⟩:=oV hl x hx
 obtain rfl:=Option.some.inj (hg.symm.trans h1)
 obtain rfl:=Option.some.inj (hty.symm.trans h2)
 rw[World.var?_cell hg h3 j,<-hel _ _ _ h4,Array.getElem?_toList]
abbrev zS:List (String×DataW Unit):=Rows.topReplayRow.laid
theorem kt{W:World}(h:laidMetH Tryz.prog zS W):KT W:=by
 have h':laidMet Tryz.prog zS W:=h
 have q0:=fun j=>U5 h' (x:=("sealwright/digest.round256", Rows.laid_sealwright_digest_round256)) (by exact List.mem_cons_self ..) (g:=2) (t:=129) zai zai
  (fun fuel cs p hh=>kz (s:=1) Tryz.underlying129 zai zai (fun fuel cs d p=>kw Tryz.underlying128) hh) j
 have q1:=fun j=>U5 h' (x:=("sealwright/command.magic", Rows.laid_sealwright_command_magic)) (by exact List.mem_cons_of_mem _ (List.mem_cons_self ..)) (g:=0) (t:=244) zai zai
  (fun fuel cs p hh=>kz (s:=1) Tryz.underlying244 zai zai (fun fuel cs d p=>kw Tryz.underlying5) hh) j
 have q2:=fun j=>U5 h' (x:=("sealwright/command.forms", Rows.laid_sealwright_command_forms)) (by exact List.mem_cons_of_mem _ (List.mem_cons_of_mem _ (List.mem_cons_self ..))) (g:=1) (t:=247) zai zai
  (fun fuel cs p hh=>kz (s:=5) Tryz.underlying247 zai zai (fun fuel cs d p=>A5v Tryz.underlying246 zai (fun i f hf=>by
   rcases i with _|_|_|_|_|i
   all_goals first|(obtain rfl:=Option.some.inj hf;exact⟨rfl,by kernel_rfl,Tryz.underlying3⟩)|exact absurd (Array.getElem?_eq_some_iff.1 hf).1 zan)) hh) j
 have e0:(kZ (Rows.laid_sealwright_digest_round256:DataW Unit))=J8.map wordV:=zai
 have e1:(kZ (Rows.laid_sealwright_command_magic:DataW Unit))=magicV:=zai
 have e2:(kZ (Rows.laid_sealwright_command_forms:DataW Unit))=formsV:=zai
 refine⟨fun j hj=>?_,fun j u hu=>?_,fun j u hu=>?_⟩
 ·rw[Nat.zero_add,q0 j,e0,List.getElem?_map,List.getD_eq_getElem?_getD,List.getElem?_eq_getElem (show j<J8.length from hj)];rfl
 ·rw[q2 j,e2];exact hu
 ·rw[q1 j,e1];exact hu
def zT(d:DataW Unit):Obj->Obj
 | .cells _ t frozen=>.cells (kZ d).toArray t frozen
 | o=>o
noncomputable def laidWorld(os:Os):World :=
 {World.holding Tryz.prog os ⟨#[],#[],[]⟩ with heap:=((((((World.holding Tryz.prog os ⟨#[],#[],[]⟩).heap.modify 2 (zT Rows.laid_sealwright_digest_round256)).modify 0 (zT Rows.laid_sealwright_command_magic)).modify 1 (zT Rows.laid_sealwright_command_forms)).modify 5 (zT Rows.laid_unicode_utf8_acceptRanges)).modify 4 (zT Rows.laid_unicode_utf8_first))}
theorem hI0{w:World}(h:laidMetH Tryz.prog zS w):∀ w',Ext w w'->I0 w':=fun w' he=>(kt h).ext he
end Go.Proofs.YtanagnimhaemgaaGreatDoor
namespace Go.Proofs.YtanagnimhaemgaaGreatDoor
open Go Go.Ax Go.Eng
variable (b:List UInt8)(ws:List UInt32)(h0 h1 h2 h3 h4 h5 h6 h7:UInt32)
section
attribute [local irreducible] Bl CS CU CJ Bh Ak CV Du EN E5 EH Be BN CE Bz and' CG CO BC Ag Ar BF BG AY Aa AP AX CW Dv CX DT C9 BJ BD BA BB Au AQ Az Ac Aw Ah CY BL Bi BR BI CB CZ CP fits Cb CQ A8 AA AZ
attribute [local irreducible] FP J8 Gz
theorem oq(ws:List UInt32)(hw:ws.length=64)(h0 h1 h2 h3 h4 h5 h6 h7:UInt32):∀(k t:Nat) (a0 a1 a2 a3 a4 a5 a6 a7:UInt32),t+k=64->Y E0 (.loop 215 1 1 3 [(0,AV.pa 0 0),(4,AV.pa 1 0),(10,AV.pa 2 0),(70,AV.i t)] [(0,some (.var [.u32 h0,.u32 h1,.u32 h2,.u32 h3,.u32 h4,.u32 h5,.u32 h6,.u32 h7])),(1,some (Rs.var (FP ws))),(2,some (.var [.u32 a0,.u32 a1,.u32 a2,.u32 a3,.u32 a4,.u32 a5,.u32 a6,.u32 a7]))])=some (.fin (.exit 2) 2 [(0,AV.pa 0 0),(10,AV.pa 1 0)] [(0,some (.var [.u32 h0,.u32 h1,.u32 h2,.u32 h3,.u32 h4,.u32 h5,.u32 h6,.u32 h7])),(1,some (Rs.var (FP (Gz ws k t [a0,a1,a2,a3,a4,a5,a6,a7]))))])
 | 0,t,a0,a1,a2,a3,a4,a5,a6,a7,hk=>by
  rw[AU];conv=>lhs;whnf
  refine BM ?_
  unfold Gz FP;rfl
 | k+1,t,a0,a1,a2,a3,a4,a5,a6,a7,hk=>by
  have ih:=fun s0 s1 s2 s3 s4 s5 s6 s7=>oq ws hw h0 h1 h2 h3 h4 h5 h6 h7 k (t+1) s0 s1 s2 s3 s4 s5 s6 s7 zaa
  rw[AU];conv=>lhs;whnf
  refine BM ?_
  rw[A2a _]
  refine BM ?_
  rw[zf _]
  refine BM ?_
  rw[zg _]
  conv=>lhs;whnf
  try dsimp -iota -beta -eta -zeta only
  rw[Fh zaa]
  conv=>lhs;whnf
  rw[Dn zaa]
  conv=>lhs;whnf
  try dsimp -iota -beta -eta -zeta only
  rw[Fh zaa]
  conv=>lhs;whnf
  rw[Dn zaa]
  conv=>lhs;whnf
  rw[zq zaa]
  refine BM ?_
  rw[Dp zaa]
  refine BM ?_
  rw[A2b _]
  refine BM ?_
  rw[zh _]
  refine BM ?_
  rw[zi _]
  refine BM ?_
  ((conv in(close _ _ _ _)=>skip);rw[DV hw])
  refine BM ?_
  rw[show((t:Int)+1)=((t+1:Nat):Int) from by omega];refine((congrArg (Y E0) za5).trans (ih _ _ _ _ _ _ _ _)).trans ?_;simp only[Ju,JM,LJ,show 0+(t:Int).toNat*1=t from by omega];rw[show Gz ws (k+1) t [a0,a1,a2,a3,a4,a5,a6,a7]=Gz ws k (t+1) (Yy (J8.getD t 0) (ws.getD t 0) [a0,a1,a2,a3,a4,a5,a6,a7]) from by rw[Gz]];rfl
end
section
attribute [local irreducible] Bl CS CU CJ Bh Ak CV Du EN E5 EH Be BN CE Bz and' CG CO BC Ag Ar BF BG AY Aa AP AX CW Dv CX DT C9 BJ BD BA BB Au AQ Az Ac Aw Ah CY BL Bi BR BI CB CZ CP fits Cb CQ A8 AA AZ
attribute [local irreducible] FP J8 Gz
theorem zt(hw:ws.length=64)(h0 h1 h2 h3 h4 h5 h6 h7 a0 a1 a2 a3 a4 a5 a6 a7:UInt32):Y E0 (.loop 215 1 1 3 [(0,AV.pa 0 0),(4,AV.pa 1 0),(10,AV.pa 2 0),(70,AV.i 0)] [(0,some (.var [.u32 h0,.u32 h1,.u32 h2,.u32 h3,.u32 h4,.u32 h5,.u32 h6,.u32 h7])),(1,some (Rs.var ((List.range 64).map fun i=>AV.u32 (ws.getD i 0)))),(2,some (.var [.u32 a0,.u32 a1,.u32 a2,.u32 a3,.u32 a4,.u32 a5,.u32 a6,.u32 a7]))])=some (.fin (.exit 2) 2 [(0,AV.pa 0 0),(10,AV.pa 1 0)] [(0,some (.var [.u32 h0,.u32 h1,.u32 h2,.u32 h3,.u32 h4,.u32 h5,.u32 h6,.u32 h7])),(1,some (Rs.var (FP (Gz ws 64 0 [a0,a1,a2,a3,a4,a5,a6,a7]))))]):=by
 have e:=oq ws hw h0 h1 h2 h3 h4 h5 h6 h7 64 0 a0 a1 a2 a3 a4 a5 a6 a7 rfl
 rw[DV hw] at e
 exact e
theorem A2l(s0 s1 s2 s3 s4 s5 s6 s7:UInt32):Y E0 (.loop 215 2 1 2 [(0,.pa 0 0),(10,.pa 1 0),(152,.i 0)] [(0,some (.var [.u32 h0,.u32 h1,.u32 h2,.u32 h3,.u32 h4,.u32 h5,.u32 h6,.u32 h7])),(1,some (.var [.u32 s0,.u32 s1,.u32 s2,.u32 s3,.u32 s4,.u32 s5,.u32 s6,.u32 s7]))])=some (.fin (.exit 4) 1 [] [(0,some (.var [.u32 (h0+s0),.u32 (h1+s1),.u32 (h2+s2),.u32 (h3+s3),.u32 (h4+s4),.u32 (h5+s5),.u32 (h6+s6),.u32 (h7+s7)]))]):=by
 refine BM ?_
 refine BM ?_
 refine BM ?_
 refine BM ?_
 refine BM ?_
 refine BM ?_
 refine BM ?_
 refine BM ?_
 refine BM ?_
 simp only[Ju]
theorem A2m(hb:b.length=64):Y E0 (.call 215 [.pa 0 0,.sl .u8 b] [.var [.u32 h0,.u32 h1,.u32 h2,.u32 h3,.u32 h4,.u32 h5,.u32 h6,.u32 h7]])=some (.ret (.tup []) [some (.var ((List.range 8).map fun i=>.u32 ((EK [h0,h1,h2,h3,h4,h5,h6,h7] b).getD i 0)))]):=by
 rw[uH]
 refine BM ?_
 rw[zo (hb:=Bq) ..]
 refine BM ?_
 ((conv in(close _ _ _ _)=>skip);rw[DV (Nj b 64)])
 refine BM ?_
 (erw[zt (EW b 64) (Nj b 64)])
 refine BM ?_
 ((conv in(close _ _ _ _)=>skip);rw[DV (Pi (EW b 64) 64 0 [h0,h1,h2,h3,h4,h5,h6,h7] rfl)])
 refine BM ?_
 rw[A2l ..]
 refine BM ?_
 rfl
end
section
attribute [local irreducible] Bl CS CU CJ Bh Ak CV Du EN E5 EH Be BN CE Bz and' CG CO BC Ag Ar BF BG AY Aa AP AX CW Dv CX DT C9 BJ BD BA BB Au AQ Az Ac Aw Ah CY BL Bi BR BI CB CZ CP fits Cb CQ A8 AA AZ
attribute [local irreducible] FP Ea Un
theorem A67(hw:ws.length=80)(h0 h1 h2 h3 h4:UInt32){G:S5->Option Rsp}(t:Nat)(a b c d e f q:UInt32)(ht:t<80)(hr:∀ s:S5,Y E0 (.loop 213 1 1 2 [(0,.pa 0 0),(4,.pa 1 0),(6,.u32 s.a),(7,.u32 s.b),(8,.u32 s.c),(9,.u32 s.d),(10,.u32 s.e),(67,.i (t+1:Nat))] [(0,some (.var [.u32 h0,.u32 h1,.u32 h2,.u32 h3,.u32 h4])),(1,some (.var (FP ws)))])=G s)(hf:f=f1 t b c d)(hq:q=k1 t):Y E0 (.drw ⟨165,213,1⟩ [true,true,true,false,true,false,false,true,true,false,false,true,true,true] 0 [] [.blk 3,.seq [true,true,true,false,true,false,false,true,true,true] 2,.lup 1] 2 [(0,.pa 0 0),(4,.pa 1 0),(6,.u32 a),(7,.u32 b),(8,.u32 c),(9,.u32 d),(10,.u32 e),(11,.i t),(12,.u32 f),(13,.u32 q),(67,.i t)] [(0,some (.var [.u32 h0,.u32 h1,.u32 h2,.u32 h3,.u32 h4])),(1,some (.var (FP ws)))])=G (Un t (ws.getD t 0) ⟨a,b,c,d,e⟩):=by
 rw[A2n t _ a b c d e f q hf hq]
 rw[AU];conv=>lhs;whnf
 refine BM ?_
 rw[A2d _]
 refine BM ?_
 rw[Dp zaa]
 refine BM ?_
 rw[zk _]
 refine BM ?_
 ((conv in(close _ _ _ _)=>skip);rw[DV hw])
 refine BM ?_
 rw[show((t:Int)+1)=((t+1:Nat):Int) from by omega];simp only[Ju,show 0+(t:Int).toNat*1=t from by omega];exact(congrArg (Y E0) za5).trans (hr ⟨_,_,_,_,_⟩)
theorem A3t(ws:List UInt32)(hw:ws.length=80)(h0 h1 h2 h3 h4:UInt32):∀(k t:Nat) (s:S5),t+k=80->Y E0 (.loop 213 1 1 2 [(0,.pa 0 0),(4,.pa 1 0),(6,.u32 s.a),(7,.u32 s.b),(8,.u32 s.c),(9,.u32 s.d),(10,.u32 s.e),(67,.i t)] [(0,some (.var [.u32 h0,.u32 h1,.u32 h2,.u32 h3,.u32 h4])),(1,some (.var (FP ws)))])=some (.fin (.exit 2) 1 [(0,.pa 0 0),(6,.u32 (Ea ws k t s).a),(7,.u32 (Ea ws k t s).b),(8,.u32 (Ea ws k t s).c),(9,.u32 (Ea ws k t s).d),(10,.u32 (Ea ws k t s).e)] [(0,some (.var [.u32 h0,.u32 h1,.u32 h2,.u32 h3,.u32 h4]))])
 | 0,t,s,hk=>by
  rw[AU];conv=>lhs;whnf
  refine BM ?_
  unfold Ea;rfl
 | k+1,t,⟨a,b,c,d,e⟩,hk=>by
  have ih:=fun f q=>A67 ws hw h0 h1 h2 h3 h4 t a b c d e f q zaa (fun s=>A3t ws hw h0 h1 h2 h3 h4 k (t+1) s zaa)
  rw[show Ea ws (k+1) t ⟨a,b,c,d,e⟩=Ea ws k (t+1) (Un t (ws.getD t 0) ⟨a,b,c,d,e⟩) from by rw[Ea]]
  rw[AU];conv=>lhs;whnf
  refine BM ?_
  rcases I7 (↑t/20) 0 with hc0|hc0
  ·
   refine BM ?_
   ((conv in(close _ _ _ _)=>skip);rw[DV hw])
   conv=>lhs;whnf
   exact(congrArg (Y E0) za5).trans (ih _ _ zaj zah)
  refine BM ?_
  rcases I7 (↑t/20) 1 with hc1|hc1
  ·
   refine BM ?_
   ((conv in(close _ _ _ _)=>skip);rw[DV hw])
   conv=>lhs;whnf
   exact(congrArg (Y E0) za5).trans (ih _ _ zaj zah)
  refine BM ?_
  rcases I7 (↑t/20) 2 with hc2|hc2
  ·
   refine BM ?_
   ((conv in(close _ _ _ _)=>skip);rw[DV hw])
   conv=>lhs;whnf
   exact(congrArg (Y E0) za5).trans (ih _ _ zaj zah)
  refine BM ?_
  ((conv in(close _ _ _ _)=>skip);rw[DV hw])
  conv=>lhs;whnf
  exact(congrArg (Y E0) za5).trans (ih _ _ zaj zah)
end
section
attribute [local irreducible] Bl CS CU CJ Bh Ak CV Du EN E5 EH Be BN CE Bz and' CG CO BC Ag Ar BF BG AY Aa AP AX CW Dv CX DT C9 BJ BD BA BB Au AQ Az Ac Aw Ah CY BL Bi BR BI CB CZ CP fits Cb CQ A8 AA AZ
attribute [local irreducible] FP Ea Un
theorem A4z(hw:ws.length=80)(h0 h1 h2 h3 h4:UInt32):Y E0 (.loop 213 1 1 2 [(0,.pa 0 0),(4,.pa 1 0),(6,.u32 h0),(7,.u32 h1),(8,.u32 h2),(9,.u32 h3),(10,.u32 h4),(67,.i 0)] [(0,some (.var [.u32 h0,.u32 h1,.u32 h2,.u32 h3,.u32 h4])),(1,some (.var ((List.range 80).map fun i=>.u32 (ws.getD i 0))))])=some (.fin (.exit 2) 1 [(0,.pa 0 0),(6,.u32 (Ea ws 80 0 ⟨h0,h1,h2,h3,h4⟩).a),(7,.u32 (Ea ws 80 0 ⟨h0,h1,h2,h3,h4⟩).b),(8,.u32 (Ea ws 80 0 ⟨h0,h1,h2,h3,h4⟩).c),(9,.u32 (Ea ws 80 0 ⟨h0,h1,h2,h3,h4⟩).d),(10,.u32 (Ea ws 80 0 ⟨h0,h1,h2,h3,h4⟩).e)] [(0,some (.var [.u32 h0,.u32 h1,.u32 h2,.u32 h3,.u32 h4]))]):=by
 have e:=A3t ws hw h0 h1 h2 h3 h4 80 0 ⟨h0,h1,h2,h3,h4⟩ rfl
 rw[DV hw] at e
 exact e
theorem A68(hb:b.length=64):Y E0 (.call 213 [.pa 0 0,.sl .u8 b] [.var [.u32 h0,.u32 h1,.u32 h2,.u32 h3,.u32 h4]])=some (.ret (.tup []) [some (.var ((List.range 5).map fun i=>.u32 ((KY [h0,h1,h2,h3,h4] b).getD i 0)))]):=by
 rw[A2o]
 refine BM ?_
 (erw[A4y b _ _ _ _ _ hb])
 refine BM ?_
 ((conv in(close _ _ _ _)=>skip);rw[DV (aX b 80)])
 refine BM ?_
 (erw[A4z (N9 b 80) (aX b 80)])
 refine BM ?_
 simp only[Ju];rfl
end
section
attribute [local irreducible] Bl CS CU CJ Bh Ak CV Du EN E5 EH Be BN CE Bz and' CG CO BC Ag Ar BF BG AY Aa AP AX CW Dv CX DT C9 BJ BD BA BB Au AQ Az Ac Aw Ah CY BL Bi BR BI CB CZ CP fits Cb CQ A8 AA AZ
attribute [local irreducible] KY EK Gs
theorem YF:∀(n:Nat) (p:List UInt8) (h0 h1 h2 h3 h4:UInt32),p.length=64*n->p.length<=8589934592->Y E0 (.loop 176 0 0 1 [(5,.pa 0 0),(6,.sl .u8 p)] [(0,some (.var [.u32 h0,.u32 h1,.u32 h2,.u32 h3,.u32 h4]))])=some (.fin (.exit 1) 1 [(5,.pa 0 0)] [(0,some (.var ((List.range 5).map fun i=>.u32 ((Gs KY n [h0,h1,h2,h3,h4] p).getD i 0))))])
 | 0,p,h0,h1,h2,h3,h4,hp,hq=>by
  rw[AU];conv=>lhs;whnf
  refine BM ?_
  unfold Gs;rfl
 | n+1,p,h0,h1,h2,h3,h4,hp,hq=>by
  have ih:=YF n (p.drop 64) ((KY [h0,h1,h2,h3,h4] (p.take 64)).getD 0 0) ((KY [h0,h1,h2,h3,h4] (p.take 64)).getD 1 0) ((KY [h0,h1,h2,h3,h4] (p.take 64)).getD 2 0) ((KY [h0,h1,h2,h3,h4] (p.take 64)).getD 3 0) ((KY [h0,h1,h2,h3,h4] (p.take 64)).getD 4 0) zaK zaK
  rw[A69 (TG _ _)] at ih
  rw[AU];conv=>lhs;whnf
  refine BM ?_
  rw[A68 (hb:=Bq) ..]
  refine BM ?_
  rw[A3v zaa];exact ih.trans (by rw[Gs])
theorem YG:∀(n:Nat) (p:List UInt8) (h0 h1 h2 h3 h4 h5 h6 h7:UInt32),p.length=64*n->p.length<=8589934592->Y E0 (.loop 176 1 0 1 [(7,.pa 0 0),(8,.sl .u8 p)] [(0,some (.var [.u32 h0,.u32 h1,.u32 h2,.u32 h3,.u32 h4,.u32 h5,.u32 h6,.u32 h7]))])=some (.fin (.exit 3) 1 [(7,.pa 0 0)] [(0,some (.var ((List.range 8).map fun i=>.u32 ((Gs EK n [h0,h1,h2,h3,h4,h5,h6,h7] p).getD i 0))))])
 | 0,p,h0,h1,h2,h3,h4,h5,h6,h7,hp,hq=>by
  rw[AU];conv=>lhs;whnf
  refine BM ?_
  unfold Gs;rfl
 | n+1,p,h0,h1,h2,h3,h4,h5,h6,h7,hp,hq=>by
  have ih:=YG n (p.drop 64) ((EK [h0,h1,h2,h3,h4,h5,h6,h7] (p.take 64)).getD 0 0) ((EK [h0,h1,h2,h3,h4,h5,h6,h7] (p.take 64)).getD 1 0) ((EK [h0,h1,h2,h3,h4,h5,h6,h7] (p.take 64)).getD 2 0) ((EK [h0,h1,h2,h3,h4,h5,h6,h7] (p.take 64)).getD 3 0) ((EK [h0,h1,h2,h3,h4,h5,h6,h7] (p.take 64)).getD 4 0) ((EK [h0,h1,h2,h3,h4,h5,h6,h7] (p.take 64)).getD 5 0) ((EK [h0,h1,h2,h3,h4,h5,h6,h7] (p.take 64)).getD 6 0) ((EK [h0,h1,h2,h3,h4,h5,h6,h7] (p.take 64)).getD 7 0) zaK zaK
  rw[A50 (KG _ _ rfl)] at ih
  rw[AU];conv=>lhs;whnf
  refine BM ?_
  rw[A2m (hb:=Bq) ..]
  refine BM ?_
  rw[A3v zaa];exact ih.trans (by rw[Gs])
theorem uJ(alg:Int)(l:List UInt8)(hl:l.length<=4294967296):Y E0 (.call 176 [.i alg,.sl .u8 l] [])=some (.ret (.sl .u8 (A5d alg l)) []):=by
 have hp:=aT l
 have e0:=YF ((OL l).length/64) (OL l) 1732584193 4023233417 2562383102 271733878 3285377520 zaa zaa
 have e1:=YG ((OL l).length/64) (OL l) 1779033703 3144134277 1013904242 2773480762 1359893119 2600822924 528734635 1541459225 zaa zaa
 refine BM ?_
 rcases I7 alg 0 with hc0|hc0
 ·
  subst hc0
  refine BM ?_
  rw[A00 _ Bq]
  refine BM ?_
  (erw[e0])
  refine BM ?_
  rw[YD _ Bq Bq]
  refine BM ?_
  rw[A69 (LM (m:=5) (fun h b _=>TG h b) _ _ _ rfl)];rfl
 refine BM ?_
 rcases I7 alg 1 with hc1|hc1
 ·
  subst hc1
  refine BM ?_
  rw[A00 _ Bq]
  refine BM ?_
  (erw[e1])
  refine BM ?_
  rw[YD _ Bq Bq]
  refine BM ?_
  rw[A50 (LM (m:=8) KG _ _ _ rfl)];rfl
 refine BM ?_
 rw[A5d,if_neg hc0,if_neg hc1]
end
section
attribute [local irreducible] Bl CS CU CJ Bh Ak CV Du EN E5 EH Be BN CE Bz and' CG CO BC Ag Ar BF BG AY Aa AP AX CW Dv CX DT C9 BJ BD BA BB Au AQ Az Ac Aw Ah CY BL Bi BR BI CB CZ CP fits Cb CQ A8 AA AZ
attribute [local irreducible] KY EK Gs FP J8 Gz Ea Un
theorem A3w(h:List UInt32)(p b:List UInt8)(a:Nat)(ha:a+64<=p.length)(hp:p.length<=8589934592)(hb:b=List.take ((a:Int)+64-a).toNat (List.drop (a:Int).toNat p)):∀(k t:Nat) (ws:List UInt32),t+k=64->ws.length=64->ws.take t=EW b t->Y E0 (.loop 29 1 0 3 [(3,.pa 0 0),(4,.nm 1),(5,.sl .u8 p),(6,.i a),(7,.pa 2 0),(8,.i t)] [(0,some (.var (FP J8))),(1,some (.row 128 .u32 h)),(2,some (.var (FP ws)))])=some (.fin (.exit 2) 3 [(3,.pa 0 0),(4,.nm 1),(5,.sl .u8 p),(6,.i a),(7,.pa 2 0)] [(0,some (.var (FP J8))),(1,some (.row 128 .u32 h)),(2,some (.var (FP (EW b 64))))])
 | 0,t,ws,hk,hw,hs=>by
  have e:ws=EW b 64:=zaV
  rw[<-e]
  rw[AU];conv=>lhs;whnf
  refine BM ?_
  ((conv in(close _ _ _ _)=>skip);conv=>lhs;rw[DV Gg,DV hw])
  refine BM ?_
  rw[DV hw,DV Gg];rfl
 | k+1,t,ws,hk,hw,hs=>by
  have ih:=fun x (hx:x=Nh b (EW b t) t)=>A3w h p b a ha hp hb k (t+1) (ws.set t x) zaa (by simpa using hw) (by rw[WR hs zaa,hx];rfl)
  rw[AU];conv=>lhs;whnf
  refine BM ?_
  rcases DU (↑t) 16 with hc0|hc0
  ·
   refine BM ?_
   rw[zl _ _ Bq Bq]
   conv=>lhs;whnf
   try dsimp -iota -beta -eta -zeta only
   rw[Fh zaa]
   conv=>lhs;whnf
   rw[Dn zaa]
   conv=>lhs;whnf
   try dsimp -iota -beta -eta -zeta only
   rw[LK zaa];conv=>lhs;whnf
   rw[NR zaa]
   refine BM ?_
   ((conv in(close _ _ _ _)=>skip);conv=>lhs;rw[DV Gg,KW hw])
   refine BM ?_
   rw[show((t:Int)+1)=((t+1:Nat):Int) from by omega,show 0+((t:Nat):Int).toNat*1=t from by omega,<-hb];refine(congrArg (Y E0) ?_).trans (ih (be32 b (4*t)) (by rw[Nh,if_pos zaa]));rw[KW hw,DV Gg];rfl
  refine BM ?_
  rw[Dp zaa]
  refine BM ?_
  rw[A4v _]
  refine BM ?_
  rw[Dp zaa]
  refine BM ?_
  rw[A2e _]
  refine BM ?_
  rw[Dp zaa]
  refine BM ?_
  rw[Dp zaa]
  refine BM ?_
  rw[A2f _]
  refine BM ?_
  rw[Dp zaa]
  refine BM ?_
  rw[A2g _]
  refine BM ?_
  rw[Dp zaa]
  refine BM ?_
  rw[Dp zaa]
  refine BM ?_
  rw[Dp zaa]
  conv=>lhs;whnf
  try dsimp -iota -beta -eta -zeta only
  rw[Fh zaa]
  conv=>lhs;whnf
  rw[Dn zaa]
  conv=>lhs;whnf
  try dsimp -iota -beta -eta -zeta only
  rw[LK zaa];conv=>lhs;whnf
  rw[NR zaa]
  refine BM ?_
  ((conv in(close _ _ _ _)=>skip);conv=>lhs;rw[DV Gg,KW hw])
  refine BM ?_
  rw[show((t:Int)+1)=((t+1:Nat):Int) from by omega,show 0+((t:Nat):Int).toNat*1=t from by omega];refine(congrArg (Y E0) ?_).trans (ih _ (A3r b ws t hs zaa));rw[KW hw,DV Gg];rfl
end
section
attribute [local irreducible] Bl CS CU CJ Bh Ak CV Du EN E5 EH Be BN CE Bz and' CG CO BC Ag Ar BF BG AY Aa AP AX CW Dv CX DT C9 BJ BD BA BB Au AQ Az Ac Aw Ah CY BL Bi BR BI CB CZ CP fits Cb CQ A8 AA AZ
attribute [local irreducible] KY EK Gs FP J8 Gz Ea Un
theorem A51(h:List UInt32)(p b:List UInt8)(a:Nat)(ha:a+64<=p.length)(hp:p.length<=8589934592)(hb:b=List.take ((a:Int)+64-a).toNat (List.drop (a:Int).toNat p)):Y E0 (.loop 29 1 0 3 [(3,.pa 0 0),(4,.nm 1),(5,.sl .u8 p),(6,.i a),(7,.pa 2 0),(8,.i 0)] [(0,some (.var ((List.range 64).map fun i=>AV.u32 (J8.getD i 0)))),(1,some (.row 128 .u32 h)),(2,some (.var (List.replicate 64 (.u32 0))))])=some (.fin (.exit 2) 3 [(3,.pa 0 0),(4,.nm 1),(5,.sl .u8 p),(6,.i a),(7,.pa 2 0)] [(0,some (.var ((List.range 64).map fun i=>AV.u32 (J8.getD i 0)))),(1,some (.row 128 .u32 h)),(2,some (.var ((List.range 64).map fun i=>AV.u32 ((EW b 64).getD i 0))))]):=by
 have e:=A3w h p b a ha hp hb 64 0 (List.replicate 64 0) rfl rfl rfl
 rw[DV (ws:=List.replicate 64 0) (n:=64) rfl,DV Gg,DV (Nj b 64)] at e
 exact e
theorem A3z(h:List UInt32)(p:List UInt8)(a:Nat)(ws:List UInt32)(hw:ws.length=64):∀(k t:Nat) (a0 a1 a2 a3 a4 a5 a6 a7:UInt32),t+k=64->Y E0 (.loop 29 2 0 3 [(3,.pa 0 0),(4,.nm 1),(5,.sl .u8 p),(6,.i a),(7,.pa 2 0),(11,.sl .u32 [a0,a1,a2,a3,a4,a5,a6,a7]),(12,.i t)] [(0,some (.var (FP J8))),(1,some (.row 128 .u32 h)),(2,some (.var (FP ws)))])=some (.fin (.exit 4) 2 [(3,.pa 0 0),(4,.nm 1),(5,.sl .u8 p),(6,.i a),(11,.sl .u32 (Gz ws k t [a0,a1,a2,a3,a4,a5,a6,a7]))] [(0,some (.var (FP J8))),(1,some (.row 128 .u32 h))])
 | 0,t,a0,a1,a2,a3,a4,a5,a6,a7,hk=>by
  rw[AU];conv=>lhs;whnf
  refine BM ?_
  ((conv in(close _ _ _ _)=>skip);conv=>lhs;rw[DV Gg,DV hw])
  refine BM ?_
  rw[DV Gg];unfold Gz;rfl
 | k+1,t,a0,a1,a2,a3,a4,a5,a6,a7,hk=>by
  have ih:=fun s0 s1 s2 s3 s4 s5 s6 s7=>A3z h p a ws hw k (t+1) s0 s1 s2 s3 s4 s5 s6 s7 zaa
  rw[AU];conv=>lhs;whnf
  refine BM ?_
  rw[A6A]
  refine BM ?_
  rw[A6C]
  refine BM ?_
  rw[A6D]
  refine BM ?_
  rw[A4w _]
  refine BM ?_
  rw[A2h _]
  refine BM ?_
  rw[A2i _]
  refine BM ?_
  rw[A3x]
  refine BM ?_
  rw[A3y]
  refine BM ?_
  rw[Dp (ws:=J8) (by rw[Gg];omega)]
  refine BM ?_
  rw[Dp (ws:=ws) zaa]
  refine BM ?_
  rw[A4x _]
  refine BM ?_
  rw[A2j _]
  refine BM ?_
  rw[A2k _]
  refine BM ?_
  rw[A01]
  refine BM ?_
  rw[A02]
  refine BM ?_
  rw[A01]
  refine BM ?_
  rw[A02]
  refine BM ?_
  rw[A01]
  refine BM ?_
  rw[A02]
  refine BM ?_
  rw[A6B]
  refine BM ?_
  rw[A3x]
  refine BM ?_
  rw[A3y]
  refine BM ?_
  ((conv in(Vy _ _)=>skip);conv=>lhs;rw[DV Gg,DV hw])
  refine BM ?_
  rw[show((t:Int)+1)=((t+1:Nat):Int) from by omega];refine((congrArg (Y E0) (by rw[DV hw,DV Gg];rfl)).trans (ih _ _ _ _ _ _ _ _)).trans ?_;simp only[Ju,JM,LJ,show 0+(t:Int).toNat*1=t from by omega];rw[show Gz ws (k+1) t [a0,a1,a2,a3,a4,a5,a6,a7]=Gz ws k (t+1) (Yy (J8.getD t 0) (ws.getD t 0) [a0,a1,a2,a3,a4,a5,a6,a7]) from by rw[Gz]];rfl
end
end Go.Proofs.YtanagnimhaemgaaGreatDoor
