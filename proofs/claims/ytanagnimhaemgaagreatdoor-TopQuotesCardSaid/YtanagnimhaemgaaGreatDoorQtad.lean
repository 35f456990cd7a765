/-
  Own texts, laid together for this claim: contracts of functions of the program and its references, used by the statements of this seat.
-/
import Derived.Test.YtanagnimhaemgaaGreatDoorRows
import Derived.Test.YtanagnimhaemgaaGreatDoorCards
import Derived.Test.YtanagnimhaemgaaGreatDoorTie
import Derived.WalkKit
import Derived.ProofKit
import Derived.OpenShut
import Derived.Carry
import Derived.ChangeSlices
import Derived.Deep.DeepHandedRow
import Derived.Lib.LaidTab
import Derived.ChangeArms
import Derived.Test.YtanagnimhaemgaaGreatDoorProg
import Derived.JoinedCond
import Derived.Test.YtanagnimhaemgaaGreatDoorQtaa
import Derived.Test.YtanagnimhaemgaaGreatDoorQtab
import Derived.Test.YtanagnimhaemgaaGreatDoorQtac
set_option linter.all false
set_option maxHeartbeats 40000000
set_option maxRecDepth 100000
namespace Go.Ax
open Go Go.Eng
def Hu(ws:List UInt32):Nat->Nat->List UInt32->List UInt32
 | 0,_,s=>s
 | k+1,t,s=>Hu ws k (t+1) (Ws (Iz.getD t 0) (ws.getD t 0) s)
theorem Xo(ws s:List UInt32):∀(k t:Nat),Hu ws k t (Gj ws s t)=Gj ws s (t+k)
 | 0,t=>rfl
 | k+1,t=>by rw[show t+(k+1)=t+1+k from by omega,<-Xo ws s k (t+1)];rfl
theorem A2m{t:Nat}(h:t<64):Ai Iz (t:Int)=some (Iz.getD t 0):=by
 rw[D8 ⟨by omega,by show(t:Int)<64;omega⟩];simp[List.getD,show t<Iz.length from h]
theorem QK(ws:List UInt32):∀(k t:Nat) (s:List UInt32),s.length=8->(Hu ws k t s).length=8
 | 0,_,_,h=>h
 | k+1,t,s,_=>QK ws k (t+1) _ rfl
theorem zA(h0 h1 h2 h3 h4 h5 h6 h7:UInt32)(b:List UInt8):EG [h0,h1,h2,h3,h4,h5,h6,h7] b=(List.range 8).map fun i=>[h0,h1,h2,h3,h4,h5,h6,h7].getD i 0+(Hu (Dc b 64) 64 0 [h0,h1,h2,h3,h4,h5,h6,h7]).getD i 0:=by
 have hl:=QK (Dc b 64) 64 0 [h0,h1,h2,h3,h4,h5,h6,h7] rfl
 rw[EG,<-show Hu (Dc b 64) 64 0 [h0,h1,h2,h3,h4,h5,h6,h7]=Gj (Dc b 64) [h0,h1,h2,h3,h4,h5,h6,h7] 64 from Xo _ _ 64 0]
 revert hl
 generalize Hu (Dc b 64) 64 0 [h0,h1,h2,h3,h4,h5,h6,h7]=l
 intro hl
 match l,hl with
 | [_,_,_,_,_,_,_,_],_=>rfl
end Go.Ax
namespace Go.Proofs.YtanagnimhaemgaaGreatDoor
open Go Go.RowKit Go.Eng Go.ChangeShapes Go.WideShapes Go.ChangeAt Go.Ax
theorem VY{H:Type}{enc:TypeId×Value->H}{P:Program}(hl:laidOutB P=true){W W':World}(he:Ext W W'){sp:Nat->Bool}:
  ∀ {ts:List TypeId} {vs:List Value} {ds:List (DataW H)} {ps:List MemPlace},(ts.all fun t=>P.readableRec t&&decide (t<P.types.size))=true ->
  DataW.TrodAll enc P W 0 (fun _=>true) true ts vs ds ps->(∀ p∈ps,p.block<W.heap.size)->(∀ p∈ps,sp p.block=true)->DataW.TrodAll enc P W' 0 sp true ts vs ds ps
 | [],_,_,_,_,h,_,_=>by
  obtain⟨rfl,rfl,rfl⟩:=trodAll_nil h
  exact trodAll_mk0
 | t::ts,_,_,_,hr,h,hlt,hsp=>by
  obtain⟨v,vs1,d,ds1,a,b,rfl,rfl,rfl,h1,h2⟩:=trodAll_cons h
  simp only[List.all_cons,Bool.and_eq_true,decide_eq_true_eq] at hr
  exact⟨a,b,WideElems.Trod_stays hl hr.1.1 hr.1.2 h1 (fun x hx=>he.same (hlt x (by simp[hx]))) (fun x hx=>hsp x (by simp[hx])),
   VY hl he hr.2 h2 (fun x hx=>hlt x (by simp[hx])) (fun x hx=>hsp x (by simp[hx])),rfl⟩
theorem yx{H:Type}{enc:TypeId×Value->H}{P:Program}{f:Func}{s:ChangeSpec}{W W':World}{args:Array Value}{ds gs:List (DataW H)}{before:List MemPlace}{tb:TypeId}
  (hW:DataW.Whole enc P f.params.toList s.vars false W args.toList ds gs before) (hl:laidOutB P=true) (hr:(f.params.toList.all fun t=>P.readableRec t&&decide (t<P.types.size))=true)
  (hv:s.vars=[]) (hres:f.resultTypes = #[tb]) (htb:P.underlying tb=some .bool) (h1:(s.fn H ds).results=[.lit (.bool true)]) (h2:(s.fn H ds).args=ds) (h3:(s.fn H ds).vars=[]) (he:Ext W W') :
  s.post enc P f false true false false W args (.bool true) W':=by
 have hW':=hW
 have hlt:∀ p∈before,p.block<W.heap.size:=fun p hp=>hW'.lt p hp
 obtain⟨p,q,hA,hV,rfl,hfz,hnd⟩:=hW
 rw[hv] at hV
 obtain⟨rfl,rfl⟩:=trodVars_none hV
 refine⟨ds,[],_,[],p,[],hW',?_,?_,?_,?_,fun h=>by cases h⟩
 ·rw[hres,List.append_nil,h1]
  exact trodAll_cons_mk (shut_bool htb _) trodAll_mk0
 ·rw[List.append_nil,h2]
  exact VY hl he hr hA (fun x hx=>hlt x zaZ) (fun x hx=>by simpa using hlt x zaZ)
 ·rw[List.append_nil,h3,hv];rfl
 ·exact he.frame _
theorem laidOut:laidOutB Tryz.prog=true:=zaj
theorem own:ownKnob Tryz.prog.godebug=none:=zaj
theorem yz{f:FuncId}{ins:List AV}(h:Y E0 (.call f ins [])=some (.ret (.b true) [])){w:World}{args:List Value}(hI:∀ w',Ext w w'->I0 w')(hr:AY ⟨fun k=>k<0,fun _=>undef,No,w⟩ ins args):Calls Tryz.prog f args.toArray w (xg fun v w'=>v=.bool true/\Ext w w'):=by
 refine xg.mono (Kv e0 h (fun _=>undef) No w args ⟨fun b hb=>hb.elim,fun w' hs=>hI w' hs.ext⟩ hr ⟨(fun k R h=>by cases h),(fun k k' R R' b h=>by cases h),fun k h=>absurd h (Ha k)⟩) ?_
 rintro v w' ⟨ν',ok⟩
 have h1:=ok.rep
 simp only[Rep] at h1
 refine⟨h1,(ok.stp.mono fun i _ hh=>?_).ext⟩
 obtain⟨k,R,hk,_⟩:=hh
 cases hk
theorem wC{τ:Ty}{x:El τ}{v:Value}{w:World}{N:Nat->Prop}{ν:Nat->Value}{a:AV}(hf:flat τ x=[a])(hc:v.cells.toList=[v])(h:CR τ x v.cells.toList w):AY ⟨N,ν,No,w⟩ [a] [v]:=by
 rw[hc] at h
 have:=CR.reps (c:=⟨N,ν,No,w⟩) (fun w' hs=>h.ext (Stp.ext hs))
 rw[hf] at this;exact this
mutual
def qp{H:Type}:DataW H->List Value
 | .lit (.int k n)=>[.int k n]
 | .agg l=>lvL l
 | _=>[]
def lvL{H:Type}:List (DataW H)->List Value
 | []=>[]
 | d::r=>qp d++lvL r
end
theorem wE{H:Type}:∀(a b:List (DataW H)),lvL (a++b)=lvL a++lvL b
 | [],b=>rfl
 | x::a,b=>by rw[List.cons_append,lvL,lvL,wE a b,List.append_assoc]
section
variable {H:Type}{enc:TypeId×Value->H}{P:Program}{w:World}{base:Nat}{sp:Nat->Bool}{held:Bool}{fuel:Nat}{t e:TypeId}{n s:Nat}{cs:List Value}{d:DataW H}{p:List MemPlace}
theorem qw{k:IntKind}(ht:P.underlying t=some (.int k))(h:DataW.trod enc P w base sp held fuel t cs=some (d,p)):cs=qp d:=by
 obtain⟨n,rfl,hx,_⟩:=DataW.trod_int ht h
 obtain⟨rfl,-⟩:=Prod.mk.inj hx
 rfl
theorem A2V(xs:List (DataW H×List MemPlace))(hs:cs.length=xs.length*s)(hel:∀ i b,xs[i]?=some b->(cs.drop (i*s)).take s=qp b.1):cs=lvL (xs.map (·.1)):=by
 have key:∀ i,i<=xs.length->cs.take (i*s)=lvL ((xs.map (·.1)).take i):=by
  intro i
  induction i with
  | zero=>intro _;simp[lvL]
  | succ i ih =>
   intro hi
   have hlt:i<xs.length:=zaa
   have h1:=hel i xs[i] (List.getElem?_eq_getElem hlt)
   have h2:(xs.map (·.1)).take (i+1)=(xs.map (·.1)).take i++[(xs[i]).1]:=by
    rw[List.take_succ_eq_append_getElem (by simpa using hlt)];simp
   rw[h2,wE,<-ih zaa,show lvL [(xs[i]).1]=qp (xs[i]).1 from by simp[lvL],<-h1,Nat.add_mul,Nat.one_mul,List.take_add]
 have:=key xs.length (Nat.le_refl _)
 rw[List.take_of_length_le zaa,List.take_of_length_le zak] at this
 exact this
theorem rC(ht:P.underlying t=some (.array n e))(hce:P.cellsOf e=s)(hct:P.cellsOf t=n*s)(hel:∀ fuel cs d p,DataW.trod enc P w base sp held fuel e cs=some (d,p)->cs=qp d)(h:DataW.trod enc P w base sp held fuel t cs=some (d,p)):cs=qp d:=by
 cases fuel with
 | zero=>simp[DataW.trod] at h
 | succ fuel =>
  simp only[DataW.trod,ht,hce,hct] at h
  split at h
  ·rename_i hl
   obtain⟨xs,hm,hx⟩:=Option.map_eq_some_iff.1 h
   obtain⟨rfl,-⟩:=Prod.mk.inj hx
   have hxl:xs.length=n:=by simpa using Lib.mapM_length hm
   rw[qp]
   refine A2V (s:=s) xs (by rw[hl,hxl]) fun i b hb=>?_
   have hi:i<n:=by rw[<-hxl];exact(List.getElem?_eq_some_iff.1 hb).1
   obtain⟨b',hb',hf⟩:=Lib.mapM_at hm i i (by simp[hi])
   obtain rfl:=Option.some.inj (hb.symm.trans hb')
   exact hel _ _ b.1 b.2 hf
  ·cases h
theorem A9d{fs:Array Field}(ht:P.underlying t=some (.struct fs))(hct:P.cellsOf t=fs.size)(hf:∀(i:Nat) (f:Field),fs[i]?=some f->f.offset=i/\P.cellsOf f.type=1/\P.underlying f.type=some (.int .i64))(h:DataW.trod enc P w base sp held fuel t cs=some (d,p)):cs=qp d:=by
 obtain⟨xs,m,rfl,hx,hl,hxl,hg⟩:=DataW.trod_struct ht h
 obtain⟨rfl,-⟩:=Prod.mk.inj hx
 rw[qp]
 refine A2V (s:=1) xs (by rw[hl,hct,hxl,Nat.mul_one]) fun i b hb=>?_
 have hi:i<fs.size:=by rw[<-hxl];exact(List.getElem?_eq_some_iff.1 hb).1
 obtain⟨q1,q2,q3⟩:=hf i fs[i] (Array.getElem?_eq_getElem hi)
 have h2:=hg i fs[i] (Array.getElem?_eq_getElem hi)
 rw[q1,q2,hb] at h2
 rw[Nat.mul_one]
 exact qw (d:=b.1) (p:=b.2) q3 h2
end
theorem wF{P:Program}{W:World}:∀ {l:List (String×DataW Unit)} {ps:List MemPlace},DataW.LaidVars P W l ps->∀ x∈l,∃ g t cs fuel p,P.globalNamed x.1=some g/\(P.globals[g]?).map (·.type)=some t/\W.var? P x.1=some cs/\DataW.trod (fun _=>()) P W 0 (fun _=>true) false fuel t cs.toList=some (x.2,p)
 | [],_,_,x,hx=>by cases hx
 | (n,d)::r,ps,h,x,hx=>by
  obtain⟨g,t,cs,fuel,p,q,h1,h2,h3,h4,h5,-⟩:=h
  rcases List.mem_cons.1 hx with rfl|hx
  ·exact⟨g,t,cs,fuel,p,h1,h2,h3,h4⟩
  ·exact wF h5 x hx
theorem Uu{P:Program}{W:World}{l:List (String×DataW Unit)}(h:laidMet P l W){x:String×DataW Unit}(hx:x∈l){g:Nat}{t:TypeId}(hg:P.globalNamed x.1=some g)(hty:(P.globals[g]?).map (·.type)=some t)
  (hel:∀ fuel cs p,DataW.trod (fun _=>()) P W 0 (fun _=>true) false fuel t cs=some (x.2,p)->cs=qp x.2) (j:Nat):W.cell? ⟨g,j,none⟩=(qp x.2)[j]?:=by
 obtain⟨ps,hl,-⟩:=h
 obtain⟨g',t',cs,fuel,p,h1,h2,h3,h4⟩:=wF hl x hx
 obtain rfl:=Option.some.inj (hg.symm.trans h1)
 obtain rfl:=Option.some.inj (hty.symm.trans h2)
 rw[World.var?_cell hg h3 j,<-hel _ _ _ h4,Array.getElem?_toList]
abbrev A2W:List (String×DataW Unit):=Rows.topReplayRow.laid
theorem kt{W:World}(h:laidMetH Tryz.prog A2W W):KT W:=by
 have h':laidMet Tryz.prog A2W W:=h
 have q0:=fun j=>Uu h' (x:=("sealwright/digest.round256", Rows.laid_sealwright_digest_round256)) (by exact List.mem_cons_self ..) (g:=2) (t:=129) zaj zaj
  (fun fuel cs p hh=>rC (s:=1) Tryz.underlying129 zaj zaj (fun fuel cs d p=>qw Tryz.underlying128) hh) j
 have q1:=fun j=>Uu h' (x:=("sealwright/command.magic", Rows.laid_sealwright_command_magic)) (by exact List.mem_cons_of_mem _ (List.mem_cons_self ..)) (g:=0) (t:=244) zaj zaj
  (fun fuel cs p hh=>rC (s:=1) Tryz.underlying244 zaj zaj (fun fuel cs d p=>qw Tryz.underlying5) hh) j
 have q2:=fun j=>Uu h' (x:=("sealwright/command.forms", Rows.laid_sealwright_command_forms)) (by exact List.mem_cons_of_mem _ (List.mem_cons_of_mem _ (List.mem_cons_self ..))) (g:=1) (t:=247) zaj zaj
  (fun fuel cs p hh=>rC (s:=5) Tryz.underlying247 zaj zaj (fun fuel cs d p=>A9d Tryz.underlying246 zaj (fun i f hf=>by
   rcases i with _|_|_|_|_|i
   all_goals first|(obtain rfl:=Option.some.inj hf;exact⟨rfl,by kernel_rfl,Tryz.underlying3⟩)|exact absurd (Array.getElem?_eq_some_iff.1 hf).1 zak)) hh) j
 have e0:(qp (Rows.laid_sealwright_digest_round256:DataW Unit))=Iz.map wordV:=zaj
 have e1:(qp (Rows.laid_sealwright_command_magic:DataW Unit))=magicV:=zaj
 have e2:(qp (Rows.laid_sealwright_command_forms:DataW Unit))=formsV:=zaj
 refine⟨fun j hj=>?_,fun j u hu=>?_,fun j u hu=>?_⟩
 ·rw[Nat.zero_add,q0 j,e0,List.getElem?_map,List.getD_eq_getElem?_getD,List.getElem?_eq_getElem (show j<Iz.length from hj)];rfl
 ·rw[q2 j,e2];exact hu
 ·rw[q1 j,e1];exact hu
def A2X(d:DataW Unit):Obj->Obj
 | .cells _ t frozen=>.cells (qp d).toArray t frozen
 | o=>o
noncomputable def laidWorld(os:Os):World :=
 {World.holding Tryz.prog os ⟨#[],#[],[]⟩ with heap:=((((((World.holding Tryz.prog os ⟨#[],#[],[]⟩).heap.modify 2 (A2X Rows.laid_sealwright_digest_round256)).modify 0 (A2X Rows.laid_sealwright_command_magic)).modify 1 (A2X Rows.laid_sealwright_command_forms)).modify 5 (A2X Rows.laid_unicode_utf8_acceptRanges)).modify 4 (A2X Rows.laid_unicode_utf8_first))}
theorem hI0{w:World}(h:laidMetH Tryz.prog A2W w):∀ w',Ext w w'->I0 w':=fun w' he=>(kt h).ext he
end Go.Proofs.YtanagnimhaemgaaGreatDoor
namespace Go.Proofs.YtanagnimhaemgaaGreatDoor
open Go
variable (P:Program)(X:List (List Char))
def iniH:List Char:=([104,97,114,110,101,115,115]:List Nat).map Char.ofNat
def iniS:List Char:=([50,54,97,57,97,97,53,101,57,97,57,101,101,97,53,52,97,101,57,48,54,57,56,101,102,49,51,51,54,101,54,51,52,57,101,53,57,102,54,53,49,50,50,57,99,97,52,54,50,56,102,55,51,102,56,50,101,98,52,99,55,100,101,49]:List Nat).map Char.ofNat
def iniC:List Char:=([99,117,116]:List Nat).map Char.ofNat
def iniR:List Char:=([97,116,32,115,101,97,108,119,114,105,103,104,116,47,115,101,97,108,119,114,105,103,104,116,116,111,112,46,84,111,112,76,111,99,107,111,117,116,32,115,101,97,108,119,114,105,103,104,116,47,115,101,97,108,119,114,105,103,104,116,116,111,112,46,84,111,112,82,101,112,108,97,121,32,115,101,97,108,119,114,105,103,104,116,47,115,101,97,108,119,114,105,103,104,116,116,111,112,46,84,111,112,81,117,111,116,101,115,32,115,101,97,108,119,114,105,103,104,116,47,115,101,97,108,119,114,105,103,104,116,116,111,112,46,84,111,112,67,108,101,97,114]:List Nat).map Char.ofNat
def iniB:Char:=Char.ofNat 32
def iniL:List Char:=iniH++iniB::(iniS++iniB::(iniC++iniB::iniR))
theorem ABx:Tryz.prog.initOrder=String.ofList iniL:=zaj
theorem QJ:∀(w r:List Char),(w.all fun c=>c != iniB)=true->wordsSigns (w++iniB::r)=w::wordsSigns r
 | [],r,_=>rfl
 | c::w,r,h=>by
  rw[List.all_cons,Bool.and_eq_true] at h
  have ih:=QJ w r h.2
  rw[List.cons_append]
  have hc:c≠iniB:=by intro e;rw[e] at h;exact absurd h.1 zad
  generalize wordsSigns r=g at ih ⊢
  unfold wordsSigns
  split
  ·rename_i h1;cases h1
  ·rename_i h1;cases h1;exact absurd rfl hc
  ·rename_i h1;cases h1;rw[ih]
theorem A9e:wordsSigns Tryz.prog.initOrder.toList=iniH::iniS::iniC::wordsSigns iniR:=by
 rw[ABx,String.toList_ofList,iniL,QJ _ _ zaA,QJ _ _ zaA,QJ _ _ zaA]
theorem tl{s:String}(l:List Char)(h:s=String.ofList l):s.toList=l:=by rw[h];exact String.toList_ofList
theorem A8L: "gc".toList=(([103,99]:List Nat).map Char.ofNat):=tl _ zaj
theorem A2Y: "spec".toList=(([115,112,101,99]:List Nat).map Char.ofNat):=tl _ zaj
theorem A2Z: "carried".toList=(([99,97,114,114,105,101,100]:List Nat).map Char.ofNat):=tl _ zaj
theorem tlCut: "cut".toList=iniC:=tl _ zaj
theorem A7D: "harness".toList=iniH:=tl _ zaj
theorem A9f: "finals".toList=(([102,105,110,97,108,115]:List Nat).map Char.ofNat):=tl _ zaj
theorem ABy: "reflectrows".toList=(([114,101,102,108,101,99,116,114,111,119,115]:List Nat).map Char.ofNat):=tl _ zaj
theorem ABz: "leanrows".toList=(([108,101,97,110,114,111,119,115]:List Nat).map Char.ofNat):=tl _ zaj
theorem AC0: "onebuild".toList=(([111,110,101,98,117,105,108,100]:List Nat).map Char.ofNat):=tl _ zaj
theorem AC1: "publicsums".toList=(([112,117,98,108,105,99,115,117,109,115]:List Nat).map Char.ofNat):=tl _ zaj
theorem AC2: "eqguard".toList=(([101,113,103,117,97,114,100]:List Nat).map Char.ofNat):=tl _ zaj
theorem AC3: "ownunsafe".toList=(([111,119,110,117,110,115,97,102,101]:List Nat).map Char.ofNat):=tl _ zaj
theorem AC4: "libbeside".toList=(([108,105,98,98,101,115,105,100,101]:List Nat).map Char.ofNat):=tl _ zaj
theorem AC5: "ownbeside".toList=(([111,119,110,98,101,115,105,100,101]:List Nat).map Char.ofNat):=tl _ zaj
theorem AC6: "reflbeside".toList=(([114,101,102,108,98,101,115,105,100,101]:List Nat).map Char.ofNat):=tl _ zaj
theorem A9g: "aliases".toList=(([97,108,105,97,115,101,115]:List Nat).map Char.ofNat):=tl _ zaj
theorem A9h: "afterinit".toList=(([97,102,116,101,114,105,110,105,116]:List Nat).map Char.ofNat):=tl _ zaj
theorem A9i: "crcplain".toList=(([99,114,99,112,108,97,105,110]:List Nat).map Char.ofNat):=tl _ zaj
theorem A9j: "roadunsafe".toList=(([114,111,97,100,117,110,115,97,102,101]:List Nat).map Char.ofNat):=tl _ zaj
theorem A9k: "fmthandon".toList=(([102,109,116,104,97,110,100,111,110]:List Nat).map Char.ofNat):=tl _ zaj
theorem Fz(o:String)(os:List String)(l w:List Char)(ws:List (List Char))(h:o.toList=l)(hw:(w==l)=false):stripLifts (o::os) (w::ws)=stripLifts os (w::ws):=by
 rw[stripLifts,h,hw,if_neg zad]
theorem A7E:stripLifts liftWords (iniC::X)=([],iniC::X):=by
 unfold liftWords
 rw[Fz _ _ _ _ _ A9f zaA]
 rw[Fz _ _ _ _ _ ABy zaA]
 rw[Fz _ _ _ _ _ ABz zaA]
 rw[Fz _ _ _ _ _ AC0 zaA]
 rw[Fz _ _ _ _ _ AC1 zaA]
 rw[Fz _ _ _ _ _ AC2 zaA]
 rw[Fz _ _ _ _ _ AC3 zaA]
 rw[Fz _ _ _ _ _ AC4 zaA]
 rw[Fz _ _ _ _ _ AC5 zaA]
 rw[Fz _ _ _ _ _ AC6 zaA]
 rw[Fz _ _ _ _ _ A9g zaA]
 rw[Fz _ _ _ _ _ A9h zaA]
 rw[Fz _ _ _ _ _ A9i zaA]
 rw[Fz _ _ _ _ _ A9j zaA]
 rw[Fz _ _ _ _ _ A9k zaA]
 rfl
theorem A9l:behindMainWord (iniH::iniS::iniC::X)=iniC::X:=by
 unfold behindMainWord;rw[A7D];kernel_rfl
theorem A2a:behindMainWord (wordsSigns Tryz.prog.initOrder.toList)=iniC::wordsSigns iniR:=by rw[A9e,A9l]
theorem A7F(h:behindMainWord (wordsSigns P.initOrder.toList)=iniC::X):P.headLifts=[]:=by
 unfold Program.headLifts
 simp only[h,A7E,tlCut]
 rfl
theorem A9m(h:behindMainWord (wordsSigns P.initOrder.toList)=iniC::X)(h1:P.laysLater=false)(h2:P.bearsReflect=false)(h3:P.doorFits []=true):P.mayEnter=true:=by
 unfold Program.mayEnter
 simp only[h,A7E,tlCut,A8L,A2Y,A2Z,h1,h2,h3]
 rfl
theorem A8M(h:behindMainWord (wordsSigns P.initOrder.toList)=iniC::X):P.make=some .cut:=by
 unfold Program.make
 simp only[h,A7F P X h,tlCut,A8L,A2Y,A2Z,A9f]
 rw[if_neg zaA,if_pos (by rw[show(iniC==iniC)=true from by decide +kernel];rfl)]
theorem A9n(h:behindMainWord (wordsSigns P.initOrder.toList)=iniC::X):P.liftsFinal=false:=by
 unfold Program.liftsFinal
 simp only[h,A7F P X h,tlCut,A8L,A2Z]
 rfl
theorem A9o: "26a9aa5e9a9eea54ae90698ef1336e6349e59f651229ca4628f73f82eb4c7de1".toList=iniS:=tl _ zaj
theorem A8N(h:wordsSigns P.initOrder.toList=iniH::iniS::X):P.mainIs=some (true,iniS):=by
 unfold Program.mainIs
 simp only[h,A7D]
 rw[if_neg (by rw[show isSumSigns iniS=true from by decide +kernel];decide),if_pos zaA]
theorem AC7:Tryz.prog.mainIs=some (true, "26a9aa5e9a9eea54ae90698ef1336e6349e59f651229ca4628f73f82eb4c7de1".toList):=by rw[A9o];exact A8N _ _ A9e
theorem AC8:Tryz.prog.mayEnter=true:=A9m _ _ A2a zaj zaj zaj
theorem AC9:Tryz.prog.liftsFinal=false:=A9n _ _ A2a
theorem ACA:Tryz.prog.make=some .cut:=A8M _ _ A2a
end Go.Proofs.YtanagnimhaemgaaGreatDoor
namespace Go.Proofs.YtanagnimhaemgaaGreatDoor
open Go Go.Ax Go.Eng
variable (b:List UInt8)(x h0 h1 h2 h3 h4 h5 h6 h7:UInt32)
section
attribute [local irreducible] Bl CQ CS Bo Bg Ar CU Dw EN Dy EC Bf BU Bv Bz and' C9 CB BK Au BA BL BN Aa Ad AP AZ CV Dq CW DI CE BP BM BF BG BB AU BC Ae Ap Ai CX BH Bh Ba BO CG CY CJ fits CZ CO A8 AA Ac
theorem Iq(k:Int)(s:Nat)(h0:0<s/\s<32)(hk:(BA .and (BP k) (UInt64.ofNat 31)).toNat=s):Y E0 (.call 279 [.u32 x,.i k] [])=some (.ret (.u32 (xw x s)) []):=by
 refine BX ?_
 exact congrArg (fun q=>some (Rsp.ret (.u32 q) [])) (A88 x s h0 hk)
theorem A5i:Y E0 (.call 279 [.u32 x,.i (-7)] [])=some (.ret (.u32 (Jj x 7)) []):=(Iq x (-7) 25 zad zaP).trans (by rw[KG x 25 7 rfl])
theorem A2b:Y E0 (.call 279 [.u32 x,.i (-18)] [])=some (.ret (.u32 (Jj x 18)) []):=(Iq x (-18) 14 zad zaP).trans (by rw[KG x 14 18 rfl])
theorem A2c:Y E0 (.call 279 [.u32 x,.i (-17)] [])=some (.ret (.u32 (Jj x 17)) []):=(Iq x (-17) 15 zad zaP).trans (by rw[KG x 15 17 rfl])
theorem A2d:Y E0 (.call 279 [.u32 x,.i (-19)] [])=some (.ret (.u32 (Jj x 19)) []):=(Iq x (-19) 13 zad zaP).trans (by rw[KG x 13 19 rfl])
theorem A5j:Y E0 (.call 279 [.u32 x,.i (-6)] [])=some (.ret (.u32 (Jj x 6)) []):=(Iq x (-6) 26 zad zaP).trans (by rw[KG x 26 6 rfl])
theorem A2e:Y E0 (.call 279 [.u32 x,.i (-11)] [])=some (.ret (.u32 (Jj x 11)) []):=(Iq x (-11) 21 zad zaP).trans (by rw[KG x 21 11 rfl])
theorem A2f:Y E0 (.call 279 [.u32 x,.i (-25)] [])=some (.ret (.u32 (Jj x 25)) []):=(Iq x (-25) 7 zad zaP).trans (by rw[KG x 7 25 rfl])
theorem A5k:Y E0 (.call 279 [.u32 x,.i (-2)] [])=some (.ret (.u32 (Jj x 2)) []):=(Iq x (-2) 30 zad zaP).trans (by rw[KG x 30 2 rfl])
theorem A2g:Y E0 (.call 279 [.u32 x,.i (-13)] [])=some (.ret (.u32 (Jj x 13)) []):=(Iq x (-13) 19 zad zaP).trans (by rw[KG x 19 13 rfl])
theorem A2h:Y E0 (.call 279 [.u32 x,.i (-22)] [])=some (.ret (.u32 (Jj x 22)) []):=(Iq x (-22) 10 zad zaP).trans (by rw[KG x 10 22 rfl])
theorem A5l:Y E0 (.call 279 [.u32 x,.i 1] [])=some (.ret (.u32 (xw x 1)) []):=Iq x 1 1 zad zaP
theorem A5m:Y E0 (.call 279 [.u32 x,.i 5] [])=some (.ret (.u32 (xw x 5)) []):=Iq x 5 5 zad zaP
theorem A2i:Y E0 (.call 279 [.u32 x,.i 30] [])=some (.ret (.u32 (xw x 30)) []):=Iq x 30 30 zad zaP
theorem KI(k:UInt64)(s:Nat)(h0:0<s/\s<32)(hk:k.toNat=s):Y E0 (.call 58 [.u32 x,.u64 k] [])=some (.ret (.u32 (Jj x s)) []):=by
 refine BX ?_
 exact congrArg (fun q=>some (Rsp.ret (.u32 q) [])) (A89 x s h0 hk)
theorem A8O:Y E0 (.call 58 [.u32 x,.u64 (UInt64.ofNat 7)] [])=some (.ret (.u32 (Jj x 7)) []):=KI x _ 7 zad rfl
theorem A5n:Y E0 (.call 58 [.u32 x,.u64 (UInt64.ofNat 18)] [])=some (.ret (.u32 (Jj x 18)) []):=KI x _ 18 zad rfl
theorem A5o:Y E0 (.call 58 [.u32 x,.u64 (UInt64.ofNat 17)] [])=some (.ret (.u32 (Jj x 17)) []):=KI x _ 17 zad rfl
theorem A5p:Y E0 (.call 58 [.u32 x,.u64 (UInt64.ofNat 19)] [])=some (.ret (.u32 (Jj x 19)) []):=KI x _ 19 zad rfl
theorem A8P:Y E0 (.call 58 [.u32 x,.u64 (UInt64.ofNat 6)] [])=some (.ret (.u32 (Jj x 6)) []):=KI x _ 6 zad rfl
theorem A5q:Y E0 (.call 58 [.u32 x,.u64 (UInt64.ofNat 11)] [])=some (.ret (.u32 (Jj x 11)) []):=KI x _ 11 zad rfl
theorem A5r:Y E0 (.call 58 [.u32 x,.u64 (UInt64.ofNat 25)] [])=some (.ret (.u32 (Jj x 25)) []):=KI x _ 25 zad rfl
theorem A8Q:Y E0 (.call 58 [.u32 x,.u64 (UInt64.ofNat 2)] [])=some (.ret (.u32 (Jj x 2)) []):=KI x _ 2 zad rfl
theorem A5s:Y E0 (.call 58 [.u32 x,.u64 (UInt64.ofNat 13)] [])=some (.ret (.u32 (Jj x 13)) []):=KI x _ 13 zad rfl
theorem A5t:Y E0 (.call 58 [.u32 x,.u64 (UInt64.ofNat 22)] [])=some (.ret (.u32 (Jj x 22)) []):=KI x _ 22 zad rfl
theorem wG(l:List UInt8)(i:Nat)(h:4*i+3<l.length)(hl:l.length<=4294967296):Y E0 (.call 278 [.sl .u8 l,.i (i:Int)] [])=some (.ret (.u32 (be32 l (4*i))) []):=by
 refine BX ?_
 rw[D8 zaa]
 conv=>lhs;whnf
 refine BX ?_
 rw[D8 zaa]
 conv=>lhs;whnf
 refine BX ?_
 rw[D8 zaa]
 conv=>lhs;whnf
 refine BX ?_
 rw[D8 zaa]
 conv=>lhs;whnf
 refine BX ?_
 exact congrArg (fun q=>some (Rsp.ret (.u32 q) [])) (vZ l (4*i) (List.getElem?_eq_some_iff.2 ⟨by omega,getElem_congr_idx zaa⟩) (List.getElem?_eq_some_iff.2 ⟨by omega,getElem_congr_idx zaa⟩) (List.getElem?_eq_some_iff.2 ⟨by omega,getElem_congr_idx zaa⟩) (List.getElem?_eq_some_iff.2 ⟨by omega,getElem_congr_idx zaa⟩))
theorem A2j(l:List UInt8)(i:Nat)(h:4*i+3<l.length)(hl:l.length<=4294967296):Y E0 (.call 57 [.sl .u8 l,.i (i:Int)] [])=some (.ret (.u32 (be32 l (4*i))) []):=by
 refine BX ?_
 rw[D8 zaa]
 conv=>lhs;whnf
 refine BX ?_
 rw[D8 zaa]
 conv=>lhs;whnf
 refine BX ?_
 rw[D8 zaa]
 conv=>lhs;whnf
 refine BX ?_
 rw[D8 zaa]
 conv=>lhs;whnf
 refine BX ?_
 exact congrArg (fun q=>some (Rsp.ret (.u32 q) [])) (vZ l (4*i) (List.getElem?_eq_some_iff.2 ⟨by omega,getElem_congr_idx zaa⟩) (List.getElem?_eq_some_iff.2 ⟨by omega,getElem_congr_idx zaa⟩) (List.getElem?_eq_some_iff.2 ⟨by omega,getElem_congr_idx zaa⟩) (List.getElem?_eq_some_iff.2 ⟨by omega,getElem_congr_idx zaa⟩))
theorem A2k:Y E0 (.call 55 [] [])=some (.ret (.agg ((List.range 64).map fun i=>AV.u32 (Iz.getD i 0))) []):=by
 rw[AO];kernel_rfl
end
section
attribute [local irreducible] Bl CQ CS Bo Bg Ar CU Dw EN Dy EC Bf BU Bv Bz and' C9 CB BK Au BA BL BN Aa Ad AP AZ CV Dq CW DI CE BP BM BF BG BB AU BC Ae Ap Ai CX BH Bh Ba BO CG CY CJ fits CZ CO A8 AA Ac
attribute [local irreducible] Fa
theorem Xn{ws s:List UInt32}{t:Nat}{x:UInt32}(h:ws.take t=s)(ht:t<ws.length):(ws.set t x).take (t+1)=s++[x]:=by
 subst h
 rw[List.take_succ_eq_append_getElem (by simpa using ht),List.getElem_set_self,List.take_set_of_le (Nat.le_refl t)]
theorem MZ{ws s:List UInt32}{t j:Nat}(h:ws.take t=s)(hj:j<t):s.getD j 0=ws.getD j 0:=by
 subst h
 simp only[List.getD,List.getElem?_take,if_pos hj]
theorem A7G(ws:List UInt32)(t:Nat)(hs:ws.take t=Dc b t)(h:16<=t):
  Au .add (Au .add (Au .add (Au .xor (Au .xor (Jj (ws.getD (0+((t:Int)-2).toNat*1) 0) 17) (Jj (ws.getD (0+((t:Int)-2).toNat*1) 0) 19)) (AP (ws.getD (0+((t:Int)-2).toNat*1) 0) (UInt64.ofNat 10).toNat)) (ws.getD (0+((t:Int)-7).toNat*1) 0)) (Au .xor (Au .xor (Jj (ws.getD (0+((t:Int)-15).toNat*1) 0) 7) (Jj (ws.getD (0+((t:Int)-15).toNat*1) 0) 18)) (AP (ws.getD (0+((t:Int)-15).toNat*1) 0) (UInt64.ofNat 3).toNat))) (ws.getD (0+((t:Int)-16).toNat*1) 0)=KH b (Dc b t) t:=by
 rw[show 0+((t:Int)-2).toNat*1=t-2 from by omega,show 0+((t:Int)-7).toNat*1=t-7 from by omega,show 0+((t:Int)-15).toNat*1=t-15 from by omega,show 0+((t:Int)-16).toNat*1=t-16 from by omega]
 rw[KH,if_neg zaa,MZ hs (show t-2<t by omega),MZ hs (show t-7<t by omega),MZ hs (show t-15<t by omega),MZ hs (show t-16<t by omega)]
 rw[I7 zad,I7 zad]
 simp only[Jz,JO]
 rfl
theorem wH(b:List UInt8)(h0 h1 h2 h3 h4 h5 h6 h7:UInt32)(hb:b.length=64):∀(k t:Nat) (ws:List UInt32),t+k=64->ws.length=64->ws.take t=Dc b t ->
  Y E0 (.loop 215 0 1 2 [(0,AV.pa 0 0),(1,AV.sl Ty.u8 b),(4,AV.pa 1 0),(17,AV.i t)] [(0,some (.var [.u32 h0,.u32 h1,.u32 h2,.u32 h3,.u32 h4,.u32 h5,.u32 h6,.u32 h7])),(1,some (Rs.var (Fa ws)))])=some (.fin (.exit 0) 2 [(0,AV.pa 0 0),(4,AV.pa 1 0)] [(0,some (.var [.u32 h0,.u32 h1,.u32 h2,.u32 h3,.u32 h4,.u32 h5,.u32 h6,.u32 h7])),(1,some (Rs.var (Fa (Dc b 64))))])
 | 0,t,ws,hk,hw,hs=>by
  have e:ws=Dc b 64:=za4
  rw[<-e]
  rw[AO];conv=>lhs;whnf
  rw[A2I hw (show 64<=t by omega)]
  refine BX ?_
  rfl
 | k+1,t,ws,hk,hw,hs=>by
  have ih:=fun x (hx:x=KH b (Dc b t) t)=>wH b h0 h1 h2 h3 h4 h5 h6 h7 hb k (t+1) (ws.set t x) zaa (by simpa using hw) (by rw[Xn hs zaa,hx];rfl)
  rw[AO];conv=>lhs;whnf
  refine BX ?_
  rcases D7 (↑t) 16 with hc0|hc0
  ·
   refine BX ?_
   rw[wG _ _ Cc Cc]
   conv=>lhs;whnf
   try dsimp -iota -beta -eta -zeta only
   rw[Fg zaa]
   conv=>lhs;whnf
   rw[Dp zaa]
   conv=>lhs;whnf
   try dsimp -iota -beta -eta -zeta only
   rw[LZ zaa];conv=>lhs;whnf
   rw[Nr zaa]
   refine BX ?_
   rw[Kw hw]
   refine BX ?_
   rw[show((t:Int)+1)=((t+1:Nat):Int) from by omega,show 0+((t:Nat):Int).toNat*1=t from by omega];refine(congrArg (Y E0) ?_).trans (ih (be32 b (4*t)) (by rw[KH,if_pos zaa]));rw[Kw hw];rfl
  refine BX ?_
  rw[EK zaa]
  refine BX ?_
  rw[EK zaa]
  refine BX ?_
  rw[A5i _]
  refine BX ?_
  rw[A2b _]
  refine BX ?_
  rw[A2c _]
  refine BX ?_
  rw[A2d _]
  refine BX ?_
  rw[EK zaa]
  refine BX ?_
  rw[EK zaa]
  conv=>lhs;whnf
  try dsimp -iota -beta -eta -zeta only
  rw[Fg zaa]
  conv=>lhs;whnf
  rw[Dp zaa]
  conv=>lhs;whnf
  try dsimp -iota -beta -eta -zeta only
  rw[LZ zaa];conv=>lhs;whnf
  rw[Nr zaa]
  conv=>lhs;whnf
  try dsimp -iota -beta -eta -zeta only
  rw[Kw hw]
  refine BX ?_
  rw[show((t:Int)+1)=((t+1:Nat):Int) from by omega,show 0+((t:Nat):Int).toNat*1=t from by omega];refine(congrArg (Y E0) ?_).trans (ih _ (A7G b ws t hs zaa));rw[Kw hw];rfl
theorem A2l(hb:b.length=64):Y E0 (.loop 215 0 1 2 [(0,AV.pa 0 0),(1,AV.sl Ty.u8 b),(4,AV.pa 1 0),(17,AV.i 0)] [(0,some (.var [.u32 h0,.u32 h1,.u32 h2,.u32 h3,.u32 h4,.u32 h5,.u32 h6,.u32 h7])),(1,some (Rs.var [.u32 0,.u32 0,.u32 0,.u32 0,.u32 0,.u32 0,.u32 0,.u32 0,.u32 0,.u32 0,.u32 0,.u32 0,.u32 0,.u32 0,.u32 0,.u32 0,.u32 0,.u32 0,.u32 0,.u32 0,.u32 0,.u32 0,.u32 0,.u32 0,.u32 0,.u32 0,.u32 0,.u32 0,.u32 0,.u32 0,.u32 0,.u32 0,.u32 0,.u32 0,.u32 0,.u32 0,.u32 0,.u32 0,.u32 0,.u32 0,.u32 0,.u32 0,.u32 0,.u32 0,.u32 0,.u32 0,.u32 0,.u32 0,.u32 0,.u32 0,.u32 0,.u32 0,.u32 0,.u32 0,.u32 0,.u32 0,.u32 0,.u32 0,.u32 0,.u32 0,.u32 0,.u32 0,.u32 0,.u32 0]))])=some (.fin (.exit 0) 2 [(0,AV.pa 0 0),(4,AV.pa 1 0)] [(0,some (.var [.u32 h0,.u32 h1,.u32 h2,.u32 h3,.u32 h4,.u32 h5,.u32 h6,.u32 h7])),(1,some (Rs.var (Fa (Dc b 64))))]):=by
 have e:=wH b h0 h1 h2 h3 h4 h5 h6 h7 hb 64 0 (List.replicate 64 0) rfl rfl rfl
 rw[Dl (ws:=List.replicate 64 0) (n:=64) rfl] at e
 exact e
end
section
attribute [local irreducible] Bl CQ CS Bo Bg Ar CU Dw EN Dy EC Bf BU Bv Bz and' C9 CB BK Au BA BL BN Aa Ad AP AZ CV Dq CW DI CE BP BM BF BG BB AU BC Ae Ap Ai CX BH Bh Ba BO CG CY CJ fits CZ CO A8 AA Ac
attribute [local irreducible] Fa Iz Hu
theorem wI(ws:List UInt32)(hw:ws.length=64)(h0 h1 h2 h3 h4 h5 h6 h7:UInt32):∀(k t:Nat) (a0 a1 a2 a3 a4 a5 a6 a7:UInt32),t+k=64->Y E0 (.loop 215 1 1 3 [(0,AV.pa 0 0),(4,AV.pa 1 0),(10,AV.pa 2 0),(70,AV.i t)] [(0,some (.var [.u32 h0,.u32 h1,.u32 h2,.u32 h3,.u32 h4,.u32 h5,.u32 h6,.u32 h7])),(1,some (Rs.var (Fa ws))),(2,some (.var [.u32 a0,.u32 a1,.u32 a2,.u32 a3,.u32 a4,.u32 a5,.u32 a6,.u32 a7]))])=some (.fin (.exit 2) 2 [(0,AV.pa 0 0),(10,AV.pa 1 0)] [(0,some (.var [.u32 h0,.u32 h1,.u32 h2,.u32 h3,.u32 h4,.u32 h5,.u32 h6,.u32 h7])),(1,some (Rs.var (Fa (Hu ws k t [a0,a1,a2,a3,a4,a5,a6,a7]))))])
 | 0,t,a0,a1,a2,a3,a4,a5,a6,a7,hk=>by
  rw[AO];conv=>lhs;whnf
  refine BX ?_
  unfold Hu Fa;rfl
 | k+1,t,a0,a1,a2,a3,a4,a5,a6,a7,hk=>by
  have ih:=fun s0 s1 s2 s3 s4 s5 s6 s7=>wI ws hw h0 h1 h2 h3 h4 h5 h6 h7 k (t+1) s0 s1 s2 s3 s4 s5 s6 s7 zaa
  rw[AO];conv=>lhs;whnf
  refine BX ?_
  rw[A5j _]
  refine BX ?_
  rw[A2e _]
  refine BX ?_
  rw[A2f _]
  conv=>lhs;whnf
  try dsimp -iota -beta -eta -zeta only
  rw[Fg zaa]
  conv=>lhs;whnf
  rw[Dp zaa]
  conv=>lhs;whnf
  try dsimp -iota -beta -eta -zeta only
  rw[Fg zaa]
  conv=>lhs;whnf
  rw[Dp zaa]
  conv=>lhs;whnf
  rw[A2m zaa]
  refine BX ?_
  rw[EK zaa]
  refine BX ?_
  rw[A5k _]
  refine BX ?_
  rw[A2g _]
  refine BX ?_
  rw[A2h _]
  refine BX ?_
  ((conv in(close _ _ _ _)=>skip);rw[Dl hw])
  refine BX ?_
  rw[show((t:Int)+1)=((t+1:Nat):Int) from by omega];refine((congrArg (Y E0) zbh).trans (ih _ _ _ _ _ _ _ _)).trans ?_;simp only[Jz,JO,LY,show 0+(t:Int).toNat*1=t from by omega];rw[show Hu ws (k+1) t [a0,a1,a2,a3,a4,a5,a6,a7]=Hu ws k (t+1) (Ws (Iz.getD t 0) (ws.getD t 0) [a0,a1,a2,a3,a4,a5,a6,a7]) from by rw[Hu]];rfl
end
section
attribute [local irreducible] Bl CQ CS Bo Bg Ar CU Dw EN Dy EC Bf BU Bv Bz and' C9 CB BK Au BA BL BN Aa Ad AP AZ CV Dq CW DI CE BP BM BF BG BB AU BC Ae Ap Ai CX BH Bh Ba BO CG CY CJ fits CZ CO A8 AA Ac
attribute [local irreducible] Fa Iz Hu
theorem A2n(ws:List UInt32)(hw:ws.length=64)(h0 h1 h2 h3 h4 h5 h6 h7 a0 a1 a2 a3 a4 a5 a6 a7:UInt32):Y E0 (.loop 215 1 1 3 [(0,AV.pa 0 0),(4,AV.pa 1 0),(10,AV.pa 2 0),(70,AV.i 0)] [(0,some (.var [.u32 h0,.u32 h1,.u32 h2,.u32 h3,.u32 h4,.u32 h5,.u32 h6,.u32 h7])),(1,some (Rs.var ((List.range 64).map fun i=>AV.u32 (ws.getD i 0)))),(2,some (.var [.u32 a0,.u32 a1,.u32 a2,.u32 a3,.u32 a4,.u32 a5,.u32 a6,.u32 a7]))])=some (.fin (.exit 2) 2 [(0,AV.pa 0 0),(10,AV.pa 1 0)] [(0,some (.var [.u32 h0,.u32 h1,.u32 h2,.u32 h3,.u32 h4,.u32 h5,.u32 h6,.u32 h7])),(1,some (Rs.var (Fa (Hu ws 64 0 [a0,a1,a2,a3,a4,a5,a6,a7]))))]):=by
 have e:=wI ws hw h0 h1 h2 h3 h4 h5 h6 h7 64 0 a0 a1 a2 a3 a4 a5 a6 a7 rfl
 rw[Dl hw] at e
 exact e
theorem A5u(s0 s1 s2 s3 s4 s5 s6 s7:UInt32):Y E0 (.loop 215 2 1 2 [(0,.pa 0 0),(10,.pa 1 0),(152,.i 0)] [(0,some (.var [.u32 h0,.u32 h1,.u32 h2,.u32 h3,.u32 h4,.u32 h5,.u32 h6,.u32 h7])),(1,some (.var [.u32 s0,.u32 s1,.u32 s2,.u32 s3,.u32 s4,.u32 s5,.u32 s6,.u32 s7]))])=some (.fin (.exit 4) 1 [] [(0,some (.var [.u32 (h0+s0),.u32 (h1+s1),.u32 (h2+s2),.u32 (h3+s3),.u32 (h4+s4),.u32 (h5+s5),.u32 (h6+s6),.u32 (h7+s7)]))]):=by
 refine BX ?_
 refine BX ?_
 refine BX ?_
 refine BX ?_
 refine BX ?_
 refine BX ?_
 refine BX ?_
 refine BX ?_
 refine BX ?_
 simp only[Jz]
theorem A5v(hb:b.length=64):Y E0 (.call 215 [.pa 0 0,.sl .u8 b] [.var [.u32 h0,.u32 h1,.u32 h2,.u32 h3,.u32 h4,.u32 h5,.u32 h6,.u32 h7]])=some (.ret (.tup []) [some (.var ((List.range 8).map fun i=>.u32 ((EG [h0,h1,h2,h3,h4,h5,h6,h7] b).getD i 0)))]):=by
 rw[zA]
 refine BX ?_
 rw[A2l (hb:=Cc) ..]
 refine BX ?_
 ((conv in(close _ _ _ _)=>skip);rw[Dl (JD b 64)])
 refine BX ?_
 (erw[A2n (Dc b 64) (JD b 64)])
 refine BX ?_
 ((conv in(close _ _ _ _)=>skip);rw[Dl (QK (Dc b 64) 64 0 [h0,h1,h2,h3,h4,h5,h6,h7] rfl)])
 refine BX ?_
 rw[A5u ..]
 refine BX ?_
 rfl
end
end Go.Proofs.YtanagnimhaemgaaGreatDoor
