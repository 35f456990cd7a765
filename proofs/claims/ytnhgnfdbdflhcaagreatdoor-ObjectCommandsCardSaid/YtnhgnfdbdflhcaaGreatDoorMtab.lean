/-
  Own texts, laid together for this claim: contracts of functions of the program and its references, used by the statements of this seat.
-/
import Derived.Test.YtnhgnfdbdflhcaaGreatDoorRows
import Derived.Test.YtnhgnfdbdflhcaaGreatDoorCards
import Derived.Test.YtnhgnfdbdflhcaaGreatDoorTie
import Derived.WalkKit
import Derived.ProofKit
import Derived.OpenShut
import Derived.Carry
import Derived.ChangeSlices
import Derived.Deep.DeepHandedRow
import Derived.Lib.LaidTab
import Derived.Test.YtnhgnfdbdflhcaaGreatDoorProg
import Derived.JoinedCond
import Derived.Test.YtnhgnfdbdflhcaaGreatDoorMtaa
set_option linter.all false
set_option maxHeartbeats 40000000
set_option maxRecDepth 100000
namespace Go.Ax
open Go Go.Eng Go.RowKit
def glB(g0:Nat)(tab:List UInt32):TT->Bool
 | []=>true
 | (_,i)::r=>(match i.gl with|[]=>true|(g,l)::[]=>Nat.beq g g0&&decide (l=tab)|_=>false)&&glB g0 tab r
theorem A2m{g0:Nat}{tab:List UInt32}:∀ {T:TT},glB g0 tab T=true->∀ t i g l,UW t T=some i->glk g i.gl=some l->g=g0/\l=tab
 | [],_,t,i,g,l,h,_=>za6
 | (d,v)::r,h,t,i,g,l,h1,h2=>by
  simp only[glB,Bool.and_eq_true] at h
  simp only[UW] at h1
  cases hb:Nat.beq t d with
  | false=>rw[hb] at h1;exact A2m h.2 t i g l h1 h2
  | true =>
   rw[hb] at h1
   obtain rfl:=Option.some.inj h1
   have h3:=h.1
   split at h3
   ·rename_i e;rw[e] at h2;cases h2
   ·rename_i g' l' e
    rw[e] at h2
    simp only[Bool.and_eq_true,decide_eq_true_eq] at h3
    simp only[glk] at h2
    cases hg:Nat.beq g g' with
    | false=>rw[hg] at h2;cases h2
    | true=>rw[hg] at h2;exact⟨(Hl hg).trans (Hl h3.1),(Option.some.inj h2).symm.trans h3.2⟩
   ·cases h3
end Go.Ax
namespace Go.Ax
open Go Go.Eng
def IR(ws:List UInt32):Nat->Nat->List UInt32->List UInt32
 | 0,_,s=>s
 | k+1,t,s=>IR ws k (t+1) (fH (Jb.getD t 0) (ws.getD t 0) s)
theorem ZU(ws s:List UInt32):∀(k t:Nat),IR ws k t (Om ws s t)=Om ws s (t+k)
 | 0,t=>rfl
 | k+1,t=>by rw[show t+(k+1)=t+1+k from by omega,<-ZU ws s k (t+1)];rfl
theorem A34{t:Nat}(h:t<64):BO Jb (t:Int)=some (Jb.getD t 0):=by
 rw[DZ ⟨by omega,by show(t:Int)<64;omega⟩];simp[List.getD,show t<Jb.length from h]
theorem Rk(ws:List UInt32):∀(k t:Nat) (s:List UInt32),s.length=8->(IR ws k t s).length=8
 | 0,_,_,h=>h
 | k+1,t,s,_=>Rk ws k (t+1) _ rfl
theorem A0F(h0 h1 h2 h3 h4 h5 h6 h7:UInt32)(b:List UInt8):FB [h0,h1,h2,h3,h4,h5,h6,h7] b=(List.range 8).map fun i=>[h0,h1,h2,h3,h4,h5,h6,h7].getD i 0+(IR (FM b 64) 64 0 [h0,h1,h2,h3,h4,h5,h6,h7]).getD i 0:=by
 have hl:=Rk (FM b 64) 64 0 [h0,h1,h2,h3,h4,h5,h6,h7] rfl
 rw[FB,<-show IR (FM b 64) 64 0 [h0,h1,h2,h3,h4,h5,h6,h7]=Om (FM b 64) [h0,h1,h2,h3,h4,h5,h6,h7] 64 from ZU _ _ 64 0]
 revert hl
 generalize IR (FM b 64) 64 0 [h0,h1,h2,h3,h4,h5,h6,h7]=l
 intro hl
 match l,hl with
 | [_,_,_,_,_,_,_,_],_=>rfl
end Go.Ax
namespace Go.Proofs.YtnhgnfdbdflhcaaGreatDoor
open Go Go.Ax Go.Eng Go.RowKit
section
attribute [local irreducible] Cc Dn D7 DU DD BA Dp F7 FY FD Ez Ci CS DK DV and' DW DL C9 BR Bh CB CG BG BI Aw BC Dq Fh Dt ER DX Bl CE Bv Bz Bi Az Bg BK Bj BO Du Bc DF BZ BM Cj Di fits Dv Dk Ac Am BH
theorem yJ{P:Program}{I:World->Prop}{f:FuncId}{t:Ty}{l:List (El t)}{s:AV}{H:List (Option Rs)}(h1:l=[]->gZ P I f [.nil] [] s H)(h2:gZ P I f [.sn t l] [] s H):gZ P I f [.sl t l] [] s H:=by
 intro ν O w args hG hR hP
 simp only[Ai,Rep] at hR
 obtain⟨u,_,rfl,hu,rfl⟩:=hR
 obtain⟨cs,hc,a,cap,rfl,h3,h4,h5,h6,h7⟩:=hu w (Stp.refl _ _)
 cases a with
 | none =>
  obtain⟨e1,e2⟩:=h6 rfl
  exact h1 (List.length_eq_zero_iff.1 e1) ν O w _ hG (by simp only[Ai,Rep];exact⟨_,_,rfl,by rw[e1,e2],rfl⟩) hP
 | some p=>exact h2 ν O w _ hG (by simp only[Ai,Rep];exact⟨_,_,rfl,⟨⟨p,_,_,rfl⟩,hu⟩,rfl⟩) hP
def KT(w:World):Prop:=∀ j,j<64->w.cell? ⟨0,0+j,none⟩=some (G7 (Jb.getD j 0))
theorem KT.ext{w w':World}(h:KT w)(he:Ext w w'):KT w':=fun j hj=>jo (h j hj) he
abbrev I0:World->Prop:=KT
theorem tg0:TTok Tryz.prog I0 TT0:=⟨tt0,fun t i g l h1 h2 w hw j x hx=>by
 obtain⟨rfl,rfl⟩:=A2m (g0:=0) (tab:=Jb) (T:=TT0) zas _ _ _ _ h1 h2
 have hj:=(List.getElem?_eq_some_iff.1 hx).1
 have h3:=hw j hj
 rw[Nat.zero_add] at h3
 rw[h3,List.getD,hx];rfl⟩
noncomputable def E00:Env:=⟨TT0,FT0,CT0,fun _=>none⟩
theorem A53:Y E00 (.call 97 [.nil] [])=some (.ret (.nm 0) [some (.row 94 objT [])]):=by
 rw[Ad];conv=>lhs;whnf
theorem A6q(l:List (El objT))(h:l.length<=4294967296):Y E00 (.call 97 [.sn objT l] [])=some (.ret (.nm 0) [some (.row 94 objT l)]):=by
 rw[Ad];conv=>lhs;whnf
 rw[Dy zar]
 conv=>lhs;whnf
 simp only[NO];try with_reducible rfl
theorem A54:Y E00 (.call 164 [.nil] [])=some (.ret (.nm 0) [some (.row 190 J8 [])]):=by
 rw[Ad];conv=>lhs;whnf
theorem A6r(l:List (El J8))(h:l.length<=4294967296):Y E00 (.call 164 [.sn J8 l] [])=some (.ret (.nm 0) [some (.row 190 J8 l)]):=by
 rw[Ad];conv=>lhs;whnf
 rw[Dy zar]
 conv=>lhs;whnf
 simp only[NO];try with_reducible rfl
theorem yK{α:Type}{l:List α}(h:fits l 32768=true):l.length<=4294967296:=by
 simp only[Yd,fits0,decide_eq_true_eq] at h;omega
noncomputable def ovC:Orc:=fun q=>match q with
 | .call f [.sl t l] []=>bif Nat.beq f 97&&decide (t=objT)&&fits l 32768 then some (.ret (.nm 0) [some (.row 94 t l)])
  else bif Nat.beq f 164&&decide (t=J8)&&fits l 32768 then some (.ret (.nm 0) [some (.row 190 t l)])
  else none
 | _=>none
theorem A6s{E:Env}:∀ q r,ovC q=some r->A6f Tryz.prog I0 E q r:=by
 have e00:EnvOK Tryz.prog I0 E00:=⟨tg0,ft0,ct0.get,by kernel_rfl,fun _ _ h=>by cases h⟩
 intro q r h
 unfold ovC at h
 split at h
 ·rename_i f t l
  cases hb:(Nat.beq f 97&&decide (t=objT)&&fits l 32768) with
  | true =>
   rw[hb,cond_true] at h
   simp only[Bool.and_eq_true,decide_eq_true_eq] at hb
   obtain⟨⟨h1,rfl⟩,h3⟩:=hb
   obtain rfl:=Nat.eq_of_beq_eq_true h1
   obtain rfl:=Option.some.inj h
   exact yJ (fun e=>by subst e;exact ZK e00 A53) (ZK e00 (A6q l (yK h3)))
  | false =>
   rw[hb,cond_false] at h
   cases hb2:(Nat.beq f 164&&decide (t=J8)&&fits l 32768) with
   | true =>
    rw[hb2,cond_true] at h
    simp only[Bool.and_eq_true,decide_eq_true_eq] at hb2
    obtain⟨⟨h1,rfl⟩,h3⟩:=hb2
    obtain rfl:=Nat.eq_of_beq_eq_true h1
    obtain rfl:=Option.some.inj h
    exact yJ (fun e=>by subst e;exact ZK e00 A54) (ZK e00 (A6r l (yK h3)))
   | false=>rw[hb2] at h;cases h
 ·cases h
end
end Go.Proofs.YtnhgnfdbdflhcaaGreatDoor
namespace Go.Proofs.YtnhgnfdbdflhcaaGreatDoor
open Go Go.RowKit Go.Eng Go.Ax
noncomputable def E0:Env:=⟨TT0,FT0,CT0,ovC⟩
theorem e0:EnvOK Tryz.prog I0 E0:=⟨tg0,ft0,ct0.get,by kernel_rfl,A6s⟩
theorem A7p{f:Nat}{args:List AV}{H:List Rs}{r:Rsp}(h:E0.ov (.call f args H)=some r):Y E0 (.call f args H)=some r:=by
 rw[Y.eq_1];simp only[CQ];rw[h]
theorem A2n(l:List (El objT))(hl:l.length<=4294967296):Y E0 (.call 97 [.sl objT l] [])=some (.ret (.nm 0) [some (.row 94 objT l)]) :=
 A7p zbb
theorem iP(l:List (El J8))(hl:l.length<=4294967296):Y E0 (.call 164 [.sl J8 l] [])=some (.ret (.nm 0) [some (.row 190 J8 l)]) :=
 A7p zbb
end Go.Proofs.YtnhgnfdbdflhcaaGreatDoor
namespace Go.Proofs.YtnhgnfdbdflhcaaGreatDoor
open Go Go.RowKit Go.Eng Go.ChangeShapes Go.WideShapes Go.ChangeAt Go.Ax
variable {w:World}
theorem XU{H:Type}{enc:TypeId×Value->H}{P:Program}(hl:laidOutB P=true){W W':World}(he:Ext W W'){sp:Nat->Bool}:
  ∀ {ts:List TypeId} {vs:List Value} {ds:List (DataW H)} {ps:List MemPlace},(ts.all fun t=>P.readableRec t&&decide (t<P.types.size))=true ->
  DataW.TrodAll enc P W 0 (fun _=>true) true ts vs ds ps->(∀ p∈ps,p.block<W.heap.size)->(∀ p∈ps,sp p.block=true)->DataW.TrodAll enc P W' 0 sp true ts vs ds ps
 | [],_,_,_,_,h,_,_=>by
  obtain⟨rfl,rfl,rfl⟩:=trodAll_nil h
  exact trodAll_mk0
 | t::ts,_,_,_,hr,h,hlt,hsp=>by
  obtain⟨v,vs1,d,ds1,a,b,rfl,rfl,rfl,h1,h2⟩:=trodAll_cons h
  simp only[List.all_cons,Bool.and_eq_true,decide_eq_true_eq] at hr
  exact⟨a,b,WideElems.Trod_stays hl hr.1.1 hr.1.2 h1 (fun x hx=>he.same (hlt x (by simp[hx]))) (fun x hx=>hsp x (by simp[hx])),
   XU hl he hr.2 h2 (fun x hx=>hlt x (by simp[hx])) (fun x hx=>hsp x (by simp[hx])),rfl⟩
theorem Wh{H:Type}{enc:TypeId×Value->H}{P:Program}{f:Func}{s:ChangeSpec}{W W':World}{args:Array Value}{ds gs:List (DataW H)}{before:List MemPlace}{tb:TypeId}
  (hW:DataW.Whole enc P f.params.toList s.vars false W args.toList ds gs before) (hl:laidOutB P=true) (hr:(f.params.toList.all fun t=>P.readableRec t&&decide (t<P.types.size))=true)
  (hv:s.vars=[]) (hres:f.resultTypes = #[tb]) (htb:P.underlying tb=some .bool) (h1:(s.fn H ds).results=[.lit (.bool true)]) (h2:(s.fn H ds).args=ds) (h3:(s.fn H ds).vars=[]) (he:Ext W W') :
  s.post enc P f false true false false W args (.bool true) W':=by
 have hW':=hW
 have hlt:∀ p∈before,p.block<W.heap.size:=fun p hp=>hW'.lt p hp
 obtain⟨p,q,hA,hV,rfl,hfz,hnd⟩:=hW
 rw[hv] at hV
 obtain⟨rfl,rfl⟩:=trodVars_none hV
 refine⟨ds,[],_,[],p,[],hW',?_,?_,?_,?_,fun h=>by cases h⟩
 ·rw[hres,List.append_nil,h1]
  exact trodAll_cons_mk (shut_bool htb _) trodAll_mk0
 ·rw[List.append_nil,h2]
  exact XU hl he hr hA (fun x hx=>hlt x (by simpa using hx)) (fun x hx=>by simpa using hlt x (by simpa using hx))
 ·rw[List.append_nil,h3,hv];rfl
 ·exact he.frame _
theorem laidOut:laidOutB Tryz.prog=true:=zas
theorem own:ownKnob Tryz.prog.godebug=none:=zas
theorem Wi{f:FuncId}{ins:List AV}(h:Y E0 (.call f ins [])=some (.ret (.b true) [])){args:List Value}(hI:∀ w',Ext w w'->I0 w')(hr:Ai ⟨fun k=>k<0,fun _=>undef,No,w⟩ ins args):Calls Tryz.prog f args.toArray w (Ret fun v w'=>v=.bool true/\Ext w w'):=by
 refine Ret.mono (ZK e0 h (fun _=>undef) No w args ⟨fun b hb=>hb.elim,fun w' hs=>hI w' hs.ext⟩ hr ⟨(fun k R h=>by cases h),(fun k k' R R' b h=>by cases h),fun k h=>absurd h (J3 k)⟩) ?_
 rintro v w' ⟨ν',ok⟩
 have h1:=ok.rep
 simp only[Rep] at h1
 refine⟨h1,(ok.stp.mono fun i _ hh=>?_).ext⟩
 obtain⟨k,R,hk,_⟩:=hh
 cases hk
theorem HY{τ:Ty}{x:El τ}{v:Value}{N:Nat->Prop}{ν:Nat->Value}{a:AV}(hf:flat τ x=[a])(hc:v.cells.toList=[v])(h:CR τ x v.cells.toList w):Ai ⟨N,ν,No,w⟩ [a] [v]:=by
 rw[hc] at h
 have:=CR.reps (c:=⟨N,ν,No,w⟩) (fun w' hs=>h.ext (Stp.ext hs))
 rw[hf] at this;exact this
theorem A55{τ:Ty}{x:El τ}{cs:Array Value}{N:Nat->Prop}{ν:Nat->Value}(h:CR τ x cs.toList w):Ai ⟨N,ν,No,w⟩ [.agg (flat τ x)] [.agg cs]:=by
 have hr:=CR.reps (c:=⟨N,ν,No,w⟩) (fun w' hs=>h.ext (Stp.ext hs))
 refine Ai.one ?_
 simp only[Rep]
 exact⟨cs.toList,by simp,hr,UQ hr⟩
theorem gTab:Tryz.prog.globalNamed "sealwright/digest.round256" = some 0:=zas
theorem A2o:(Tryz.prog.globals[0]?).map (·.type)=some 238:=zas
theorem A2p:Tryz.prog.cellsOf 238=64:=zas
theorem A0E:Tryz.prog.cellsOf 134=1:=zas
def k256i:List Int:=Jb.map fun x=>(x.toNat:Int)
theorem A2q:(Rows.laid_sealwright_digest_round256:DataW Unit)=Lib.tabData .u32 k256i:=zas
theorem kt{W:World} (h:laidMetH Tryz.prog [("sealwright/digest.round256", Rows.laid_sealwright_digest_round256)] W):KT W:=by
 have h':laidMet Tryz.prog [("sealwright/digest.round256", Lib.tabData .u32 k256i)] W:=by
  have:=h
  rw[<-A2q]
  exact h
 have ht:=Lib.tabIs_of_head (rest:=[]) gTab A2o Tryz.underlying238 Tryz.underlying134 A0E A2p h'
 intro j hj
 rw[Nat.zero_add,ht.cell gTab j (show j<k256i.length from hj)]
 have hj':j<Jb.length:=hj
 simp[k256i,List.getD,hj',G7]
noncomputable def laidWorld(os:Os):World :=
 {World.holding Tryz.prog os ⟨#[],#[],[]⟩ with heap:=(World.holding Tryz.prog os ⟨#[],#[],[]⟩).heap.modify 0 fun
   | .cells _ t frozen=>.cells (k256i.map fun z=>Value.int .u32 z).toArray t frozen
   | o=>o}
theorem hI0 (h:laidMetH Tryz.prog [("sealwright/digest.round256", Rows.laid_sealwright_digest_round256)] w):∀ w',Ext w w'->I0 w':=fun w' he=>(kt h).ext he
end Go.Proofs.YtnhgnfdbdflhcaaGreatDoor
namespace Go.Proofs.YtnhgnfdbdflhcaaGreatDoor
open Go
variable (P:Program)(X:List (List Char))
def iniH:List Char:=([104,97,114,110,101,115,115]:List Nat).map Char.ofNat
def iniS:List Char:=([53,49,102,51,53,52,56,101,49,54,52,100,52,54,101,98,101,100,97,50,99,52,48,98,101,49,98,51,53,56,54,55,53,54,50,99,48,57,97,52,50,99,98,52,98,98,102,49,57,48,98,49,57,48,48,51,102,49,102,56,101,50,99,48]:List Nat).map Char.ofNat
def iniC:List Char:=([99,117,116]:List Nat).map Char.ofNat
def iniR:List Char:=([97,116,32,115,101,97,108,119,114,105,103,104,116,47,115,101,97,108,119,114,105,103,104,116,108,97,119,50,49,46,79,98,106,101,99,116,81,117,111,116,101,32,115,101,97,108,119,114,105,103,104,116,47,115,101,97,108,119,114,105,103,104,116,108,97,119,50,49,46,79,98,106,101,99,116,80,114,105,109,97,114,121,32,115,101,97,108,119,114,105,103,104,116,47,115,101,97,108,119,114,105,103,104,116,108,97,119,50,49,46,79,98,106,101,99,116,67,111,109,109,97,110,100,115]:List Nat).map Char.ofNat
def iniB:Char:=Char.ofNat 32
def iniL:List Char:=iniH++iniB::(iniS++iniB::(iniC++iniB::iniR))
theorem A99:Tryz.prog.initOrder=String.ofList iniL:=zas
theorem Rj:∀(w r:List Char),(w.all fun c=>c != iniB)=true->wordsSigns (w++iniB::r)=w::wordsSigns r
 | [],r,_=>rfl
 | c::w,r,h=>by
  rw[List.all_cons,Bool.and_eq_true] at h
  have ih:=Rj w r h.2
  rw[List.cons_append]
  have hc:c≠iniB:=by intro e;rw[e] at h;exact absurd h.1 zal
  generalize wordsSigns r=g at ih ⊢
  unfold wordsSigns
  split
  ·rename_i h1;cases h1
  ·rename_i h1;cases h1;exact absurd rfl hc
  ·rename_i h1;cases h1;rw[ih]
theorem A7q:wordsSigns Tryz.prog.initOrder.toList=iniH::iniS::iniC::wordsSigns iniR:=by
 rw[A99,String.toList_ofList,iniL,Rj _ _ zaI,Rj _ _ zaI,Rj _ _ zaI]
theorem tl{s:String}(l:List Char)(h:s=String.ofList l):s.toList=l:=by rw[h];exact String.toList_ofList
theorem A6t: "gc".toList=(([103,99]:List Nat).map Char.ofNat):=tl _ zas
theorem A2r: "spec".toList=(([115,112,101,99]:List Nat).map Char.ofNat):=tl _ zas
theorem A2s: "carried".toList=(([99,97,114,114,105,101,100]:List Nat).map Char.ofNat):=tl _ zas
theorem tlCut: "cut".toList=iniC:=tl _ zas
theorem A5w: "harness".toList=iniH:=tl _ zas
theorem A7r: "finals".toList=(([102,105,110,97,108,115]:List Nat).map Char.ofNat):=tl _ zas
theorem A9A: "reflectrows".toList=(([114,101,102,108,101,99,116,114,111,119,115]:List Nat).map Char.ofNat):=tl _ zas
theorem A9B: "leanrows".toList=(([108,101,97,110,114,111,119,115]:List Nat).map Char.ofNat):=tl _ zas
theorem A9C: "onebuild".toList=(([111,110,101,98,117,105,108,100]:List Nat).map Char.ofNat):=tl _ zas
theorem A9D: "publicsums".toList=(([112,117,98,108,105,99,115,117,109,115]:List Nat).map Char.ofNat):=tl _ zas
theorem A9E: "eqguard".toList=(([101,113,103,117,97,114,100]:List Nat).map Char.ofNat):=tl _ zas
theorem A9F: "ownunsafe".toList=(([111,119,110,117,110,115,97,102,101]:List Nat).map Char.ofNat):=tl _ zas
theorem A9G: "libbeside".toList=(([108,105,98,98,101,115,105,100,101]:List Nat).map Char.ofNat):=tl _ zas
theorem A9H: "ownbeside".toList=(([111,119,110,98,101,115,105,100,101]:List Nat).map Char.ofNat):=tl _ zas
theorem A9I: "reflbeside".toList=(([114,101,102,108,98,101,115,105,100,101]:List Nat).map Char.ofNat):=tl _ zas
theorem A7s: "aliases".toList=(([97,108,105,97,115,101,115]:List Nat).map Char.ofNat):=tl _ zas
theorem A7t: "afterinit".toList=(([97,102,116,101,114,105,110,105,116]:List Nat).map Char.ofNat):=tl _ zas
theorem A7u: "crcplain".toList=(([99,114,99,112,108,97,105,110]:List Nat).map Char.ofNat):=tl _ zas
theorem A7v: "roadunsafe".toList=(([114,111,97,100,117,110,115,97,102,101]:List Nat).map Char.ofNat):=tl _ zas
theorem A7w: "fmthandon".toList=(([102,109,116,104,97,110,100,111,110]:List Nat).map Char.ofNat):=tl _ zas
theorem Gq(o:String)(os:List String)(l w:List Char)(ws:List (List Char))(h:o.toList=l)(hw:(w==l)=false):stripLifts (o::os) (w::ws)=stripLifts os (w::ws):=by
 rw[stripLifts,h,hw,if_neg zal]
theorem A5x:stripLifts liftWords (iniC::X)=([],iniC::X):=by
 unfold liftWords
 rw[Gq _ _ _ _ _ A7r zaI]
 rw[Gq _ _ _ _ _ A9A zaI]
 rw[Gq _ _ _ _ _ A9B zaI]
 rw[Gq _ _ _ _ _ A9C zaI]
 rw[Gq _ _ _ _ _ A9D zaI]
 rw[Gq _ _ _ _ _ A9E zaI]
 rw[Gq _ _ _ _ _ A9F zaI]
 rw[Gq _ _ _ _ _ A9G zaI]
 rw[Gq _ _ _ _ _ A9H zaI]
 rw[Gq _ _ _ _ _ A9I zaI]
 rw[Gq _ _ _ _ _ A7s zaI]
 rw[Gq _ _ _ _ _ A7t zaI]
 rw[Gq _ _ _ _ _ A7u zaI]
 rw[Gq _ _ _ _ _ A7v zaI]
 rw[Gq _ _ _ _ _ A7w zaI]
 rfl
theorem A7x:behindMainWord (iniH::iniS::iniC::X)=iniC::X:=by
 unfold behindMainWord;rw[A5w];kernel_rfl
theorem A2t:behindMainWord (wordsSigns Tryz.prog.initOrder.toList)=iniC::wordsSigns iniR:=by rw[A7q,A7x]
theorem A5y(h:behindMainWord (wordsSigns P.initOrder.toList)=iniC::X):P.headLifts=[]:=by
 unfold Program.headLifts
 simp only[h,A5x,tlCut]
 rfl
theorem A7y(h:behindMainWord (wordsSigns P.initOrder.toList)=iniC::X)(h1:P.laysLater=false)(h2:P.bearsReflect=false)(h3:P.doorFits []=true):P.mayEnter=true:=by
 unfold Program.mayEnter
 simp only[h,A5x,tlCut,A6t,A2r,A2s,h1,h2,h3]
 rfl
theorem A6u(h:behindMainWord (wordsSigns P.initOrder.toList)=iniC::X):P.make=some .cut:=by
 unfold Program.make
 simp only[h,A5y P X h,tlCut,A6t,A2r,A2s,A7r]
 rw[if_neg zaI,if_pos (by rw[show(iniC==iniC)=true from by decide +kernel];rfl)]
theorem A7z(h:behindMainWord (wordsSigns P.initOrder.toList)=iniC::X):P.liftsFinal=false:=by
 unfold Program.liftsFinal
 simp only[h,A5y P X h,tlCut,A6t,A2s]
 rfl
theorem A80: "51f3548e164d46ebeda2c40be1b35867562c09a42cb4bbf190b19003f1f8e2c0".toList=iniS:=tl _ zas
theorem A6v(h:wordsSigns P.initOrder.toList=iniH::iniS::X):P.mainIs=some (true,iniS):=by
 unfold Program.mainIs
 simp only[h,A5w]
 rw[if_neg (by rw[show isSumSigns iniS=true from by decide +kernel];decide),if_pos zaI]
theorem A6w:Tryz.prog.mainIs=some (true, "51f3548e164d46ebeda2c40be1b35867562c09a42cb4bbf190b19003f1f8e2c0".toList):=by rw[A80];exact A6v _ _ A7q
theorem A6x:Tryz.prog.mayEnter=true:=A7y _ _ A2t zas zas zas
theorem A6y:Tryz.prog.liftsFinal=false:=A7z _ _ A2t
theorem A6z:Tryz.prog.make=some .cut:=A6u _ _ A2t
end Go.Proofs.YtnhgnfdbdflhcaaGreatDoor
namespace Go.Proofs.YtnhgnfdbdflhcaaGreatDoor
open Go Go.Ax Go.Eng
variable (b:List UInt8)(x h0 h1 h2 h3 h4 h5 h6 h7:UInt32)
section
attribute [local irreducible] Cc Dn D7 DU DD BA Dp F7 FY FD Ez Ci CS DK DV and' DW DL C9 BR Bh CB CG BG BI Aw BC Dq Fh Dt ER DX Bl CE Bv Bz Bi Az Bg BK Bj BO Du Bc DF BZ BM Cj Di fits Dv Dk Ac Am BH
theorem JA(k:Int)(s:Nat)(h0:0<s/\s<32)(hk:(Bh .and (Bl k) (UInt64.ofNat 31)).toNat=s):Y E0 (.call 265 [.u32 x,.i k] [])=some (.ret (.u32 (jv x s)) []):=by
 refine BF ?_
 exact congrArg (fun q=>some (Rsp.ret (.u32 q) [])) (A2g x s h0 hk)
theorem A56:Y E0 (.call 265 [.u32 x,.i (-7)] [])=some (.ret (.u32 (PV x 7)) []):=(JA x (-7) 25 zal zaW).trans (by rw[Kz x 25 7 rfl])
theorem A2u:Y E0 (.call 265 [.u32 x,.i (-18)] [])=some (.ret (.u32 (PV x 18)) []):=(JA x (-18) 14 zal zaW).trans (by rw[Kz x 14 18 rfl])
theorem A2v:Y E0 (.call 265 [.u32 x,.i (-17)] [])=some (.ret (.u32 (PV x 17)) []):=(JA x (-17) 15 zal zaW).trans (by rw[Kz x 15 17 rfl])
theorem A2w:Y E0 (.call 265 [.u32 x,.i (-19)] [])=some (.ret (.u32 (PV x 19)) []):=(JA x (-19) 13 zal zaW).trans (by rw[Kz x 13 19 rfl])
theorem A57:Y E0 (.call 265 [.u32 x,.i (-6)] [])=some (.ret (.u32 (PV x 6)) []):=(JA x (-6) 26 zal zaW).trans (by rw[Kz x 26 6 rfl])
theorem A2x:Y E0 (.call 265 [.u32 x,.i (-11)] [])=some (.ret (.u32 (PV x 11)) []):=(JA x (-11) 21 zal zaW).trans (by rw[Kz x 21 11 rfl])
theorem A2y:Y E0 (.call 265 [.u32 x,.i (-25)] [])=some (.ret (.u32 (PV x 25)) []):=(JA x (-25) 7 zal zaW).trans (by rw[Kz x 7 25 rfl])
theorem A58:Y E0 (.call 265 [.u32 x,.i (-2)] [])=some (.ret (.u32 (PV x 2)) []):=(JA x (-2) 30 zal zaW).trans (by rw[Kz x 30 2 rfl])
theorem A2z:Y E0 (.call 265 [.u32 x,.i (-13)] [])=some (.ret (.u32 (PV x 13)) []):=(JA x (-13) 19 zal zaW).trans (by rw[Kz x 19 13 rfl])
theorem A30:Y E0 (.call 265 [.u32 x,.i (-22)] [])=some (.ret (.u32 (PV x 22)) []):=(JA x (-22) 10 zal zaW).trans (by rw[Kz x 10 22 rfl])
theorem A59:Y E0 (.call 265 [.u32 x,.i 1] [])=some (.ret (.u32 (jv x 1)) []):=JA x 1 1 zal zaW
theorem A5A:Y E0 (.call 265 [.u32 x,.i 5] [])=some (.ret (.u32 (jv x 5)) []):=JA x 5 5 zal zaW
theorem A31:Y E0 (.call 265 [.u32 x,.i 30] [])=some (.ret (.u32 (jv x 30)) []):=JA x 30 30 zal zaW
theorem LD(k:UInt64)(s:Nat)(h0:0<s/\s<32)(hk:k.toNat=s):Y E0 (.call 228 [.u32 x,.u64 k] [])=some (.ret (.u32 (PV x s)) []):=by
 refine BF ?_
 exact congrArg (fun q=>some (Rsp.ret (.u32 q) [])) (A6p x s h0 hk)
theorem iQ(k:UInt64)(s:Nat)(h0:0<s/\s<32)(hk:k.toNat=s):Y E0 (.call 320 [.u32 x,.u64 k] [])=some (.ret (.u32 (jv x s)) []):=by
 refine BF ?_
 exact congrArg (fun q=>some (Rsp.ret (.u32 q) [])) (A2g x s h0 hk)
theorem A70:Y E0 (.call 228 [.u32 x,.u64 (UInt64.ofNat 7)] [])=some (.ret (.u32 (PV x 7)) []):=LD x _ 7 zal rfl
theorem A5B:Y E0 (.call 228 [.u32 x,.u64 (UInt64.ofNat 18)] [])=some (.ret (.u32 (PV x 18)) []):=LD x _ 18 zal rfl
theorem A5C:Y E0 (.call 228 [.u32 x,.u64 (UInt64.ofNat 17)] [])=some (.ret (.u32 (PV x 17)) []):=LD x _ 17 zal rfl
theorem A5D:Y E0 (.call 228 [.u32 x,.u64 (UInt64.ofNat 19)] [])=some (.ret (.u32 (PV x 19)) []):=LD x _ 19 zal rfl
theorem A71:Y E0 (.call 228 [.u32 x,.u64 (UInt64.ofNat 6)] [])=some (.ret (.u32 (PV x 6)) []):=LD x _ 6 zal rfl
theorem A5E:Y E0 (.call 228 [.u32 x,.u64 (UInt64.ofNat 11)] [])=some (.ret (.u32 (PV x 11)) []):=LD x _ 11 zal rfl
theorem A5F:Y E0 (.call 228 [.u32 x,.u64 (UInt64.ofNat 25)] [])=some (.ret (.u32 (PV x 25)) []):=LD x _ 25 zal rfl
theorem A72:Y E0 (.call 228 [.u32 x,.u64 (UInt64.ofNat 2)] [])=some (.ret (.u32 (PV x 2)) []):=LD x _ 2 zal rfl
theorem A5G:Y E0 (.call 228 [.u32 x,.u64 (UInt64.ofNat 13)] [])=some (.ret (.u32 (PV x 13)) []):=LD x _ 13 zal rfl
theorem A5H:Y E0 (.call 228 [.u32 x,.u64 (UInt64.ofNat 22)] [])=some (.ret (.u32 (PV x 22)) []):=LD x _ 22 zal rfl
theorem A73:Y E0 (.call 320 [.u32 x,.u64 (UInt64.ofNat 1)] [])=some (.ret (.u32 (jv x 1)) []):=iQ x _ 1 zal rfl
theorem A74:Y E0 (.call 320 [.u32 x,.u64 (UInt64.ofNat 5)] [])=some (.ret (.u32 (jv x 5)) []):=iQ x _ 5 zal rfl
theorem A5I:Y E0 (.call 320 [.u32 x,.u64 (UInt64.ofNat 30)] [])=some (.ret (.u32 (jv x 30)) []):=iQ x _ 30 zal rfl
theorem yL(l:List UInt8)(i:Nat)(h:4*i+3<l.length)(hl:l.length<=4294967296):Y E0 (.call 264 [.sl .u8 l,.i (i:Int)] [])=some (.ret (.u32 (be32 l (4*i))) []):=by
 refine BF ?_
 rw[DZ zaa]
 conv=>lhs;whnf
 refine BF ?_
 rw[DZ zaa]
 conv=>lhs;whnf
 refine BF ?_
 rw[DZ zaa]
 conv=>lhs;whnf
 refine BF ?_
 rw[DZ zaa]
 conv=>lhs;whnf
 refine BF ?_
 exact congrArg (fun q=>some (Rsp.ret (.u32 q) [])) (yH l (4*i) (List.getElem?_eq_some_iff.2 ⟨by omega,getElem_congr_idx zaa⟩) (List.getElem?_eq_some_iff.2 ⟨by omega,getElem_congr_idx zaa⟩) (List.getElem?_eq_some_iff.2 ⟨by omega,getElem_congr_idx zaa⟩) (List.getElem?_eq_some_iff.2 ⟨by omega,getElem_congr_idx zaa⟩))
theorem lm(l:List UInt8)(i:Nat)(h:4*i+3<l.length)(hl:l.length<=4294967296):Y E0 (.call 227 [.sl .u8 l,.i (i:Int)] [])=some (.ret (.u32 (be32 l (4*i))) []):=by
 refine BF ?_
 rw[DZ zaa]
 conv=>lhs;whnf
 refine BF ?_
 rw[DZ zaa]
 conv=>lhs;whnf
 refine BF ?_
 rw[DZ zaa]
 conv=>lhs;whnf
 refine BF ?_
 rw[DZ zaa]
 conv=>lhs;whnf
 refine BF ?_
 exact congrArg (fun q=>some (Rsp.ret (.u32 q) [])) (yH l (4*i) (List.getElem?_eq_some_iff.2 ⟨by omega,getElem_congr_idx zaa⟩) (List.getElem?_eq_some_iff.2 ⟨by omega,getElem_congr_idx zaa⟩) (List.getElem?_eq_some_iff.2 ⟨by omega,getElem_congr_idx zaa⟩) (List.getElem?_eq_some_iff.2 ⟨by omega,getElem_congr_idx zaa⟩))
theorem A32:Y E0 (.call 225 [] [])=some (.ret (.agg ((List.range 64).map fun i=>AV.u32 (Jb.getD i 0))) []):=by
 rw[Ad];kernel_rfl
end
section
attribute [local irreducible] Cc Dn D7 DU DD BA Dp F7 FY FD Ez Ci CS DK DV and' DW DL C9 BR Bh CB CG BG BI Aw BC Dq Fh Dt ER DX Bl CE Bv Bz Bi Az Bg BK Bj BO Du Bc DF BZ BM Cj Di fits Dv Dk Ac Am BH
attribute [local irreducible] GH
theorem V5{ws s:List UInt32}{t:Nat}{x:UInt32}(h:ws.take t=s)(ht:t<ws.length):(ws.set t x).take (t+1)=s++[x]:=by
 subst h
 rw[List.take_succ_eq_append_getElem (by simpa using ht),List.getElem_set_self,List.take_set_of_le (Nat.le_refl t)]
theorem Nb{ws s:List UInt32}{t j:Nat}(h:ws.take t=s)(hj:j<t):s.getD j 0=ws.getD j 0:=by
 subst h
 simp only[List.getD,List.getElem?_take,if_pos hj]
theorem A5z(ws:List UInt32)(t:Nat)(hs:ws.take t=FM b t)(h:16<=t):
  BR .add (BR .add (BR .add (BR .xor (BR .xor (PV (ws.getD (0+((t:Int)-2).toNat*1) 0) 17) (PV (ws.getD (0+((t:Int)-2).toNat*1) 0) 19)) (Aw (ws.getD (0+((t:Int)-2).toNat*1) 0) (UInt64.ofNat 10).toNat)) (ws.getD (0+((t:Int)-7).toNat*1) 0)) (BR .xor (BR .xor (PV (ws.getD (0+((t:Int)-15).toNat*1) 0) 7) (PV (ws.getD (0+((t:Int)-15).toNat*1) 0) 18)) (Aw (ws.getD (0+((t:Int)-15).toNat*1) 0) (UInt64.ofNat 3).toNat))) (ws.getD (0+((t:Int)-16).toNat*1) 0)=Oj b (FM b t) t:=by
 rw[show 0+((t:Int)-2).toNat*1=t-2 from by omega,show 0+((t:Int)-7).toNat*1=t-7 from by omega,show 0+((t:Int)-15).toNat*1=t-15 from by omega,show 0+((t:Int)-16).toNat*1=t-16 from by omega]
 rw[Oj,if_neg zaa,Nb hs (show t-2<t by omega),Nb hs (show t-7<t by omega),Nb hs (show t-15<t by omega),Nb hs (show t-16<t by omega)]
 rw[IW zal,IW zal]
 simp only[J9,H6]
 rfl
theorem yM(b:List UInt8)(h0 h1 h2 h3 h4 h5 h6 h7:UInt32)(hb:b.length=64):∀(k t:Nat) (ws:List UInt32),t+k=64->ws.length=64->ws.take t=FM b t ->
  Y E0 (.loop 213 0 1 2 [(0,AV.pa 0 0),(1,AV.sl Ty.u8 b),(4,AV.pa 1 0),(17,AV.i t)] [(0,some (.var [.u32 h0,.u32 h1,.u32 h2,.u32 h3,.u32 h4,.u32 h5,.u32 h6,.u32 h7])),(1,some (Rs.var (GH ws)))])=some (.fin (.exit 0) 2 [(0,AV.pa 0 0),(4,AV.pa 1 0)] [(0,some (.var [.u32 h0,.u32 h1,.u32 h2,.u32 h3,.u32 h4,.u32 h5,.u32 h6,.u32 h7])),(1,some (Rs.var (GH (FM b 64))))])
 | 0,t,ws,hk,hw,hs=>by
  have e:ws=FM b 64:=zbE
  rw[<-e]
  rw[Ad];conv=>lhs;whnf
  rw[A2h hw (show 64<=t by omega)]
  refine BF ?_
  rfl
 | k+1,t,ws,hk,hw,hs=>by
  have ih:=fun x (hx:x=Oj b (FM b t) t)=>yM b h0 h1 h2 h3 h4 h5 h6 h7 hb k (t+1) (ws.set t x) zaa (by simpa using hw) zbL
  rw[Ad];conv=>lhs;whnf
  refine BF ?_
  rcases AZ (↑t) 16 with hc0|hc0
  ·
   refine BF ?_
   rw[yL _ _ CW CW]
   conv=>lhs;whnf
   try dsimp -iota -beta -eta -zeta only
   rw[Gm zaa]
   conv=>lhs;whnf
   rw[EZ zaa]
   conv=>lhs;whnf
   try dsimp -iota -beta -eta -zeta only
   rw[Jq zaa];conv=>lhs;whnf
   rw[LY zaa]
   refine BF ?_
   rw[JH hw]
   refine BF ?_
   rw[show((t:Int)+1)=((t+1:Nat):Int) from by omega,show 0+((t:Nat):Int).toNat*1=t from by omega];refine(congrArg (Y E0) ?_).trans (ih (be32 b (4*t)) (by rw[Oj,if_pos zaa]));rw[JH hw];rfl
  refine BF ?_
  rw[EJ zaa]
  refine BF ?_
  rw[EJ zaa]
  refine BF ?_
  rw[A56 _]
  refine BF ?_
  rw[A2u _]
  refine BF ?_
  rw[A2v _]
  refine BF ?_
  rw[A2w _]
  refine BF ?_
  rw[EJ zaa]
  refine BF ?_
  rw[EJ zaa]
  conv=>lhs;whnf
  try dsimp -iota -beta -eta -zeta only
  rw[Gm zaa]
  conv=>lhs;whnf
  rw[EZ zaa]
  conv=>lhs;whnf
  try dsimp -iota -beta -eta -zeta only
  rw[Jq zaa];conv=>lhs;whnf
  rw[LY zaa]
  conv=>lhs;whnf
  try dsimp -iota -beta -eta -zeta only
  rw[JH hw]
  refine BF ?_
  rw[show((t:Int)+1)=((t+1:Nat):Int) from by omega,show 0+((t:Nat):Int).toNat*1=t from by omega];refine(congrArg (Y E0) ?_).trans (ih _ (A5z b ws t hs zaa));rw[JH hw];rfl
theorem A33(hb:b.length=64):Y E0 (.loop 213 0 1 2 [(0,AV.pa 0 0),(1,AV.sl Ty.u8 b),(4,AV.pa 1 0),(17,AV.i 0)] [(0,some (.var [.u32 h0,.u32 h1,.u32 h2,.u32 h3,.u32 h4,.u32 h5,.u32 h6,.u32 h7])),(1,some (Rs.var [.u32 0,.u32 0,.u32 0,.u32 0,.u32 0,.u32 0,.u32 0,.u32 0,.u32 0,.u32 0,.u32 0,.u32 0,.u32 0,.u32 0,.u32 0,.u32 0,.u32 0,.u32 0,.u32 0,.u32 0,.u32 0,.u32 0,.u32 0,.u32 0,.u32 0,.u32 0,.u32 0,.u32 0,.u32 0,.u32 0,.u32 0,.u32 0,.u32 0,.u32 0,.u32 0,.u32 0,.u32 0,.u32 0,.u32 0,.u32 0,.u32 0,.u32 0,.u32 0,.u32 0,.u32 0,.u32 0,.u32 0,.u32 0,.u32 0,.u32 0,.u32 0,.u32 0,.u32 0,.u32 0,.u32 0,.u32 0,.u32 0,.u32 0,.u32 0,.u32 0,.u32 0,.u32 0,.u32 0,.u32 0]))])=some (.fin (.exit 0) 2 [(0,AV.pa 0 0),(4,AV.pa 1 0)] [(0,some (.var [.u32 h0,.u32 h1,.u32 h2,.u32 h3,.u32 h4,.u32 h5,.u32 h6,.u32 h7])),(1,some (Rs.var (GH (FM b 64))))]):=by
 have e:=yM b h0 h1 h2 h3 h4 h5 h6 h7 hb 64 0 (List.replicate 64 0) rfl rfl rfl
 rw[D8 (ws:=List.replicate 64 0) (n:=64) rfl] at e
 exact e
end
section
attribute [local irreducible] Cc Dn D7 DU DD BA Dp F7 FY FD Ez Ci CS DK DV and' DW DL C9 BR Bh CB CG BG BI Aw BC Dq Fh Dt ER DX Bl CE Bv Bz Bi Az Bg BK Bj BO Du Bc DF BZ BM Cj Di fits Dv Dk Ac Am BH
attribute [local irreducible] GH Jb IR
theorem yN(ws:List UInt32)(hw:ws.length=64)(h0 h1 h2 h3 h4 h5 h6 h7:UInt32):∀(k t:Nat) (a0 a1 a2 a3 a4 a5 a6 a7:UInt32),t+k=64->Y E0 (.loop 213 1 1 3 [(0,AV.pa 0 0),(4,AV.pa 1 0),(10,AV.pa 2 0),(70,AV.i t)] [(0,some (.var [.u32 h0,.u32 h1,.u32 h2,.u32 h3,.u32 h4,.u32 h5,.u32 h6,.u32 h7])),(1,some (Rs.var (GH ws))),(2,some (.var [.u32 a0,.u32 a1,.u32 a2,.u32 a3,.u32 a4,.u32 a5,.u32 a6,.u32 a7]))])=some (.fin (.exit 2) 2 [(0,AV.pa 0 0),(10,AV.pa 1 0)] [(0,some (.var [.u32 h0,.u32 h1,.u32 h2,.u32 h3,.u32 h4,.u32 h5,.u32 h6,.u32 h7])),(1,some (Rs.var (GH (IR ws k t [a0,a1,a2,a3,a4,a5,a6,a7]))))])
 | 0,t,a0,a1,a2,a3,a4,a5,a6,a7,hk=>by
  rw[Ad];conv=>lhs;whnf
  refine BF ?_
  unfold IR GH;rfl
 | k+1,t,a0,a1,a2,a3,a4,a5,a6,a7,hk=>by
  have ih:=fun s0 s1 s2 s3 s4 s5 s6 s7=>yN ws hw h0 h1 h2 h3 h4 h5 h6 h7 k (t+1) s0 s1 s2 s3 s4 s5 s6 s7 zaa
  rw[Ad];conv=>lhs;whnf
  refine BF ?_
  rw[A57 _]
  refine BF ?_
  rw[A2x _]
  refine BF ?_
  rw[A2y _]
  conv=>lhs;whnf
  try dsimp -iota -beta -eta -zeta only
  rw[Gm zaa]
  conv=>lhs;whnf
  rw[EZ zaa]
  conv=>lhs;whnf
  try dsimp -iota -beta -eta -zeta only
  rw[Gm zaa]
  conv=>lhs;whnf
  rw[EZ zaa]
  conv=>lhs;whnf
  rw[A34 zaa]
  refine BF ?_
  rw[EJ zaa]
  refine BF ?_
  rw[A58 _]
  refine BF ?_
  rw[A2z _]
  refine BF ?_
  rw[A30 _]
  refine BF ?_
  ((conv in(close _ _ _ _)=>skip);rw[D8 hw])
  refine BF ?_
  rw[show((t:Int)+1)=((t+1:Nat):Int) from by omega];refine((congrArg (Y E0) zbg).trans (ih _ _ _ _ _ _ _ _)).trans ?_;simp only[J9,H6,IX,show 0+(t:Int).toNat*1=t from by omega];rw[show IR ws (k+1) t [a0,a1,a2,a3,a4,a5,a6,a7]=IR ws k (t+1) (fH (Jb.getD t 0) (ws.getD t 0) [a0,a1,a2,a3,a4,a5,a6,a7]) from by rw[IR]];rfl
end
section
attribute [local irreducible] Cc Dn D7 DU DD BA Dp F7 FY FD Ez Ci CS DK DV and' DW DL C9 BR Bh CB CG BG BI Aw BC Dq Fh Dt ER DX Bl CE Bv Bz Bi Az Bg BK Bj BO Du Bc DF BZ BM Cj Di fits Dv Dk Ac Am BH
attribute [local irreducible] GH Jb IR
theorem A35(ws:List UInt32)(hw:ws.length=64)(h0 h1 h2 h3 h4 h5 h6 h7 a0 a1 a2 a3 a4 a5 a6 a7:UInt32):Y E0 (.loop 213 1 1 3 [(0,AV.pa 0 0),(4,AV.pa 1 0),(10,AV.pa 2 0),(70,AV.i 0)] [(0,some (.var [.u32 h0,.u32 h1,.u32 h2,.u32 h3,.u32 h4,.u32 h5,.u32 h6,.u32 h7])),(1,some (Rs.var ((List.range 64).map fun i=>AV.u32 (ws.getD i 0)))),(2,some (.var [.u32 a0,.u32 a1,.u32 a2,.u32 a3,.u32 a4,.u32 a5,.u32 a6,.u32 a7]))])=some (.fin (.exit 2) 2 [(0,AV.pa 0 0),(10,AV.pa 1 0)] [(0,some (.var [.u32 h0,.u32 h1,.u32 h2,.u32 h3,.u32 h4,.u32 h5,.u32 h6,.u32 h7])),(1,some (Rs.var (GH (IR ws 64 0 [a0,a1,a2,a3,a4,a5,a6,a7]))))]):=by
 have e:=yN ws hw h0 h1 h2 h3 h4 h5 h6 h7 64 0 a0 a1 a2 a3 a4 a5 a6 a7 rfl
 rw[D8 hw] at e
 exact e
theorem A5J(s0 s1 s2 s3 s4 s5 s6 s7:UInt32):Y E0 (.loop 213 2 1 2 [(0,.pa 0 0),(10,.pa 1 0),(152,.i 0)] [(0,some (.var [.u32 h0,.u32 h1,.u32 h2,.u32 h3,.u32 h4,.u32 h5,.u32 h6,.u32 h7])),(1,some (.var [.u32 s0,.u32 s1,.u32 s2,.u32 s3,.u32 s4,.u32 s5,.u32 s6,.u32 s7]))])=some (.fin (.exit 4) 1 [] [(0,some (.var [.u32 (h0+s0),.u32 (h1+s1),.u32 (h2+s2),.u32 (h3+s3),.u32 (h4+s4),.u32 (h5+s5),.u32 (h6+s6),.u32 (h7+s7)]))]):=by
 refine BF ?_
 refine BF ?_
 refine BF ?_
 refine BF ?_
 refine BF ?_
 refine BF ?_
 refine BF ?_
 refine BF ?_
 refine BF ?_
 simp only[J9]
theorem A5K(hb:b.length=64):Y E0 (.call 213 [.pa 0 0,.sl .u8 b] [.var [.u32 h0,.u32 h1,.u32 h2,.u32 h3,.u32 h4,.u32 h5,.u32 h6,.u32 h7]])=some (.ret (.tup []) [some (.var ((List.range 8).map fun i=>.u32 ((FB [h0,h1,h2,h3,h4,h5,h6,h7] b).getD i 0)))]):=by
 rw[A0F]
 refine BF ?_
 rw[A33 (hb:=CW) ..]
 refine BF ?_
 ((conv in(close _ _ _ _)=>skip);rw[D8 (Ol b 64)])
 refine BF ?_
 (erw[A35 (FM b 64) (Ol b 64)])
 refine BF ?_
 ((conv in(close _ _ _ _)=>skip);rw[D8 (Rk (FM b 64) 64 0 [h0,h1,h2,h3,h4,h5,h6,h7] rfl)])
 refine BF ?_
 rw[A5J ..]
 refine BF ?_
 rfl
end
end Go.Proofs.YtnhgnfdbdflhcaaGreatDoor
