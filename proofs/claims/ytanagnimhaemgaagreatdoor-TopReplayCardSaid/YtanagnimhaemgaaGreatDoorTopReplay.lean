/-
  Own text. What is proved: TopReplay, in the tied card's form: for every input the law returns true, and each argument reads behind the call as it did. Conditions: none beyond the given statement's own.
-/
import Derived.Test.YtanagnimhaemgaaGreatDoorMtac
import Derived.Test.YtanagnimhaemgaaGreatDoorMtad
import Derived.Test.YtanagnimhaemgaaGreatDoorMtae
import Derived.Test.YtanagnimhaemgaaGreatDoorMtaj
import Derived.Test.YtanagnimhaemgaaGreatDoorMtbc
namespace Go.Proofs.YtanagnimhaemgaaGreatDoor.lTopReplay
open Go Go.RowKit Go.Eng Go.WideShapes Go.ChangeAt Go.ChangeShapes Go.Ax
set_option linter.unusedVariables false
attribute [local irreducible] Calls Value.okWide
theorem nJ:Ij Tryz.prog 20 (.sl .u8) [22]=true:=by kernel_rfl
theorem nK:Ij Tryz.prog 20 (.sl .u8) [22]=true:=by kernel_rfl
theorem nM:Ij Tryz.prog 20 .bool [4]=true:=by kernel_rfl
theorem nN:Ij Tryz.prog 20 .u8 [5]=true:=by kernel_rfl
theorem contract(H:Type)(enc:TypeId×Value → H)(W:World)(base:Nat)(args:Array Value)(ds gs:List (DataW H))(before:List MemPlace)
    (hval:∀(j:Nat) t v,Tryz.f4.params[j]?=some t → args[j]?=some v → Value.okWide Tryz.prog W .any base t v)
    (hW:DataW.Whole enc Tryz.prog Tryz.f4.params.toList Rows.topReplaySpec.vars false W args.toList ds gs before) (hL:laidMetH Tryz.prog Rows.topReplayRow.laid W) :
    Calls Tryz.prog 4 args W fun e W'=>∃ v,e=.returned v ∧ Rows.topReplaySpec.post enc Tryz.prog Tryz.f4 false true false false W args v W':=by
  have hW':=hW
  obtain⟨p,q,hA0,hV,rfl,hfz,hnd⟩:=hW
  have hA:DataW.TrodAll enc Tryz.prog W 0 (fun _=>true) true Tryz.f4.params.toList args.toList ds p:=hA0
  rw[Tryz.params4] at hA hval
  obtain⟨v0,vs0,d0,ds0,p0,q0,hargs,rfl,rfl,h0,r0⟩:=trodAll_cons hA
  obtain⟨v1,vs1,d1,ds1,p1,q1,rfl,rfl,rfl,h1,r1⟩:=trodAll_cons r0
  obtain⟨v2,vs2,d2,ds2,p2,q2,rfl,rfl,rfl,h2,r2⟩:=trodAll_cons r1
  obtain⟨v3,vs3,d3,ds3,p3,q3,rfl,rfl,rfl,h3,r3⟩:=trodAll_cons r2
  obtain⟨rfl,rfl,rfl⟩:=trodAll_nil r3
  obtain rfl:args = #[v0,v1,v2,v3]:=by cases args;simp_all
  obtain⟨a0,n0,c0,rfl⟩:=okWide_slice Tryz.underlying22 (hval 0 22 v0 rfl rfl)
  obtain⟨x0,hx0,hw0⟩:=Ib 20 nJ h0 (by rw[show Tryz.prog.cellsOf 22=1 from by kernel_rfl];rfl)
  have hr0:=NP (N:=fun k=>k<0) (ν:=fun _=>undef) (x:=x0) rfl rfl hx0
  obtain⟨a1,n1,c1,rfl⟩:=okWide_slice Tryz.underlying22 (hval 1 22 v1 rfl rfl)
  obtain⟨x1,hx1,hw1⟩:=Ib 20 nK h1 (by rw[show Tryz.prog.cellsOf 22=1 from by kernel_rfl];rfl)
  have hr1:=NP (N:=fun k=>k<0) (ν:=fun _=>undef) (x:=x1) rfl rfl hx1
  obtain⟨n2,rfl⟩:=okWide_bool Tryz.underlying4 (hval 2 4 v2 rfl rfl)
  obtain⟨x2,hx2,hw2⟩:=Ib 20 nM h2 (by rw[show Tryz.prog.cellsOf 4=1 from by kernel_rfl];rfl)
  have hr2:=NP (N:=fun k=>k<0) (ν:=fun _=>undef) (x:=x2) rfl rfl hx2
  obtain⟨n3,rfl⟩:=VT Tryz.underlying5 (hval 3 5 v3 rfl rfl) h3
  obtain⟨x3,hx3,hw3⟩:=Ib 20 nN h3 (by rw[show Tryz.prog.cellsOf 5=1 from by kernel_rfl];rfl)
  have hr3:=NP (N:=fun k=>k<0) (ν:=fun _=>undef) (x:=x3) rfl rfl hx3
  refine(VU (QU x0 x1 x2 x3 ) (w:=W) (args:=[_,_,_,_]) (hI0 hL) (hr0.app (hr1.app (hr2.app hr3)))).mono fun e W' h=>?_
  cases e with
  | returned v =>
    obtain⟨rfl,he⟩:=h
    exact⟨_,rfl,VS hW' laidOut (by kernel_rfl) rfl (by kernel_rfl) Tryz.underlying4 rfl rfl rfl he⟩
  | _=>exact h.elim
theorem laid_met(os:Os):laidMet Tryz.prog Rows.topReplayRow.laid ((laidWorld os).forCall (fun _ _=>0) ⟨#[],#[.slice none 0 0,.slice none 0 0,Value.bool false,Value.int .u8 0],[]⟩).memory :=
  laidMet_of_run' 8 (by kernel_rfl) (by kernel_rfl)
theorem reads(os:Os){H:Type}(enc:TypeId×Value → H):∃ places,DataW.whole enc Tryz.prog ((laidWorld os).forCall (fun _ _=>0) ⟨#[],#[.slice none 0 0,.slice none 0 0,Value.bool false,Value.int .u8 0],[]⟩).memory Tryz.f4.params.toList Rows.topReplaySpec.vars false (#[.slice none 0 0,.slice none 0 0,Value.bool false,Value.int .u8 0]:Array Value).toList 8=some ([.nil,.nil,.lit (.bool false),.lit (.int .u8 0)],[],places) :=
  ⟨[],by kernel_rfl⟩
set_option maxRecDepth 100000 in
theorem lifted(os:Os)(started:os.Started)(H:Type)(enc:TypeId×Value → H)(F:Stop.Interp):
    ReturnsInHanded {} Tryz.checked os 4 .any ((OpenSpec.ofChange Rows.topReplaySpec).preRow enc Tryz.prog Tryz.f4 Rows.topReplayRow.domain false Rows.topReplayRow.laid) (((OpenSpec.ofChange Rows.topReplaySpec).at F).post enc Tryz.prog Tryz.f4 false true false false):=by
  obtain⟨places,hx⟩:=reads os enc
  refine returnsInHanded_of_row (C:=Tryz.checked) (s:=OpenSpec.ofChange Rows.topReplaySpec) own started (by kernel_rfl) Tryz.func4
    (witness_row_at (enc:=enc) (C:=Tryz.checked) false (laidWorld os) #[.slice none 0 0,.slice none 0 0,Value.bool false,Value.int .u8 0] rfl (by kernel_rfl) (by kernel_rfl) (by kernel_rfl)
      (OpenSpec.preRow_of_cond 8 hx (by kernel_rfl) (fun k hk=>by cases hk) (by kernel_rfl) (laid_met os))) ?_
  intro W base args ds gs before hval hW _ _ _ hL _ _
  exact contract H enc W base args ds gs before hval hW hL
theorem joined:joinedFacts Tryz.prog 4 Tryz.f4 (OpenSpec.ofChange Rows.topReplaySpec).bare Rows.topReplayRow=true:=by
  unfold joinedFacts;rw[lF,lG,lH];kernel_rfl
theorem said:Rows.TopReplaySaid :=
  OpenClaim.holds_of_cond 4 Tryz.f4 rfl rfl rfl rfl rfl rfl rfl ⟨rfl,rfl,rfl,rfl,rfl⟩ rfl rfl rfl rfl rfl (by kernel_rfl) Tryz.func4 joined
    (of_decide_eq_true (by kernel_rfl)) (by unfold Func.isWrapper;first|(rw[if_pos (by decide +kernel)];kernel_rfl)|(rw[if_neg (by decide +kernel)];exact⟨rfl,rfl⟩))
    (fun os started H enc _ F=>by rw[OpenClaim.pre_eq_preRow];exact lifted os started H enc F)
theorem plain(f:FuncId)(fn:Func) (hf:Tryz.pinned.checked.prog.funcNamed "sealwright/sealwrighttop.TopReplay" = some f) (hfn:Tryz.pinned.checked.prog.funcs[f]?=some fn) :
    false=Tryz.pinned.checked.prog.looks [] ∧ ∀(j:Nat) t,fn.params[j]?=some t → Tryz.pinned.checked.prog.wantsStandIn t=false:=by
  obtain rfl:f=4:=Option.some.inj ((show Tryz.prog.funcNamed "sealwright/sealwrighttop.TopReplay" = some 4 by kernel_rfl).symm.trans hf) |>.symm
  obtain rfl:fn=Tryz.f4:=(Option.some.inj (Tryz.func4.symm.trans hfn)).symm
  refine⟨by kernel_rfl,fun j t ht=>?_⟩
  rw[Tryz.params4] at ht
  have hm:=Array.mem_of_getElem? ht
  simp only[List.mem_toArray,List.mem_cons,List.not_mem_nil,or_false] at hm
  rcases hm with rfl|rfl|rfl|rfl
  · exact(show Tryz.prog.wantsStandIn 22=false by kernel_rfl)
  · exact(show Tryz.prog.wantsStandIn 22=false by kernel_rfl)
  · exact(show Tryz.prog.wantsStandIn 4=false by kernel_rfl)
  · exact(show Tryz.prog.wantsStandIn 5=false by kernel_rfl)
theorem card:Rows.TopReplayCardSaid :=
  Claim7.holds_tied_plain_at .later [] _ _ _ _ said (fun _ h=>by cases h) (by kernel_rfl) (fun _ h=>by cases h) topReplay_row_tie rfl ⟨rfl,rfl⟩ lD rfl plain (by kernel_rfl)
end Go.Proofs.YtanagnimhaemgaaGreatDoor.lTopReplay
