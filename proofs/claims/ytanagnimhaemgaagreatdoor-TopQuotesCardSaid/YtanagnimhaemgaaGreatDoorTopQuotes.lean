/-
  Own text. What is proved: TopQuotes, in the tied card's form: for every input the law returns true, and each argument reads behind the call as it did. Conditions: none beyond the given statement's own.
-/
import Derived.Test.YtanagnimhaemgaaGreatDoorQtac
import Derived.Test.YtanagnimhaemgaaGreatDoorQtad
import Derived.Test.YtanagnimhaemgaaGreatDoorQtbf
namespace Go.Proofs.YtanagnimhaemgaaGreatDoor.lTopQuotes
open Go Go.RowKit Go.Eng Go.WideShapes Go.ChangeAt Go.ChangeShapes Go.Ax
set_option linter.unusedVariables false
attribute [local irreducible] Calls Value.okWide
theorem ty0:QY Tryz.prog 20 (.sl .u8) [22]=true:=by kernel_rfl
theorem ty1:QY Tryz.prog 20 .i64 [3]=true:=by kernel_rfl
theorem contract(H:Type)(enc:TypeId×Value → H)(W:World)(base:Nat)(args:Array Value)(ds gs:List (DataW H))(before:List MemPlace)
    (hval:∀(j:Nat) t v,Tryz.f5.params[j]?=some t → args[j]?=some v → Value.okWide Tryz.prog W .any base t v)
    (hW:DataW.Whole enc Tryz.prog Tryz.f5.params.toList Rows.topQuotesSpec.vars false W args.toList ds gs before) (hL:laidMetH Tryz.prog Rows.topQuotesRow.laid W) :
    Calls Tryz.prog 5 args W fun e W'=>∃ v,e=.returned v ∧ Rows.topQuotesSpec.post enc Tryz.prog Tryz.f5 false true false false W args v W':=by
  have hW':=hW
  obtain⟨p,q,hA0,hV,rfl,hfz,hnd⟩:=hW
  have hA:DataW.TrodAll enc Tryz.prog W 0 (fun _=>true) true Tryz.f5.params.toList args.toList ds p:=hA0
  rw[Tryz.params5] at hA hval
  obtain⟨v0,vs0,d0,ds0,p0,q0,hargs,rfl,rfl,h0,r0⟩:=trodAll_cons hA
  obtain⟨v1,vs1,d1,ds1,p1,q1,rfl,rfl,rfl,h1,r1⟩:=trodAll_cons r0
  obtain⟨rfl,rfl,rfl⟩:=trodAll_nil r1
  obtain rfl:args = #[v0,v1]:=by cases args;simp_all
  obtain⟨a0,n0,c0,rfl⟩:=okWide_slice Tryz.underlying22 (hval 0 22 v0 rfl rfl)
  obtain⟨x0,hx0,hw0⟩:=Xl 20 ty0 h0 (by rw[show Tryz.prog.cellsOf 22=1 from by kernel_rfl];rfl)
  have hr0:=wC (N:=fun k=>k<0) (ν:=fun _=>undef) (x:=x0) rfl rfl hx0
  obtain⟨n1,rfl,-⟩:=open_int Tryz.underlying3 (hval 1 3 v1 rfl rfl) h1
  obtain⟨x1,hx1,hw1⟩:=Xl 20 ty1 h1 (by rw[show Tryz.prog.cellsOf 3=1 from by kernel_rfl];rfl)
  have hr1:=wC (N:=fun k=>k<0) (ν:=fun _=>undef) (x:=x1) rfl rfl hx1
  refine(yz (gW x0 x1 ) (w:=W) (args:=[_,_]) (hI0 hL) (hr0.app hr1)).mono fun e W' h=>?_
  cases e with
  | returned v =>
    obtain⟨rfl,he⟩:=h
    exact⟨_,rfl,yx hW' laidOut (by kernel_rfl) rfl (by kernel_rfl) Tryz.underlying4 rfl rfl rfl he⟩
  | _=>exact h.elim
theorem laid_met(os:Os):laidMet Tryz.prog Rows.topQuotesRow.laid ((laidWorld os).forCall (fun _ _=>0) ⟨#[],#[.slice none 0 0,Value.int .i64 0],[]⟩).memory :=
  laidMet_of_run' 8 (by kernel_rfl) (by kernel_rfl)
theorem reads(os:Os){H:Type}(enc:TypeId×Value → H):∃ places,DataW.whole enc Tryz.prog ((laidWorld os).forCall (fun _ _=>0) ⟨#[],#[.slice none 0 0,Value.int .i64 0],[]⟩).memory Tryz.f5.params.toList Rows.topQuotesSpec.vars false (#[.slice none 0 0,Value.int .i64 0]:Array Value).toList 8=some ([.nil,.lit (.int .i64 0)],[],places) :=
  ⟨[],by kernel_rfl⟩
set_option maxRecDepth 100000 in
theorem lifted(os:Os)(started:os.Started)(H:Type)(enc:TypeId×Value → H)(F:Stop.Interp):
    ReturnsInHanded {} Tryz.checked os 5 .any ((OpenSpec.ofChange Rows.topQuotesSpec).preRow enc Tryz.prog Tryz.f5 Rows.topQuotesRow.domain false Rows.topQuotesRow.laid) (((OpenSpec.ofChange Rows.topQuotesSpec).at F).post enc Tryz.prog Tryz.f5 false true false false):=by
  obtain⟨places,hx⟩:=reads os enc
  refine returnsInHanded_of_row (C:=Tryz.checked) (s:=OpenSpec.ofChange Rows.topQuotesSpec) own started (by kernel_rfl) Tryz.func5
    (witness_row_at (enc:=enc) (C:=Tryz.checked) false (laidWorld os) #[.slice none 0 0,Value.int .i64 0] rfl (by kernel_rfl) (by kernel_rfl) (by kernel_rfl)
      (OpenSpec.preRow_of_cond 8 hx (by kernel_rfl) (fun k hk=>by cases hk) (by kernel_rfl) (laid_met os))) ?_
  intro W base args ds gs before hval hW _ _ _ hL _ _
  exact contract H enc W base args ds gs before hval hW hL
theorem jA:(Rows.topQuotesRow.inPlace==Tryz.prog.inPlace 5)=true:=by kernel_rfl
theorem jB:(Rows.topQuotesRow.unfollowed==Tryz.prog.unfollowed 5)=true:=by kernel_rfl
theorem jC:(Rows.topQuotesRow.recurses==Tryz.prog.recurses 5)=true:=by kernel_rfl
theorem jD:(Rows.topQuotesRow.named==Tryz.prog.varsNamed 5)=true:=by kernel_rfl
theorem joined:joinedFacts Tryz.prog 5 Tryz.f5 (OpenSpec.ofChange Rows.topQuotesSpec).bare Rows.topQuotesRow=true:=by
  unfold joinedFacts;rw[AC8,AC9,ACA,jA,jB,jC,jD];kernel_rfl
theorem said:Rows.TopQuotesSaid :=
  OpenClaim.holds_of_cond 5 Tryz.f5 rfl rfl rfl rfl rfl rfl rfl ⟨rfl,rfl,rfl,rfl,rfl⟩ rfl rfl rfl rfl rfl (by kernel_rfl) Tryz.func5 joined
    (of_decide_eq_true (by kernel_rfl)) (by unfold Func.isWrapper;first|(rw[if_pos (by decide +kernel)];kernel_rfl)|(rw[if_neg (by decide +kernel)];exact⟨rfl,rfl⟩))
    (fun os started H enc _ F=>by rw[OpenClaim.pre_eq_preRow];exact lifted os started H enc F)
theorem plain(f:FuncId)(fn:Func) (hf:Tryz.pinned.checked.prog.funcNamed "sealwright/sealwrighttop.TopQuotes" = some f) (hfn:Tryz.pinned.checked.prog.funcs[f]?=some fn) :
    false=Tryz.pinned.checked.prog.looks [] ∧ ∀(j:Nat) t,fn.params[j]?=some t → Tryz.pinned.checked.prog.wantsStandIn t=false:=by
  obtain rfl:f=5:=Option.some.inj ((show Tryz.prog.funcNamed "sealwright/sealwrighttop.TopQuotes" = some 5 by kernel_rfl).symm.trans hf) |>.symm
  obtain rfl:fn=Tryz.f5:=(Option.some.inj (Tryz.func5.symm.trans hfn)).symm
  refine⟨by kernel_rfl,fun j t ht=>?_⟩
  rw[Tryz.params5] at ht
  have hm:=Array.mem_of_getElem? ht
  simp only[List.mem_toArray,List.mem_cons,List.not_mem_nil,or_false] at hm
  rcases hm with rfl|rfl
  · exact(show Tryz.prog.wantsStandIn 22=false by kernel_rfl)
  · exact(show Tryz.prog.wantsStandIn 3=false by kernel_rfl)
theorem card:Rows.TopQuotesCardSaid :=
  Claim7.holds_tied_plain_at .later [] _ _ _ _ said (fun _ h=>by cases h) (by kernel_rfl) (fun _ h=>by cases h) topQuotes_row_tie rfl ⟨rfl,rfl⟩ AC7 rfl plain (by kernel_rfl)
end Go.Proofs.YtanagnimhaemgaaGreatDoor.lTopQuotes
