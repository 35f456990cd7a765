/-
  Own text. What is proved: ObjectCommands, in the tied card's form: for every input the law returns true, and each argument reads behind the call as it did. Conditions: none beyond the given statement's own.
-/
import Derived.Test.YtnhgnfdbdflhcaaGreatDoorMtab
import Derived.Test.YtnhgnfdbdflhcaaGreatDoorMtbu
namespace Go.Proofs.YtnhgnfdbdflhcaaGreatDoor.lObjectCommands
open Go Go.RowKit Go.Eng Go.WideShapes Go.ChangeAt Go.ChangeShapes Go.Ax
set_option linter.unusedVariables false
attribute [local irreducible] Calls Value.okWide
theorem ty0:JS Tryz.prog 20 .i64 [3]=true:=by kernel_rfl
theorem ty1:JS Tryz.prog 20 (.sl .u8) [22]=true:=by kernel_rfl
theorem ty2:JS Tryz.prog 20 (.sl .u8) [22]=true:=by kernel_rfl
theorem ty3:JS Tryz.prog 20 .i64 [3]=true:=by kernel_rfl
theorem ty4:JS Tryz.prog 20 .i64 [3]=true:=by kernel_rfl
theorem ty5:JS Tryz.prog 20 .i64 [3]=true:=by kernel_rfl
theorem contract(H:Type)(enc:TypeId×Value → H)(W:World)(base:Nat)(args:Array Value)(ds gs:List (DataW H))(before:List MemPlace)
    (hval:∀(j:Nat) t v,Tryz.f5.params[j]?=some t → args[j]?=some v → Value.okWide Tryz.prog W .any base t v)
    (hW:DataW.Whole enc Tryz.prog Tryz.f5.params.toList Rows.objectCommandsSpec.vars false W args.toList ds gs before) (hL:laidMetH Tryz.prog Rows.objectCommandsRow.laid W) :
    Calls Tryz.prog 5 args W fun e W'=>∃ v,e=.returned v ∧ Rows.objectCommandsSpec.post enc Tryz.prog Tryz.f5 false true false false W args v W':=by
  have hW':=hW
  obtain⟨p,q,hA0,hV,rfl,hfz,hnd⟩:=hW
  have hA:DataW.TrodAll enc Tryz.prog W 0 (fun _=>true) true Tryz.f5.params.toList args.toList ds p:=hA0
  rw[Tryz.params5] at hA hval
  obtain⟨v0,vs0,d0,ds0,p0,q0,hargs,rfl,rfl,h0,r0⟩:=trodAll_cons hA
  obtain⟨v1,vs1,d1,ds1,p1,q1,rfl,rfl,rfl,h1,r1⟩:=trodAll_cons r0
  obtain⟨v2,vs2,d2,ds2,p2,q2,rfl,rfl,rfl,h2,r2⟩:=trodAll_cons r1
  obtain⟨v3,vs3,d3,ds3,p3,q3,rfl,rfl,rfl,h3,r3⟩:=trodAll_cons r2
  obtain⟨v4,vs4,d4,ds4,p4,q4,rfl,rfl,rfl,h4,r4⟩:=trodAll_cons r3
  obtain⟨v5,vs5,d5,ds5,p5,q5,rfl,rfl,rfl,h5,r5⟩:=trodAll_cons r4
  obtain⟨rfl,rfl,rfl⟩:=trodAll_nil r5
  obtain rfl:args = #[v0,v1,v2,v3,v4,v5]:=by cases args;simp_all
  obtain⟨n0,rfl,-⟩:=open_int Tryz.underlying3 (hval 0 3 v0 rfl rfl) h0
  obtain⟨x0,hx0,hw0⟩:=Ef 20 ty0 h0 (by rw[show Tryz.prog.cellsOf 3=1 from by kernel_rfl];rfl)
  have hr0:=HY (N:=fun k=>k<0) (ν:=fun _=>undef) (x:=x0) rfl rfl hx0
  obtain⟨a1,n1,c1,rfl⟩:=okWide_slice Tryz.underlying22 (hval 1 22 v1 rfl rfl)
  obtain⟨x1,hx1,hw1⟩:=Ef 20 ty1 h1 (by rw[show Tryz.prog.cellsOf 22=1 from by kernel_rfl];rfl)
  have hr1:=HY (N:=fun k=>k<0) (ν:=fun _=>undef) (x:=x1) rfl rfl hx1
  obtain⟨a2,n2,c2,rfl⟩:=okWide_slice Tryz.underlying22 (hval 2 22 v2 rfl rfl)
  obtain⟨x2,hx2,hw2⟩:=Ef 20 ty2 h2 (by rw[show Tryz.prog.cellsOf 22=1 from by kernel_rfl];rfl)
  have hr2:=HY (N:=fun k=>k<0) (ν:=fun _=>undef) (x:=x2) rfl rfl hx2
  obtain⟨n3,rfl,-⟩:=open_int Tryz.underlying3 (hval 3 3 v3 rfl rfl) h3
  obtain⟨x3,hx3,hw3⟩:=Ef 20 ty3 h3 (by rw[show Tryz.prog.cellsOf 3=1 from by kernel_rfl];rfl)
  have hr3:=HY (N:=fun k=>k<0) (ν:=fun _=>undef) (x:=x3) rfl rfl hx3
  obtain⟨n4,rfl,-⟩:=open_int Tryz.underlying3 (hval 4 3 v4 rfl rfl) h4
  obtain⟨x4,hx4,hw4⟩:=Ef 20 ty4 h4 (by rw[show Tryz.prog.cellsOf 3=1 from by kernel_rfl];rfl)
  have hr4:=HY (N:=fun k=>k<0) (ν:=fun _=>undef) (x:=x4) rfl rfl hx4
  obtain⟨n5,rfl,-⟩:=open_int Tryz.underlying3 (hval 5 3 v5 rfl rfl) h5
  obtain⟨x5,hx5,hw5⟩:=Ef 20 ty5 h5 (by rw[show Tryz.prog.cellsOf 3=1 from by kernel_rfl];rfl)
  have hr5:=HY (N:=fun k=>k<0) (ν:=fun _=>undef) (x:=x5) rfl rfl hx5
  refine(Wi (Vt x0 x1 x2 x3 x4 x5 ) (w:=W) (args:=[_,_,_,_,_,_]) (hI0 hL) (hr0.app (hr1.app (hr2.app (hr3.app (hr4.app hr5)))))).mono fun e W' h=>?_
  cases e with
  | returned v =>
    obtain⟨rfl,he⟩:=h
    exact⟨_,rfl,Wh hW' laidOut (by kernel_rfl) rfl (by kernel_rfl) Tryz.underlying4 rfl rfl rfl he⟩
  | _=>exact h.elim
theorem laid_met(os:Os):laidMet Tryz.prog Rows.objectCommandsRow.laid ((laidWorld os).forCall (fun _ _=>0) ⟨#[],#[Value.int .i64 0,.slice none 0 0,.slice none 0 0,Value.int .i64 0,Value.int .i64 0,Value.int .i64 0],[]⟩).memory :=
  laidMet_of_run' 8 (by kernel_rfl) (by kernel_rfl)
theorem reads(os:Os){H:Type}(enc:TypeId×Value → H):∃ places,DataW.whole enc Tryz.prog ((laidWorld os).forCall (fun _ _=>0) ⟨#[],#[Value.int .i64 0,.slice none 0 0,.slice none 0 0,Value.int .i64 0,Value.int .i64 0,Value.int .i64 0],[]⟩).memory Tryz.f5.params.toList Rows.objectCommandsSpec.vars false (#[Value.int .i64 0,.slice none 0 0,.slice none 0 0,Value.int .i64 0,Value.int .i64 0,Value.int .i64 0]:Array Value).toList 8=some ([.lit (.int .i64 0),.nil,.nil,.lit (.int .i64 0),.lit (.int .i64 0),.lit (.int .i64 0)],[],places) :=
  ⟨[],by kernel_rfl⟩
set_option maxRecDepth 100000 in
theorem lifted(os:Os)(started:os.Started)(H:Type)(enc:TypeId×Value → H)(F:Stop.Interp):
    ReturnsInHanded {} Tryz.checked os 5 .any ((OpenSpec.ofChange Rows.objectCommandsSpec).preRow enc Tryz.prog Tryz.f5 Rows.objectCommandsRow.domain false Rows.objectCommandsRow.laid) (((OpenSpec.ofChange Rows.objectCommandsSpec).at F).post enc Tryz.prog Tryz.f5 false true false false):=by
  obtain⟨places,hx⟩:=reads os enc
  refine returnsInHanded_of_row (C:=Tryz.checked) (s:=OpenSpec.ofChange Rows.objectCommandsSpec) own started (by kernel_rfl) Tryz.func5
    (witness_row_at (enc:=enc) (C:=Tryz.checked) false (laidWorld os) #[Value.int .i64 0,.slice none 0 0,.slice none 0 0,Value.int .i64 0,Value.int .i64 0,Value.int .i64 0] rfl (by kernel_rfl) (by kernel_rfl) (by kernel_rfl)
      (OpenSpec.preRow_of_cond 8 hx (by kernel_rfl) (fun k hk=>by cases hk) (by kernel_rfl) (laid_met os))) ?_
  intro W base args ds gs before hval hW _ _ _ hL _ _
  exact contract H enc W base args ds gs before hval hW hL
theorem joined:joinedFacts Tryz.prog 5 Tryz.f5 (OpenSpec.ofChange Rows.objectCommandsSpec).bare Rows.objectCommandsRow=true:=by
  unfold joinedFacts;rw[A6x,A6y,A6z];kernel_rfl
theorem said:Rows.ObjectCommandsSaid :=
  OpenClaim.holds_of_cond 5 Tryz.f5 rfl rfl rfl rfl rfl rfl rfl ⟨rfl,rfl,rfl,rfl,rfl⟩ rfl rfl rfl rfl rfl (by kernel_rfl) Tryz.func5 joined
    (of_decide_eq_true (by kernel_rfl)) (by unfold Func.isWrapper;first|(rw[if_pos (by decide +kernel)];kernel_rfl)|(rw[if_neg (by decide +kernel)];exact⟨rfl,rfl⟩))
    (fun os started H enc _ F=>by rw[OpenClaim.pre_eq_preRow];exact lifted os started H enc F)
theorem plain(f:FuncId)(fn:Func) (hf:Tryz.pinned.checked.prog.funcNamed "sealwright/sealwrightlaw21.ObjectCommands" = some f) (hfn:Tryz.pinned.checked.prog.funcs[f]?=some fn) :
    false=Tryz.pinned.checked.prog.looks [] ∧ ∀(j:Nat) t,fn.params[j]?=some t → Tryz.pinned.checked.prog.wantsStandIn t=false:=by
  obtain rfl:f=5:=Option.some.inj ((show Tryz.prog.funcNamed "sealwright/sealwrightlaw21.ObjectCommands" = some 5 by kernel_rfl).symm.trans hf) |>.symm
  obtain rfl:fn=Tryz.f5:=(Option.some.inj (Tryz.func5.symm.trans hfn)).symm
  refine⟨by kernel_rfl,fun j t ht=>?_⟩
  rw[Tryz.params5] at ht
  have hm:=Array.mem_of_getElem? ht
  simp only[List.mem_toArray,List.mem_cons,List.not_mem_nil,or_false] at hm
  rcases hm with rfl|rfl|rfl|rfl|rfl|rfl
  · exact(show Tryz.prog.wantsStandIn 3=false by kernel_rfl)
  · exact(show Tryz.prog.wantsStandIn 22=false by kernel_rfl)
  · exact(show Tryz.prog.wantsStandIn 22=false by kernel_rfl)
  · exact(show Tryz.prog.wantsStandIn 3=false by kernel_rfl)
  · exact(show Tryz.prog.wantsStandIn 3=false by kernel_rfl)
  · exact(show Tryz.prog.wantsStandIn 3=false by kernel_rfl)
theorem card:Rows.ObjectCommandsCardSaid :=
  Claim7.holds_tied_plain_at .later [] _ _ _ _ said (fun _ h=>by cases h) (by kernel_rfl) (fun _ h=>by cases h) objectCommands_row_tie rfl ⟨rfl,rfl⟩ A6w rfl plain (by kernel_rfl)
end Go.Proofs.YtnhgnfdbdflhcaaGreatDoor.lObjectCommands
