/-
  Own text. What is proved: ObjectKinds, in the tied card's form: for every input the law returns true, and each argument reads behind the call as it did. Conditions: none beyond the given statement's own.
-/
import Derived.Test.YtfjcmolccckhhaaGreatDoorMsc
namespace Go.Proofs.YtfjcmolccckhhaaGreatDoor.lObjectKinds
open Go Go.RowKit Go.Eng Go.WideShapes Go.ChangeAt Go.ChangeShapes Go.Ax
set_option linter.unusedVariables false
attribute [local irreducible] Calls Value.okWide
theorem ty0 : tysB Tryz.prog 20 .u8 [5] = true := by kernel_rfl
theorem ty1 : tysB Tryz.prog 20 .u8 [5] = true := by kernel_rfl
theorem ty2 : tysB Tryz.prog 20 (.sl .u8) [22] = true := by kernel_rfl
theorem contract (H : Type) (enc : TypeId × Value → H) (W : World) (base : Nat) (args : Array Value) (ds gs : List (DataW H)) (before : List MemPlace)
    (hval : ∀ (j : Nat) t v, Tryz.f7.params[j]? = some t → args[j]? = some v → Value.okWide Tryz.prog W .any base t v)
    (hW : DataW.Whole enc Tryz.prog Tryz.f7.params.toList Rows.objectKindsSpec.vars false W args.toList ds gs before) (hL : laidMetH Tryz.prog Rows.objectKindsRow.laid W) :
    Calls Tryz.prog 7 args W fun e W' => ∃ v, e = .returned v ∧ Rows.objectKindsSpec.post enc Tryz.prog Tryz.f7 false true false false W args v W' := by
  have hW' := hW
  obtain ⟨p, q, hA0, hV, rfl, hfz, hnd⟩ := hW
  have hA : DataW.TrodAll enc Tryz.prog W 0 (fun _ => true) true Tryz.f7.params.toList args.toList ds p := hA0
  rw [Tryz.params7] at hA hval
  obtain ⟨v0, vs0, d0, ds0, p0, q0, hargs, rfl, rfl, h0, r0⟩ := trodAll_cons hA
  obtain ⟨v1, vs1, d1, ds1, p1, q1, rfl, rfl, rfl, h1, r1⟩ := trodAll_cons r0
  obtain ⟨v2, vs2, d2, ds2, p2, q2, rfl, rfl, rfl, h2, r2⟩ := trodAll_cons r1
  obtain ⟨rfl, rfl, rfl⟩ := trodAll_nil r2
  obtain rfl : args = #[v0, v1, v2] := by cases args; simp_all
  obtain ⟨n0, rfl⟩ := open_byte Tryz.underlying5 (hval 0 5 v0 rfl rfl) h0
  obtain ⟨x0, hx0, hw0⟩ := open_cells 20 ty0 h0 (by rw [show Tryz.prog.cellsOf 5 = 1 from by kernel_rfl]; rfl)
  have hr0 := arg_one (N := fun k => k < 0) (ν := fun _ => undef) (x := x0) rfl rfl hx0
  obtain ⟨n1, rfl⟩ := open_byte Tryz.underlying5 (hval 1 5 v1 rfl rfl) h1
  obtain ⟨x1, hx1, hw1⟩ := open_cells 20 ty1 h1 (by rw [show Tryz.prog.cellsOf 5 = 1 from by kernel_rfl]; rfl)
  have hr1 := arg_one (N := fun k => k < 0) (ν := fun _ => undef) (x := x1) rfl rfl hx1
  obtain ⟨a2, n2, c2, rfl⟩ := okWide_slice Tryz.underlying22 (hval 2 22 v2 rfl rfl)
  obtain ⟨x2, hx2, hw2⟩ := open_cells 20 ty2 h2 (by rw [show Tryz.prog.cellsOf 22 = 1 from by kernel_rfl]; rfl)
  have hr2 := arg_one (N := fun k => k < 0) (ν := fun _ => undef) (x := x2) rfl rfl hx2
  refine (law_calls (ev_ObjectKinds x0 x1 x2 ) (w := W) (args := [_, _, _]) (hI0 hL) (hr0.app (hr1.app hr2))).mono fun e W' h => ?_
  cases e with
  | returned v =>
    obtain ⟨rfl, he⟩ := h
    exact ⟨_, rfl, post_true hW' laidOut (by kernel_rfl) rfl (by kernel_rfl) Tryz.underlying4 rfl rfl rfl he⟩
  | _ => exact h.elim
theorem laid_met (os : Os) : laidMet Tryz.prog Rows.objectKindsRow.laid ((laidWorld os).forCall (fun _ _ => 0) ⟨#[], #[Value.int .u8 0, Value.int .u8 0, .slice none 0 0], []⟩).memory :=
  laidMet_of_run' 8 (by kernel_rfl) (by kernel_rfl)
theorem reads (os : Os) {H : Type} (enc : TypeId × Value → H) : ∃ places, DataW.whole enc Tryz.prog ((laidWorld os).forCall (fun _ _ => 0) ⟨#[], #[Value.int .u8 0, Value.int .u8 0, .slice none 0 0], []⟩).memory Tryz.f7.params.toList Rows.objectKindsSpec.vars false (#[Value.int .u8 0, Value.int .u8 0, .slice none 0 0] : Array Value).toList 8 = some ([.lit (.int .u8 0), .lit (.int .u8 0), .nil], [], places) :=
  ⟨[], by kernel_rfl⟩
set_option maxRecDepth 100000 in
theorem lifted (os : Os) (started : os.Started) (H : Type) (enc : TypeId × Value → H) (F : Stop.Interp) :
    ReturnsInHanded {} Tryz.checked os 7 .any ((OpenSpec.ofChange Rows.objectKindsSpec).preRow enc Tryz.prog Tryz.f7 Rows.objectKindsRow.domain false Rows.objectKindsRow.laid) (((OpenSpec.ofChange Rows.objectKindsSpec).at F).post enc Tryz.prog Tryz.f7 false true false false) := by
  obtain ⟨places, hx⟩ := reads os enc
  refine returnsInHanded_of_row (C := Tryz.checked) (s := OpenSpec.ofChange Rows.objectKindsSpec) own started (by kernel_rfl) Tryz.func7
    (witness_row_at (enc := enc) (C := Tryz.checked) false (laidWorld os) #[Value.int .u8 0, Value.int .u8 0, .slice none 0 0] rfl (by kernel_rfl) (by kernel_rfl) (by kernel_rfl)
      (OpenSpec.preRow_of_cond 8 hx (by kernel_rfl) (fun k hk => by cases hk) (by kernel_rfl) (laid_met os))) ?_
  intro W base args ds gs before hval hW _ _ _ hL _ _
  exact contract H enc W base args ds gs before hval hW hL
theorem joined : joinedFacts Tryz.prog 7 Tryz.f7 (OpenSpec.ofChange Rows.objectKindsSpec).bare Rows.objectKindsRow = true := by
  unfold joinedFacts; rw [iniM, iniF, iniK]; kernel_rfl
theorem said : Rows.ObjectKindsSaid :=
  OpenClaim.holds_of_cond 7 Tryz.f7 rfl rfl rfl rfl rfl rfl rfl ⟨rfl, rfl, rfl, rfl, rfl⟩ rfl rfl rfl rfl rfl (by kernel_rfl) Tryz.func7 joined
    (of_decide_eq_true (by kernel_rfl)) (by unfold Func.isWrapper; first | (rw [if_pos (by decide +kernel)]; kernel_rfl) | (rw [if_neg (by decide +kernel)]; exact ⟨rfl, rfl⟩))
    (fun os started H enc _ F => by rw [OpenClaim.pre_eq_preRow]; exact lifted os started H enc F)
theorem plain (f : FuncId) (fn : Func) (hf : Tryz.pinned.checked.prog.funcNamed "sealwright/sealwrightlaw21.ObjectKinds" = some f) (hfn : Tryz.pinned.checked.prog.funcs[f]? = some fn) :
    false = Tryz.pinned.checked.prog.looks [] ∧ ∀ (j : Nat) t, fn.params[j]? = some t → Tryz.pinned.checked.prog.wantsStandIn t = false := by
  obtain rfl : f = 7 := Option.some.inj ((show Tryz.prog.funcNamed "sealwright/sealwrightlaw21.ObjectKinds" = some 7 by kernel_rfl).symm.trans hf) |>.symm
  obtain rfl : fn = Tryz.f7 := (Option.some.inj (Tryz.func7.symm.trans hfn)).symm
  refine ⟨by kernel_rfl, fun j t ht => ?_⟩
  rw [Tryz.params7] at ht
  have hm := Array.mem_of_getElem? ht
  simp only [List.mem_toArray, List.mem_cons, List.not_mem_nil, or_false] at hm
  rcases hm with rfl | rfl | rfl
  · exact (show Tryz.prog.wantsStandIn 5 = false by kernel_rfl)
  · exact (show Tryz.prog.wantsStandIn 5 = false by kernel_rfl)
  · exact (show Tryz.prog.wantsStandIn 22 = false by kernel_rfl)
theorem card : Rows.ObjectKindsCardSaid :=
  Claim7.holds_tied_plain_at .later [] _ _ _ _ said (fun _ h => by cases h) (by kernel_rfl) (fun _ h => by cases h) objectKinds_row_tie rfl ⟨rfl, rfl⟩ iniG rfl plain (by kernel_rfl)
end Go.Proofs.YtfjcmolccckhhaaGreatDoor.lObjectKinds
