/-
  Own text. What is proved: BoxTampered, in the tied card's form: for every input the law returns true, and each argument reads behind the call as it did. Conditions: none beyond the given statement's own.
-/
import Derived.Test.YtfjcmolccckhhaaDoorMsb
namespace Go.Proofs.YtfjcmolccckhhaaDoor.lBoxTampered
open Go Go.RowKit Go.Eng Go.WideShapes Go.ChangeAt Go.ChangeShapes Go.Ax
set_option linter.unusedVariables false
attribute [local irreducible] Calls Value.okWide
/-- a law's walk in the marked environment, as a contract -/
theorem law_calls1 {f : FuncId} {ins : List AV} (h : Y E1 (.call f ins []) = some (.ret (.b true) [])) {w : World} {args : List Value} (hI : ∀ w', Ext w w' → I0 w') (hr : Reps ⟨fun k => k < 0, fun _ => undef, No, w⟩ ins args) : Calls Tryd.prog f args.toArray w (Ret fun v w' => v = .bool true ∧ Ext w w') := by
  refine Ret.mono (Y_call e1 h (fun _ => undef) No w args ⟨fun b hb => hb.elim, fun w' hs => hI w' hs.ext⟩ hr ⟨(fun k R h => by cases h), (fun k k' R R' b h => by cases h), fun k h => absurd h (has_nil k)⟩) ?_
  rintro v w' ⟨ν', ok⟩
  have h1 := ok.rep
  simp only [Rep] at h1
  refine ⟨h1, (ok.stp.mono fun i _ hh => ?_).ext⟩
  obtain ⟨k, R, hk, _⟩ := hh
  cases hk
theorem ty0 : tysB Tryd.prog 20 (.sl .u8) [22] = true := by kernel_rfl
theorem ty1 : tysB Tryd.prog 20 (.sl .u8) [22] = true := by kernel_rfl
theorem ty2 : tysB Tryd.prog 20 (.sl .u8) [22] = true := by kernel_rfl
theorem ty3 : tysB Tryd.prog 20 (.sl .u8) [22] = true := by kernel_rfl
theorem ty4 : tysB Tryd.prog 20 .i64 [3] = true := by kernel_rfl
theorem ty5 : tysB Tryd.prog 20 .u8 [5] = true := by kernel_rfl
theorem contract (H : Type) (enc : TypeId × Value → H) (W : World) (base : Nat) (args : Array Value) (ds gs : List (DataW H)) (before : List MemPlace)
    (hval : ∀ (j : Nat) t v, Tryd.f3.params[j]? = some t → args[j]? = some v → Value.okWide Tryd.prog W .any base t v)
    (hW : DataW.Whole enc Tryd.prog Tryd.f3.params.toList Rows.boxTamperedSpec.vars false W args.toList ds gs before) (hL : laidMetH Tryd.prog Rows.boxTamperedRow.laid W) :
    Calls Tryd.prog 3 args W fun e W' => ∃ v, e = .returned v ∧ Rows.boxTamperedSpec.post enc Tryd.prog Tryd.f3 false true false false W args v W' := by
  have hW' := hW
  obtain ⟨p, q, hA0, hV, rfl, hfz, hnd⟩ := hW
  have hA : DataW.TrodAll enc Tryd.prog W 0 (fun _ => true) true Tryd.f3.params.toList args.toList ds p := hA0
  rw [Tryd.params3] at hA hval
  obtain ⟨v0, vs0, d0, ds0, p0, q0, hargs, rfl, rfl, h0, r0⟩ := trodAll_cons hA
  obtain ⟨v1, vs1, d1, ds1, p1, q1, rfl, rfl, rfl, h1, r1⟩ := trodAll_cons r0
  obtain ⟨v2, vs2, d2, ds2, p2, q2, rfl, rfl, rfl, h2, r2⟩ := trodAll_cons r1
  obtain ⟨v3, vs3, d3, ds3, p3, q3, rfl, rfl, rfl, h3, r3⟩ := trodAll_cons r2
  obtain ⟨v4, vs4, d4, ds4, p4, q4, rfl, rfl, rfl, h4, r4⟩ := trodAll_cons r3
  obtain ⟨v5, vs5, d5, ds5, p5, q5, rfl, rfl, rfl, h5, r5⟩ := trodAll_cons r4
  obtain ⟨rfl, rfl, rfl⟩ := trodAll_nil r5
  obtain rfl : args = #[v0, v1, v2, v3, v4, v5] := by cases args; simp_all
  obtain ⟨a0, n0, c0, rfl⟩ := okWide_slice Tryd.underlying22 (hval 0 22 v0 rfl rfl)
  obtain ⟨x0, hx0, hw0⟩ := open_cells 20 ty0 h0 (by rw [show Tryd.prog.cellsOf 22 = 1 from by kernel_rfl]; rfl)
  have hr0 := arg_one (N := fun k => k < 0) (ν := fun _ => undef) (x := x0) rfl rfl hx0
  obtain ⟨a1, n1, c1, rfl⟩ := okWide_slice Tryd.underlying22 (hval 1 22 v1 rfl rfl)
  obtain ⟨x1, hx1, hw1⟩ := open_cells 20 ty1 h1 (by rw [show Tryd.prog.cellsOf 22 = 1 from by kernel_rfl]; rfl)
  have hr1 := arg_one (N := fun k => k < 0) (ν := fun _ => undef) (x := x1) rfl rfl hx1
  obtain ⟨a2, n2, c2, rfl⟩ := okWide_slice Tryd.underlying22 (hval 2 22 v2 rfl rfl)
  obtain ⟨x2, hx2, hw2⟩ := open_cells 20 ty2 h2 (by rw [show Tryd.prog.cellsOf 22 = 1 from by kernel_rfl]; rfl)
  have hr2 := arg_one (N := fun k => k < 0) (ν := fun _ => undef) (x := x2) rfl rfl hx2
  obtain ⟨a3, n3, c3, rfl⟩ := okWide_slice Tryd.underlying22 (hval 3 22 v3 rfl rfl)
  obtain ⟨x3, hx3, hw3⟩ := open_cells 20 ty3 h3 (by rw [show Tryd.prog.cellsOf 22 = 1 from by kernel_rfl]; rfl)
  have hr3 := arg_one (N := fun k => k < 0) (ν := fun _ => undef) (x := x3) rfl rfl hx3
  obtain ⟨n4, rfl, -⟩ := open_int Tryd.underlying3 (hval 4 3 v4 rfl rfl) h4
  obtain ⟨x4, hx4, hw4⟩ := open_cells 20 ty4 h4 (by rw [show Tryd.prog.cellsOf 3 = 1 from by kernel_rfl]; rfl)
  have hr4 := arg_one (N := fun k => k < 0) (ν := fun _ => undef) (x := x4) rfl rfl hx4
  obtain ⟨n5, rfl⟩ := open_byte Tryd.underlying5 (hval 5 5 v5 rfl rfl) h5
  obtain ⟨x5, hx5, hw5⟩ := open_cells 20 ty5 h5 (by rw [show Tryd.prog.cellsOf 5 = 1 from by kernel_rfl]; rfl)
  have hr5 := arg_one (N := fun k => k < 0) (ν := fun _ => undef) (x := x5) rfl rfl hx5
  refine (law_calls1 (ev_BoxTampered x0 x1 x2 x3 x4 x5 ) (w := W) (args := [_, _, _, _, _, _]) (hI0 hL) (hr0.app (hr1.app (hr2.app (hr3.app (hr4.app hr5)))))).mono fun e W' h => ?_
  cases e with
  | returned v =>
    obtain ⟨rfl, he⟩ := h
    exact ⟨_, rfl, post_true hW' laidOut (by kernel_rfl) rfl (by kernel_rfl) Tryd.underlying4 rfl rfl rfl he⟩
  | _ => exact h.elim
theorem laid_met (os : Os) : laidMet Tryd.prog Rows.boxTamperedRow.laid ((laidWorld os).forCall (fun _ _ => 0) ⟨#[], #[.slice none 0 0, .slice none 0 0, .slice none 0 0, .slice none 0 0, Value.int .i64 0, Value.int .u8 0], []⟩).memory :=
  laidMet_of_run' 8 (by kernel_rfl) (by kernel_rfl)
theorem reads (os : Os) {H : Type} (enc : TypeId × Value → H) : ∃ places, DataW.whole enc Tryd.prog ((laidWorld os).forCall (fun _ _ => 0) ⟨#[], #[.slice none 0 0, .slice none 0 0, .slice none 0 0, .slice none 0 0, Value.int .i64 0, Value.int .u8 0], []⟩).memory Tryd.f3.params.toList Rows.boxTamperedSpec.vars false (#[.slice none 0 0, .slice none 0 0, .slice none 0 0, .slice none 0 0, Value.int .i64 0, Value.int .u8 0] : Array Value).toList 8 = some ([.nil, .nil, .nil, .nil, .lit (.int .i64 0), .lit (.int .u8 0)], [], places) :=
  ⟨[], by kernel_rfl⟩
set_option maxRecDepth 100000 in
theorem lifted (os : Os) (started : os.Started) (H : Type) (enc : TypeId × Value → H) (F : Stop.Interp) :
    ReturnsInHanded {} Tryd.checked os 3 .any ((OpenSpec.ofChange Rows.boxTamperedSpec).preRow enc Tryd.prog Tryd.f3 Rows.boxTamperedRow.domain false Rows.boxTamperedRow.laid) (((OpenSpec.ofChange Rows.boxTamperedSpec).at F).post enc Tryd.prog Tryd.f3 false true false false) := by
  obtain ⟨places, hx⟩ := reads os enc
  refine returnsInHanded_of_row (C := Tryd.checked) (s := OpenSpec.ofChange Rows.boxTamperedSpec) own started (by kernel_rfl) Tryd.func3
    (witness_row_at (enc := enc) (C := Tryd.checked) false (laidWorld os) #[.slice none 0 0, .slice none 0 0, .slice none 0 0, .slice none 0 0, Value.int .i64 0, Value.int .u8 0] rfl (by kernel_rfl) (by kernel_rfl) (by kernel_rfl)
      (OpenSpec.preRow_of_cond 8 hx (by kernel_rfl) (fun k hk => by cases hk) (by kernel_rfl) (laid_met os))) ?_
  intro W base args ds gs before hval hW _ _ _ hL _ _
  exact contract H enc W base args ds gs before hval hW hL
theorem joined : joinedFacts Tryd.prog 3 Tryd.f3 (OpenSpec.ofChange Rows.boxTamperedSpec).bare Rows.boxTamperedRow = true := by
  unfold joinedFacts; rw [iniM, iniF, iniK]; kernel_rfl
theorem said : Rows.BoxTamperedSaid :=
  OpenClaim.holds_of_cond 3 Tryd.f3 rfl rfl rfl rfl rfl rfl rfl ⟨rfl, rfl, rfl, rfl, rfl⟩ rfl rfl rfl rfl rfl (by kernel_rfl) Tryd.func3 joined
    (of_decide_eq_true (by kernel_rfl)) (by unfold Func.isWrapper; first | (rw [if_pos (by decide +kernel)]; kernel_rfl) | (rw [if_neg (by decide +kernel)]; exact ⟨rfl, rfl⟩))
    (fun os started H enc _ F => by rw [OpenClaim.pre_eq_preRow]; exact lifted os started H enc F)
theorem plain (f : FuncId) (fn : Func) (hf : Tryd.pinned.checked.prog.funcNamed "sealwright/sealwrightlaw4.BoxTampered" = some f) (hfn : Tryd.pinned.checked.prog.funcs[f]? = some fn) :
    false = Tryd.pinned.checked.prog.looks [] ∧ ∀ (j : Nat) t, fn.params[j]? = some t → Tryd.pinned.checked.prog.wantsStandIn t = false := by
  obtain rfl : f = 3 := Option.some.inj ((show Tryd.prog.funcNamed "sealwright/sealwrightlaw4.BoxTampered" = some 3 by kernel_rfl).symm.trans hf) |>.symm
  obtain rfl : fn = Tryd.f3 := (Option.some.inj (Tryd.func3.symm.trans hfn)).symm
  refine ⟨by kernel_rfl, fun j t ht => ?_⟩
  rw [Tryd.params3] at ht
  have hm := Array.mem_of_getElem? ht
  simp only [List.mem_toArray, List.mem_cons, List.not_mem_nil, or_false] at hm
  rcases hm with rfl | rfl | rfl | rfl | rfl | rfl
  · exact (show Tryd.prog.wantsStandIn 22 = false by kernel_rfl)
  · exact (show Tryd.prog.wantsStandIn 22 = false by kernel_rfl)
  · exact (show Tryd.prog.wantsStandIn 22 = false by kernel_rfl)
  · exact (show Tryd.prog.wantsStandIn 22 = false by kernel_rfl)
  · exact (show Tryd.prog.wantsStandIn 3 = false by kernel_rfl)
  · exact (show Tryd.prog.wantsStandIn 5 = false by kernel_rfl)
theorem card : Rows.BoxTamperedCardSaid :=
  Claim7.holds_tied_plain_at .later [] _ _ _ _ said (fun _ h => by cases h) (by kernel_rfl) (fun _ h => by cases h) boxTampered_row_tie rfl ⟨rfl, rfl⟩ iniG rfl plain (by kernel_rfl)
end Go.Proofs.YtfjcmolccckhhaaDoor.lBoxTampered
