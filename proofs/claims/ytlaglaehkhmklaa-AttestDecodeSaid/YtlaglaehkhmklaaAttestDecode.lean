/-
  Own text. What is proved: AttestDecode: for every input the law returns true, and each argument reads behind the call as it did. Conditions: none beyond the given statement's own.
-/
import Derived.Test.YtlaglaehkhmklaaMsa
namespace Go.Proofs.Ytlaglaehkhmklaa.lAttestDecode
open Go Go.RowKit Go.Eng Go.WideShapes Go.ChangeAt Go.ChangeShapes Go.Ax
set_option linter.unusedVariables false
attribute [local irreducible] Calls
theorem ty0 : tysB Try.prog 20 (.pair (.sl .u8) (.pair (.sl .u8) (.pair .i64 (.pair .i64 (.pair .i64 (.pair .bool (.pair .i64 (.pair (.pair .i64 .i64) (.sl .u8))))))))) [26] = true := by kernel_rfl
theorem ty1 : tysB Try.prog 20 .i64 [3] = true := by kernel_rfl
theorem ty2 : tysB Try.prog 20 .u8 [5] = true := by kernel_rfl
theorem ty3 : tysB Try.prog 20 .i64 [3] = true := by kernel_rfl
theorem ty4 : tysB Try.prog 20 (.sl .u8) [22] = true := by kernel_rfl
theorem contract (H : Type) (enc : TypeId × Value → H) (W : World) (base : Nat) (args : Array Value) (ds gs : List (DataW H)) (before : List MemPlace)
    (hval : ∀ (j : Nat) t v, Try.f4.params[j]? = some t → args[j]? = some v → Value.okWide Try.prog W .any base t v)
    (hW : DataW.Whole enc Try.prog Try.f4.params.toList Rows.attestDecodeSpec.vars false W args.toList ds gs before) :
    Calls Try.prog 4 args W fun e W' => ∃ v, e = .returned v ∧ Rows.attestDecodeSpec.post enc Try.prog Try.f4 false true false false W args v W' := by
  have hW' := hW
  obtain ⟨p, q, hA0, hV, rfl, hfz, hnd⟩ := hW
  have hA : DataW.TrodAll enc Try.prog W 0 (fun _ => true) true Try.f4.params.toList args.toList ds p := hA0
  rw [Try.params4] at hA hval
  obtain ⟨v0, vs0, d0, ds0, p0, q0, hargs, rfl, rfl, h0, r0⟩ := trodAll_cons hA
  obtain ⟨v1, vs1, d1, ds1, p1, q1, rfl, rfl, rfl, h1, r1⟩ := trodAll_cons r0
  obtain ⟨v2, vs2, d2, ds2, p2, q2, rfl, rfl, rfl, h2, r2⟩ := trodAll_cons r1
  obtain ⟨v3, vs3, d3, ds3, p3, q3, rfl, rfl, rfl, h3, r3⟩ := trodAll_cons r2
  obtain ⟨v4, vs4, d4, ds4, p4, q4, rfl, rfl, rfl, h4, r4⟩ := trodAll_cons r3
  obtain ⟨rfl, rfl, rfl⟩ := trodAll_nil r4
  obtain rfl : args = #[v0, v1, v2, v3, v4] := by cases args; simp_all
  obtain ⟨cs0, rfl, hcs0⟩ := okWide_struct Try.underlying26 (hval 0 26 v0 rfl rfl)
  obtain ⟨x0, hx0, hw0⟩ := open_cells 20 ty0 h0 (by simpa [Value.cells] using hcs0)
  obtain ⟨k, o, u, v, c, s, y, ⟨s0, s1⟩, g⟩ := x0
  have hr0 := arg_agg (N := fun k => k < 0) (ν := fun _ => undef) hx0
  obtain ⟨n1, rfl, -⟩ := open_int Try.underlying3 (hval 1 3 v1 rfl rfl) h1
  obtain ⟨x1, hx1, hw1⟩ := open_cells 20 ty1 h1 (by rw [show Try.prog.cellsOf 3 = 1 from by kernel_rfl]; rfl)
  have hr1 := arg_one (N := fun k => k < 0) (ν := fun _ => undef) (x := x1) rfl rfl hx1
  obtain ⟨n2, rfl⟩ := open_byte Try.underlying5 (hval 2 5 v2 rfl rfl) h2
  obtain ⟨x2, hx2, hw2⟩ := open_cells 20 ty2 h2 (by rw [show Try.prog.cellsOf 5 = 1 from by kernel_rfl]; rfl)
  have hr2 := arg_one (N := fun k => k < 0) (ν := fun _ => undef) (x := x2) rfl rfl hx2
  obtain ⟨n3, rfl, -⟩ := open_int Try.underlying3 (hval 3 3 v3 rfl rfl) h3
  obtain ⟨x3, hx3, hw3⟩ := open_cells 20 ty3 h3 (by rw [show Try.prog.cellsOf 3 = 1 from by kernel_rfl]; rfl)
  have hr3 := arg_one (N := fun k => k < 0) (ν := fun _ => undef) (x := x3) rfl rfl hx3
  obtain ⟨a4, n4, c4, rfl⟩ := okWide_slice Try.underlying22 (hval 4 22 v4 rfl rfl)
  obtain ⟨x4, hx4, hw4⟩ := open_cells 20 ty4 h4 (by rw [show Try.prog.cellsOf 22 = 1 from by kernel_rfl]; rfl)
  have hr4 := arg_one (N := fun k => k < 0) (ν := fun _ => undef) (x := x4) rfl rfl hx4
  refine (law_calls (ev_decode ⟨k, o, u, v, c, s, y, s0, s1, g⟩ x1 x2 x3 x4 ) (w := W) (args := [_, _, _, _, _]) (fun _ _ => trivial) (hr0.app (hr1.app (hr2.app (hr3.app hr4))))).mono fun e W' h => ?_
  cases e with
  | returned v =>
    obtain ⟨rfl, he⟩ := h
    exact ⟨_, rfl, post_true hW' laidOut (by kernel_rfl) rfl (by kernel_rfl) Try.underlying4 rfl rfl rfl he⟩
  | _ => exact h.elim
noncomputable def w0 (os : Os) : World := World.holding Try.prog os ⟨#[], #[], []⟩
theorem laid_met (os : Os) : laidMet Try.prog Rows.attestDecodeRow.laid ((w0 os).forCall (fun _ _ => 0) ⟨#[], #[Value.agg #[.slice none 0 0, .slice none 0 0, .int .i64 0, .int .i64 0, .int .i64 0, .bool false, .int .i64 0, .int .i64 0, .int .i64 0, .slice none 0 0], Value.int .i64 0, Value.int .u8 0, Value.int .i64 0, .slice none 0 0], []⟩).memory :=
  laidMet_of_run' 8 (by kernel_rfl) (by kernel_rfl)
theorem reads (os : Os) {H : Type} (enc : TypeId × Value → H) : ∃ places, DataW.whole enc Try.prog ((w0 os).forCall (fun _ _ => 0) ⟨#[], #[Value.agg #[.slice none 0 0, .slice none 0 0, .int .i64 0, .int .i64 0, .int .i64 0, .bool false, .int .i64 0, .int .i64 0, .int .i64 0, .slice none 0 0], Value.int .i64 0, Value.int .u8 0, Value.int .i64 0, .slice none 0 0], []⟩).memory Try.f4.params.toList Rows.attestDecodeSpec.vars false (#[Value.agg #[.slice none 0 0, .slice none 0 0, .int .i64 0, .int .i64 0, .int .i64 0, .bool false, .int .i64 0, .int .i64 0, .int .i64 0, .slice none 0 0], Value.int .i64 0, Value.int .u8 0, Value.int .i64 0, .slice none 0 0] : Array Value).toList 8 = some ([.agg [.nil, .nil, .lit (.int .i64 0), .lit (.int .i64 0), .lit (.int .i64 0), .lit (.bool false), .lit (.int .i64 0), .agg [.lit (.int .i64 0), .lit (.int .i64 0)], .nil], .lit (.int .i64 0), .lit (.int .u8 0), .lit (.int .i64 0), .nil], [], places) :=
  ⟨[], by kernel_rfl⟩
set_option maxRecDepth 100000 in
theorem lifted (os : Os) (started : os.Started) (H : Type) (enc : TypeId × Value → H) (F : Stop.Interp) :
    ReturnsInHanded {} Try.checked os 4 .any ((OpenSpec.ofChange Rows.attestDecodeSpec).preRow enc Try.prog Try.f4 Rows.attestDecodeRow.domain false Rows.attestDecodeRow.laid) (((OpenSpec.ofChange Rows.attestDecodeSpec).at F).post enc Try.prog Try.f4 false true false false) := by
  obtain ⟨places, hx⟩ := reads os enc
  refine returnsInHanded_of_row (C := Try.checked) (s := OpenSpec.ofChange Rows.attestDecodeSpec) own started (by kernel_rfl) Try.func4
    (witness_row_at (enc := enc) (C := Try.checked) false (w0 os) #[Value.agg #[.slice none 0 0, .slice none 0 0, .int .i64 0, .int .i64 0, .int .i64 0, .bool false, .int .i64 0, .int .i64 0, .int .i64 0, .slice none 0 0], Value.int .i64 0, Value.int .u8 0, Value.int .i64 0, .slice none 0 0] rfl (by kernel_rfl) (by kernel_rfl) (by kernel_rfl)
      (OpenSpec.preRow_of_cond 8 hx (by kernel_rfl) (fun k hk => by cases hk) (by kernel_rfl) (laid_met os))) ?_
  intro W base args ds gs before hval hW _ _ _ hL _ _
  exact contract H enc W base args ds gs before hval hW
theorem said : Rows.AttestDecodeSaid :=
  OpenClaim.holds_of_cond 4 Try.f4 rfl rfl rfl rfl rfl rfl rfl ⟨rfl, rfl, rfl, rfl, rfl⟩ rfl rfl rfl rfl rfl (by kernel_rfl) Try.func4 (by kernel_rfl)
    (of_decide_eq_true (by kernel_rfl)) (by unfold Func.isWrapper; first | (rw [if_pos (by decide +kernel)]; kernel_rfl) | (rw [if_neg (by decide +kernel)]; exact ⟨rfl, rfl⟩))
    (fun os started H enc _ F => by rw [OpenClaim.pre_eq_preRow]; exact lifted os started H enc F)
end Go.Proofs.Ytlaglaehkhmklaa.lAttestDecode
