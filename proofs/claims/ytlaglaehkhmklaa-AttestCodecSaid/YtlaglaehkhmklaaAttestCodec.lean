/-
  Own text. What is proved: AttestCodec, for every input the law returns true, and the argument reads behind the call as it did. Conditions: none beyond the given statement's own.
-/
import Derived.Test.YtlaglaehkhmklaaRowP
import Derived.Test.YtlaglaehkhmklaaAxUD
namespace Go.Proofs.Ytlaglaehkhmklaa.lAttestCodec
open Go Go.RowKit Go.Eng Go.WideShapes Go.ChangeAt Go.ChangeShapes Go.Ax
set_option linter.unusedVariables false
attribute [local irreducible] Calls
def τ0 : Ty := .pair (.sl .u8) (.pair (.sl .u8) (.pair .i64 (.pair .i64 (.pair .i64 (.pair .bool (.pair .i64 (.pair (.pair .i64 .i64) (.sl .u8))))))))
theorem ty0 : tysB Try.prog 20 τ0 [26] = true := by kernel_rfl
theorem contract (H : Type) (enc : TypeId × Value → H) (W : World) (base : Nat) (args : Array Value) (ds gs : List (DataW H)) (before : List MemPlace)
    (hval : ∀ (j : Nat) t v, Try.f3.params[j]? = some t → args[j]? = some v → Value.okWide Try.prog W .any base t v)
    (hW : DataW.Whole enc Try.prog Try.f3.params.toList Rows.attestCodecSpec.vars false W args.toList ds gs before) :
    Calls Try.prog 3 args W fun e W' => ∃ v, e = .returned v ∧ Rows.attestCodecSpec.post enc Try.prog Try.f3 false true false false W args v W' := by
  have hW' := hW
  obtain ⟨p, q, hA0, hV, rfl, hfz, hnd⟩ := hW
  have hA : DataW.TrodAll enc Try.prog W 0 (fun _ => true) true Try.f3.params.toList args.toList ds p := hA0
  rw [Try.params3] at hA hval
  obtain ⟨v0, vs0, d0, ds0, p0, q0, hargs, rfl, rfl, h0, r0⟩ := trodAll_cons hA
  obtain ⟨rfl, rfl, rfl⟩ := trodAll_nil r0
  obtain rfl : args = #[v0] := by cases args; simp_all
  obtain ⟨cs0, rfl, hcs0⟩ := okWide_struct Try.underlying26 (hval 0 26 v0 rfl rfl)
  obtain ⟨x0, hx0, hwf0⟩ := open_cells 20 ty0 h0 (by simpa [Value.cells] using hcs0)
  obtain ⟨k, o, u, v, c, s, y, ⟨s0, s1⟩, g⟩ := x0
  refine (law_calls (ev_codec ⟨k, o, u, v, c, s, y, s0, s1, g⟩) (w := W) (args := [.agg cs0]) (Reps.one ?_)).mono fun e W' h => ?_
  · simp only [Rep]
    have hr : Reps ⟨fun k => k < 0, fun _ => undef, No, W⟩ (flat τ0 (k, o, u, v, c, s, y, (s0, s1), g)) cs0.toList := CR.reps fun w' hs => hx0.ext hs.ext
    exact ⟨cs0.toList, by simp, hr, flat_one hr⟩
  · cases e with
    | returned v =>
      obtain ⟨rfl, he⟩ := h
      exact ⟨_, rfl, post_true hW' laidOut (by kernel_rfl) rfl (by kernel_rfl) Try.underlying4 rfl rfl rfl he⟩
    | _ => exact h.elim
noncomputable def w0 (os : Os) : World := World.holding Try.prog os ⟨#[], #[], []⟩
theorem laid_met (os : Os) : laidMet Try.prog Rows.attestCodecRow.laid ((w0 os).forCall (fun _ _ => 0) ⟨#[], #[Value.agg #[.slice none 0 0, .slice none 0 0, .int .i64 0, .int .i64 0, .int .i64 0, .bool false, .int .i64 0, .int .i64 0, .int .i64 0, .slice none 0 0]], []⟩).memory :=
  laidMet_of_run' 8 (by kernel_rfl) (by kernel_rfl)
theorem reads (os : Os) {H : Type} (enc : TypeId × Value → H) : ∃ places, DataW.whole enc Try.prog ((w0 os).forCall (fun _ _ => 0) ⟨#[], #[Value.agg #[.slice none 0 0, .slice none 0 0, .int .i64 0, .int .i64 0, .int .i64 0, .bool false, .int .i64 0, .int .i64 0, .int .i64 0, .slice none 0 0]], []⟩).memory Try.f3.params.toList Rows.attestCodecSpec.vars false (#[Value.agg #[.slice none 0 0, .slice none 0 0, .int .i64 0, .int .i64 0, .int .i64 0, .bool false, .int .i64 0, .int .i64 0, .int .i64 0, .slice none 0 0]] : Array Value).toList 8 = some ([.agg [.nil, .nil, .lit (.int .i64 0), .lit (.int .i64 0), .lit (.int .i64 0), .lit (.bool false), .lit (.int .i64 0), .agg [.lit (.int .i64 0), .lit (.int .i64 0)], .nil]], [], places) :=
  ⟨[], by kernel_rfl⟩
set_option maxRecDepth 100000 in
theorem lifted (os : Os) (started : os.Started) (H : Type) (enc : TypeId × Value → H) (F : Stop.Interp) :
    ReturnsInHanded {} Try.checked os 3 .any ((OpenSpec.ofChange Rows.attestCodecSpec).preRow enc Try.prog Try.f3 Rows.attestCodecRow.domain false Rows.attestCodecRow.laid) (((OpenSpec.ofChange Rows.attestCodecSpec).at F).post enc Try.prog Try.f3 false true false false) := by
  obtain ⟨places, hx⟩ := reads os enc
  refine returnsInHanded_of_row (C := Try.checked) (s := OpenSpec.ofChange Rows.attestCodecSpec) own started (by kernel_rfl) Try.func3
    (witness_row_at (enc := enc) (C := Try.checked) false (w0 os) #[Value.agg #[.slice none 0 0, .slice none 0 0, .int .i64 0, .int .i64 0, .int .i64 0, .bool false, .int .i64 0, .int .i64 0, .int .i64 0, .slice none 0 0]] rfl (by kernel_rfl) (by kernel_rfl) (by kernel_rfl)
      (OpenSpec.preRow_of_cond 8 hx (by kernel_rfl) (fun k hk => by cases hk) (by kernel_rfl) (laid_met os))) ?_
  intro W base args ds gs before hval hW _ _ _ hL _ _
  exact contract H enc W base args ds gs before hval hW
theorem said : Rows.AttestCodecSaid :=
  OpenClaim.holds_of_cond 3 Try.f3 rfl rfl rfl rfl rfl rfl rfl ⟨rfl, rfl, rfl, rfl, rfl⟩ rfl rfl rfl rfl rfl (by kernel_rfl) Try.func3 (by kernel_rfl)
    (of_decide_eq_true (by kernel_rfl)) (by unfold Func.isWrapper; first | (rw [if_pos (by decide +kernel)]; kernel_rfl) | (rw [if_neg (by decide +kernel)]; exact ⟨rfl, rfl⟩))
    (fun os started H enc _ F => by rw [OpenClaim.pre_eq_preRow]; exact lifted os started H enc F)
end Go.Proofs.Ytlaglaehkhmklaa.lAttestCodec
