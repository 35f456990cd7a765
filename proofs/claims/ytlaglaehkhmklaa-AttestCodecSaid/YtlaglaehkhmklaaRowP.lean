/-
  Own text: from a walk that answers true and leaves all that was there as it was, to what a row's law asks (a seat whose code reads no package variable).
-/
import Derived.Test.YtlaglaehkhmklaaOpn
import Derived.Test.YtlaglaehkhmklaaAxT
import Derived.Test.YtlaglaehkhmklaaAxR
import Derived.Test.YtlaglaehkhmklaaRows
import Derived.WalkKit
import Derived.ProofKit
import Derived.OpenShut
import Derived.Carry
import Derived.ChangeSlices
import Derived.Deep.DeepHandedRow
import Derived.Lib.LaidTab
namespace Go.Proofs.Ytlaglaehkhmklaa
open Go Go.RowKit Go.Eng Go.ChangeShapes Go.WideShapes Go.ChangeAt Go.Ax
set_option linter.unusedVariables false

/-- the arguments read in a grown world as they did -/
theorem trodAll_ext {H : Type} {enc : TypeId × Value → H} {P : Program} (hl : laidOutB P = true) {W W' : World} (he : Ext W W') {sp : Nat → Bool} :
    ∀ {ts : List TypeId} {vs : List Value} {ds : List (DataW H)} {ps : List MemPlace}, (ts.all fun t => P.readableRec t && decide (t < P.types.size)) = true →
    DataW.TrodAll enc P W 0 (fun _ => true) true ts vs ds ps → (∀ p ∈ ps, p.block < W.heap.size) → (∀ p ∈ ps, sp p.block = true) → DataW.TrodAll enc P W' 0 sp true ts vs ds ps
  | [], _, _, _, _, h, _, _ => by
    obtain ⟨rfl, rfl, rfl⟩ := trodAll_nil h
    exact trodAll_mk0
  | t :: ts, _, _, _, hr, h, hlt, hsp => by
    obtain ⟨v, vs1, d, ds1, a, b, rfl, rfl, rfl, h1, h2⟩ := trodAll_cons h
    simp only [List.all_cons, Bool.and_eq_true, decide_eq_true_eq] at hr
    exact ⟨a, b, WideElems.Trod_stays hl hr.1.1 hr.1.2 h1 (fun x hx => he.same (hlt x (by simp [hx]))) (fun x hx => hsp x (by simp [hx])),
      trodAll_ext hl he hr.2 h2 (fun x hx => hlt x (by simp [hx])) (fun x hx => hsp x (by simp [hx])), rfl⟩

theorem post_true {H : Type} {enc : TypeId × Value → H} {P : Program} {f : Func} {s : ChangeSpec} {W W' : World} {args : Array Value} {ds gs : List (DataW H)} {before : List MemPlace} {tb : TypeId}
    (hW : DataW.Whole enc P f.params.toList s.vars false W args.toList ds gs before) (hl : laidOutB P = true) (hr : (f.params.toList.all fun t => P.readableRec t && decide (t < P.types.size)) = true)
    (hv : s.vars = []) (hres : f.resultTypes = #[tb]) (htb : P.underlying tb = some .bool) (h1 : (s.fn H ds).results = [.lit (.bool true)]) (h2 : (s.fn H ds).args = ds) (h3 : (s.fn H ds).vars = []) (he : Ext W W') :
    s.post enc P f false true false false W args (.bool true) W' := by
  have hW' := hW
  have hlt : ∀ p ∈ before, p.block < W.heap.size := fun p hp => hW'.lt p hp
  obtain ⟨p, q, hA, hV, rfl, hfz, hnd⟩ := hW
  rw [hv] at hV
  obtain ⟨rfl, rfl⟩ := trodVars_none hV
  refine ⟨ds, [], _, [], p, [], hW', ?_, ?_, ?_, ?_, fun h => by cases h⟩
  · rw [hres, List.append_nil, h1]
    exact trodAll_cons_mk (shut_bool htb _) trodAll_mk0
  · rw [List.append_nil, h2]
    exact trodAll_ext hl he hr hA (fun x hx => hlt x (by simpa using hx)) (fun x hx => by simpa using hlt x (by simpa using hx))
  · rw [List.append_nil, h3, hv]; rfl
  · exact he.frame _

theorem laidOut : laidOutB Try.prog = true := by kernel_rfl
theorem own : ownKnob Try.prog.godebug = none := by kernel_rfl

/-- a law's walk, as a contract -/
theorem law_calls {f : FuncId} {ins : List AV} (h : Y E0 (.call f ins []) = some (.ret (.b true) [])) {w : World} {args : List Value} (hr : Reps ⟨fun k => k < 0, fun _ => undef, No, w⟩ ins args) : Calls Try.prog f args.toArray w (Ret fun v w' => v = .bool true ∧ Ext w w') := by
  refine Ret.mono (Y_call (e0 (fun _ => True)) h (fun _ => undef) No w args ⟨fun b hb => hb.elim, fun _ _ => trivial⟩ hr ⟨(fun k R h => by cases h), (fun k k' R R' b h => by cases h), fun k h => absurd h (has_nil k)⟩) ?_
  rintro v w' ⟨ν', ok⟩
  have h1 := ok.rep
  simp only [Rep] at h1
  refine ⟨h1, (ok.stp.mono fun i _ hh => ?_).ext⟩
  obtain ⟨k, R, hk, _⟩ := hh
  cases hk
end Go.Proofs.Ytlaglaehkhmklaa
