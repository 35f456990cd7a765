/-
  Own text: the opening of a list of byte strings.
-/
import Derived.Test.YtgodplejjlfmbaaDoorRow
import Derived.Test.YtgodplejjlfmbaaDoorDig11
import Derived.Deep.Matrix
namespace Go.Proofs.YtgodplejjlfmbaaDoor
open Go Go.RowKit Go.Eng Go.ChangeShapes Go.WideShapes Go.ChangeAt
set_option linter.unusedVariables false

theorem cellsRow : Tryd.prog.cellsOf 22 = 1 := by kernel_rfl

def rowB (zs : List Int) (n : Nat) : List UInt8 := (zs.take n).map fun z => UInt8.ofNat z.toNat
theorem rowB_len (zs : List Int) (n : Nat) (h : n ≤ zs.length) : (rowB zs n).length = n := by simp [rowB]; omega
theorem rowB_cell {zs : List Int} {n : Nat} (hw : ∀ x ∈ zs, (Lit.int .u8 x).wf = true) {j : Nat} {u : Value} (hj : j < n) (hn : n ≤ zs.length) (hu : ((rowB zs n).map byteV)[j]? = some u) : Value.int .u8 (zs.getD j 0) = u := by
  rw [List.getElem?_map, Option.map_eq_some_iff] at hu
  obtain ⟨b, hb, rfl⟩ := hu
  have hr := range_u8 hw j
  rw [rowB, List.getElem?_map, List.getElem?_take_of_lt hj, List.getElem?_eq_getElem (by omega)] at hb
  simp only [Option.map_some, Option.some.injEq] at hb
  rw [List.getElem?_eq_getElem (by omega)] at hr
  simp only [Option.getD_some] at hr
  subst hb
  simp only [List.getD, List.getElem?_eq_getElem (show j < zs.length by omega), Option.getD_some, byteV, UInt8.toNat_ofNat']
  congr 2
  omega

theorem open_rows {H : Type} {enc : TypeId × Value → H} {P : Program} {t e q : TypeId} {W : World} {base : Nat} {v : Value} {d : DataW H} {p : List MemPlace} (ht : P.underlying t = some (.slice e)) (he : P.underlying e = some (.slice q)) (hq : P.underlying q = some (.int .u8)) (ce : P.cellsOf e = 1) (cq : P.cellsOf q = 1)
    (hval : Value.okWide P W .any base t v) (h : DataW.Trod enc P W 0 (fun _ => true) true t v d p) : ∃ ls, Mat W v ls := by
  obtain ⟨a1, len, cap, rfl⟩ := okWide_slice ht hval
  obtain ⟨fuel, hf⟩ := h
  rcases Go.Deep.open_int_rows ht he hq ce cq hf with ⟨hcs, hx⟩ | ⟨a, len', cap', A, L, C, Z, hcs, _, hl, hm, hx, hrow⟩
  · simp [Value.cells] at hcs
    obtain ⟨rfl, rfl, rfl⟩ := hcs
    exact ⟨[], [], Hold.nil _ W, rfl, fun i u l h1 => by cases h1⟩
  · simp [Value.cells] at hcs
    obtain ⟨rfl, rfl, rfl⟩ := hcs
    refine ⟨(List.range len).map fun r => rowB (Z r) (L r), (List.range len).map fun r => Value.slice (A r) (L r) (C r), ?_, by simp, ?_⟩
    · refine ⟨some a, cap, by simp, by simp, by simpa using hl, hm, (fun h => by cases h), ?_⟩
      intro b hb j u hu
      obtain rfl := Option.some.inj hb
      simp only [List.map_map, List.getElem?_map, Option.map_eq_some_iff] at hu
      obtain ⟨r, hr, rfl⟩ := hu
      obtain ⟨hrl, rfl⟩ := List.getElem?_eq_some_iff.1 hr
      simp only [List.length_range] at hrl
      simp only [List.getElem_range, Function.comp_apply]
      exact (hrow j (by omega)).1
    · intro i u l hu hl'
      simp only [List.getElem?_map, Option.map_eq_some_iff] at hu hl'
      obtain ⟨r, hr, rfl⟩ := hu
      obtain ⟨r', hr', rfl⟩ := hl'
      obtain rfl := Option.some.inj (hr.symm.trans hr')
      obtain ⟨hrl, rfl⟩ := List.getElem?_eq_some_iff.1 hr
      simp only [List.length_range] at hrl
      simp only [List.getElem_range]
      obtain ⟨_, h2, h3, h4, h5, h6, h7⟩ := hrow i (by omega)
      have hrl := rowB_len (Z i) (L i) (by omega)
      refine ⟨A i, C i, by rw [hrl], by simp, by rw [hrl]; exact h2, h3, (fun h => by have := h6 h; rw [hrl]; exact ⟨by omega, this⟩), ?_⟩
      intro b hb j u hu
      have hj : j < L i := by
        have := (List.getElem?_eq_some_iff.1 hu).1
        rw [List.length_map, hrl] at this; exact this
      rw [(h7 b hb).2 j (by omega)]
      exact congrArg some (rowB_cell h5 hj (by omega) hu)
end Go.Proofs.YtgodplejjlfmbaaDoor
