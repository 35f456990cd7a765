/-
  Own text. The abstract machine: what is computed only grows with what is known of calls. It claims nothing of any program.
-/
import Derived.Test.YtlaglaehkhmklaaAxL
namespace Go.Ax
open Go Go.RowKit Go.Eng
set_option linter.unusedVariables false
set_option linter.unusedSimpArgs false

section
variable {R : Type} {r : R} {T : TT} {hk : Nat → Option Rs} {m : Nat}
def Le {α : Type} (K K' : α → Option R) (r : R) : Prop := ∀ x, K x = some r → K' x = some r
theorem evK_mono {a : Option AV} {K K' : AV → Option R} (hK : Le K K' r) : evK a K = some r → evK a K' = some r := by
  unfold evK; intro h; split at h
  · exact hK _ h
  · cases h
theorem bind_mono {α : Type} {a : Option α} {K K' : α → Option R} (hK : Le K K' r) : a.bind K = some r → a.bind K' = some r := by
  intro h
  obtain ⟨x, h1, h2⟩ := Option.bind_eq_some_iff.1 h
  rw [h1]; exact hK _ h2
theorem bif_mono {c : Bool} {a a' b b' : Option R} (h1 : a = some r → a' = some r) (h2 : b = some r → b' = some r) : (bif c then a else b) = some r → (bif c then a' else b') = some r := by
  cases c
  · exact h2
  · exact h1
theorem shiftBy_mono {y : AV} {K K' : Nat → Option R} (hK : Le K K' r) : shiftBy y K = some r → shiftBy y K' = some r := by
  unfold shiftBy
  split
  · exact bif_mono id (hK _)
  all_goals first | exact hK _ | exact id
theorem evBin_mono {bt e2 : Bool} {op : BinOp} {x y : AV} {K K' : AV → Option R} (hK : Le K K' r) : evBin bt e2 op x y K = some r → evBin bt e2 op x y K' = some r := by
  unfold evBin
  split
  · refine shiftBy_mono fun c => ?_
    split <;> first | exact hK _ | exact id
  · refine shiftBy_mono fun c => ?_
    split <;> first | exact hK _ | exact id
  · repeat' split
    all_goals first | exact hK _ | exact id | exact bif_mono id (hK _) | exact bif_mono (hK _) id | exact bif_mono (hK _) (bif_mono (hK _) id) | skip
    all_goals refine bif_mono ?_ id; split <;> first | exact hK _ | exact id
theorem evConv_mono {d : Und} {x : AV} {K K' : AV → Option R} (hK : Le K K' r) : evConv d x K = some r → evConv d x K' = some r := by
  unfold evConv; split <;> first | exact hK _ | exact id
theorem evLoad_mono {t : TypeId} {x : Option AV} {K K' : Tr → Option R} (hK : Le K K' r) : evLoad T hk t x K = some r → evLoad T hk t x K' = some r := by
  unfold evLoad
  repeat' split
  all_goals first | exact hK _ | exact id | skip
  all_goals refine bif_mono (bind_mono fun x => ?_) id
  all_goals split <;> first | exact hK _ | exact id
theorem evStore_mono {t : TypeId} {x : Option AV} {y : Option (List AV)} {K K' : Tr → Option R} (hK : Le K K' r) : evStore T hk t x y K = some r → evStore T hk t x y K' = some r := by
  unfold evStore
  repeat' split
  all_goals first | exact hK _ | exact id | skip
  all_goals repeat' (first | exact hK _ | exact id | exact evK_mono (fun x => hK _) | exact bind_mono (fun x => hK _) | refine bif_mono ?_ ?_ | refine bind_mono fun x => ?_ | split)
theorem evFldA_mono {t : TypeId} {x : Option AV} {f : Nat} {K K' : Tr → Option R} (hK : Le K K' r) : evFldA T t x f K = some r → evFldA T t x f K' = some r := by
  unfold evFldA
  repeat' split
  all_goals first | exact hK _ | exact id | skip
  all_goals repeat' (first | exact hK _ | exact id | exact evK_mono (fun x => hK _) | exact bind_mono (fun x => hK _) | refine bif_mono ?_ ?_ | refine bind_mono fun x => ?_ | split)
theorem evBldS_mono {ev : Operand → Option AV} {t : TypeId} {n : Nat} {ps : List (Nat × Operand)} {K K' : Tr → Option R} (hK : Le K K' r) : evBldS T ev hk m t n ps K = some r → evBldS T ev hk m t n ps K' = some r := by
  unfold evBldS
  repeat' split
  all_goals first | exact hK _ | exact id | skip
  all_goals repeat' (first | exact hK _ | exact id | exact evK_mono (fun x => hK _) | exact bind_mono (fun x => hK _) | refine bif_mono ?_ ?_ | refine bind_mono fun x => ?_ | split)
theorem evMk_mono {t : TypeId} {l c : Option AV} {K K' : Tr → Option R} (hK : Le K K' r) : evMk T m t l c K = some r → evMk T m t l c K' = some r := by
  unfold evMk
  simp only [withB_eq]
  repeat' split
  all_goals first | exact hK _ | exact id | skip
  all_goals repeat' (first | exact hK _ | exact id | exact evK_mono (fun x => hK _) | exact bind_mono (fun x => hK _) | refine bif_mono ?_ ?_ | refine bind_mono fun x => ?_ | split)
theorem evIxA_mono {t : TypeId} {x : Option AV} {j : Option Int} {K K' : Tr → Option R} (hK : Le K K' r) : evIxA T hk t x j K = some r → evIxA T hk t x j K' = some r := by
  unfold evIxA
  repeat' split
  all_goals first | exact hK _ | exact id | skip
  all_goals repeat' (first | exact hK _ | exact id | exact evK_mono (fun x => hK _) | exact bind_mono (fun x => hK _) | refine bif_mono ?_ ?_ | refine bind_mono fun x => ?_ | split)
theorem evIx_mono {t : TypeId} {x : Option AV} {j : Option Int} {K K' : Tr → Option R} (hK : Le K K' r) : evIx T t x j K = some r → evIx T t x j K' = some r := by
  unfold evIx
  repeat' split
  all_goals first | exact hK _ | exact id | skip
  all_goals repeat' (first | exact hK _ | exact id | exact evK_mono (fun x => hK _) | exact bind_mono (fun x => hK _) | refine bif_mono ?_ ?_ | refine bind_mono fun x => ?_ | split)
theorem evCut_mono {t : TypeId} {x : AV} {F : Fp} {lo : Int} {hi mx : Option (Option Int)} {K K' : Tr → Option R} (hK : Le K K' r) : evCut T t x F lo hi mx K = some r → evCut T t x F lo hi mx K' = some r := by
  unfold evCut
  repeat' split
  all_goals first | exact hK _ | exact id | skip
  all_goals repeat' (first | exact hK _ | exact id | exact evK_mono (fun x => hK _) | exact bind_mono (fun x => hK _) | refine bif_mono ?_ ?_ | refine bind_mono fun x => ?_ | split)
theorem evLen_mono {t : TypeId} {x : Option AV} {K K' : Tr → Option R} (hK : Le K K' r) : evLen T t hk x K = some r → evLen T t hk x K' = some r := by
  unfold evLen
  repeat' split
  all_goals first | exact hK _ | exact id | skip
  all_goals repeat' (first | exact hK _ | exact id | exact evK_mono (fun x => hK _) | exact bind_mono (fun x => hK _) | refine bif_mono ?_ ?_ | refine bind_mono fun x => ?_ | split)
theorem evApp_mono {t : TypeId} {a : Option AV} {b : Option (AV × Fp)} {K K' : Tr → Option R} (hK : Le K K' r) : evApp T hk m t a b K = some r → evApp T hk m t a b K' = some r := by
  unfold evApp
  simp only [withB_eq]
  repeat' split
  all_goals first | exact hK _ | exact id | skip
  all_goals repeat' (first | exact hK _ | exact id | exact evK_mono (fun x => hK _) | exact bind_mono (fun x => hK _) | refine bif_mono ?_ ?_ | refine bind_mono fun x => ?_ | split)
theorem evCpy_mono {t : TypeId} {a : Option AV} {b : Option (AV × Fp)} {K K' : Tr → Option R} (hK : Le K K' r) : evCpy T hk t a b K = some r → evCpy T hk t a b K' = some r := by
  unfold evCpy
  repeat' split
  all_goals first | exact hK _ | exact id | skip
  all_goals repeat' (first | exact hK _ | exact id | exact evK_mono (fun x => hK _) | exact bind_mono (fun x => hK _) | refine bif_mono ?_ ?_ | refine bind_mono fun x => ?_ | split)
theorem evOp_mono {ev : Operand → Option AV} {op : Op} {K K' : Tr → Option R} (hK : Le K K' r) : evOp T ev hk m op K = some r → evOp T ev hk m op K' = some r := by
  unfold evOp
  split
  all_goals first | exact evLoad_mono hK | exact evStore_mono hK | exact evFldA_mono hK | exact evBldS_mono hK | exact evMk_mono hK | exact evIxA_mono hK | exact evIx_mono hK | exact evK_mono (fun x => hK _) | skip
  all_goals repeat' (first | exact hK _ | exact id | exact evK_mono (fun x => hK _) | exact evLen_mono hK | exact evApp_mono hK | exact evCpy_mono hK | exact evCut_mono hK | exact evBin_mono (fun x => hK _) | exact evConv_mono (fun x => hK _) | refine bif_mono ?_ ?_ | split)
end
end Go.Ax
