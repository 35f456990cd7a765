/-
  Own text. The abstract machine: calls. It claims nothing of any program.
-/
import Derived.Test.YtlaglaehkhmklaaAxF
namespace Go.Ax
open Go Go.RowKit Go.Eng
set_option linter.unusedVariables false
set_option linter.unusedSimpArgs false

def idxF : Nat → List Rs → Fp
  | _, [] => []
  | i, R :: l => (i, R) :: idxF (i + 1) l
/-- what is true of a call: handed values and things, it hands values and things back -/
def SemC (P : Program) (I : World → Prop) (f : FuncId) (ins : List AV) (Hin : List Rs) (out : AV) (Hout : List (Option Rs)) : Prop :=
  ∀ (ν : Nat → Value) (O : Nat → Prop) (w : World) (args : List Value), Good I ⟨(· < Hin.length), ν, O, w⟩ → Reps ⟨(· < Hin.length), ν, O, w⟩ ins args → Pre ⟨(· < Hin.length), ν, O, w⟩ (idxF 0 Hin) (outF id 0 Hout) →
    Calls P f args.toArray w (Ret fun v w' => ∃ ν', Ok ⟨(· < Hin.length), ν, O, w⟩ (idxF 0 Hin) (outF id 0 Hout) out v w' ν')

theorem flk_idxF : ∀ (l : List Rs) (i k : Nat), flk k (idxF i l) = if i ≤ k then l[k - i]? else none
  | [], i, k => by simp [idxF]
  | R :: l, i, k => by
    rw [idxF, flk_cons, flk_idxF l (i + 1) k]
    by_cases h : k = i
    · subst h; simp
    · rw [if_neg h]
      by_cases h2 : i ≤ k
      · rw [if_pos (by omega), if_pos h2, show k - i = (k - (i + 1)) + 1 from by omega, List.getElem?_cons_succ]
      · rw [if_neg (by omega), if_neg h2]
theorem flk_idx0 (l : List Rs) (k : Nat) : flk k (idxF 0 l) = l[k]? := by rw [flk_idxF]; simp
theorem outF_some : ∀ {H : List (Option Rs)} {ρ : Nat → Nat} {i j : Nat} {R' : Rs}, flk j (outF ρ i H) = some R' → ∃ q R, H[q]? = some (some R) ∧ ρ (i + q) = j ∧ R' = renR ρ R
  | [], ρ, i, j, R', h => by cases h
  | some R :: H, ρ, i, j, R', h => by
    simp only [outF] at h
    rw [flk_cons] at h
    split at h
    · rename_i e; exact ⟨0, R, rfl, by simpa using e.symm, (Option.some.inj h).symm⟩
    · obtain ⟨q, R2, h1, h2, h3⟩ := outF_some h
      exact ⟨q + 1, R2, by simpa using h1, by rw [← h2]; congr 1; omega, h3⟩
  | none :: H, ρ, i, j, R', h => by
    simp only [outF] at h
    obtain ⟨q, R2, h1, h2, h3⟩ := outF_some h
    exact ⟨q + 1, R2, by simpa using h1, by rw [← h2]; congr 1; omega, h3⟩
theorem outF_get : ∀ {H : List (Option Rs)} {ρ : Nat → Nat} {i q : Nat} {R : Rs}, (∀ a b, i ≤ a → a < i + H.length → i ≤ b → b < i + H.length → ρ a = ρ b → a = b) → H[q]? = some (some R) → flk (ρ (i + q)) (outF ρ i H) = some (renR ρ R)
  | [], ρ, i, q, R, _, h => by simp at h
  | o :: H, ρ, i, 0, R, hinj, h => by
    simp only [List.getElem?_cons_zero, Option.some.injEq] at h
    subst h
    simp only [outF]
    rw [flk_cons, if_pos (by simp)]
  | o :: H, ρ, i, q + 1, R, hinj, h => by
    have hq : q < H.length := (List.getElem?_eq_some_iff.1 (by simpa using h)).1
    have ih := outF_get (H := H) (ρ := ρ) (i := i + 1) (q := q) (R := R) (fun a b h1 h2 h3 h4 => hinj a b (by omega) (by simp; omega) (by omega) (by simp; omega)) (by simpa using h)
    rw [show i + (q + 1) = i + 1 + q from by omega]
    cases o with
    | none => simp only [outF]; exact ih
    | some R0 =>
      simp only [outF]
      rw [flk_cons, if_neg ?_]
      · exact ih
      · intro e
        have := hinj (i + 1 + q) i (by omega) (by simp; omega) (Nat.le_refl _) (by simp) e
        omega
theorem flk_out0 {H : List (Option Rs)} {k : Nat} {R : Rs} (h : flk k (outF id 0 H) = some R) : H[k]? = some (some R) := by
  obtain ⟨q, R2, h1, h2, rfl⟩ := outF_some h
  simp only [Nat.zero_add, id_eq] at h2
  subst h2
  have : ∀ R : Rs, renR id R = R := by
    have key : ∀ l : List AV, renL id l = l := by
      intro l
      have k2 : (∀ s : AV, ren id s = s) ∧ ∀ l : List AV, renL id l = l := by
        refine ⟨fun s => ?_, fun l => ?_⟩
        · exact AV.rec (motive_1 := fun s => ren id s = s) (motive_2 := fun l => renL id l = l) (by simp [ren]) (by simp [ren]) (by simp [ren]) (by simp [ren]) (by simp [ren]) (by simp [ren]) (by simp [ren]) (by simp [ren]) (by simp [ren]) (by simp [ren]) (by simp [ren]) (by simp [ren]) (by simp [ren]) (fun l h => by simp only [ren, h]) (fun l h => by simp only [ren, h]) (fun l h => by simp only [ren, h]) (fun f a b h1 h2 => by simp only [ren, h1, h2]) (by simp [renL]) (fun a l h1 h2 => by simp only [renL, h1, h2]) s
        · exact AV.rec_1 (motive_1 := fun s => ren id s = s) (motive_2 := fun l => renL id l = l) (by simp [ren]) (by simp [ren]) (by simp [ren]) (by simp [ren]) (by simp [ren]) (by simp [ren]) (by simp [ren]) (by simp [ren]) (by simp [ren]) (by simp [ren]) (by simp [ren]) (by simp [ren]) (by simp [ren]) (fun l h => by simp only [ren, h]) (fun l h => by simp only [ren, h]) (fun l h => by simp only [ren, h]) (fun f a b h1 h2 => by simp only [ren, h1, h2]) (by simp [renL]) (fun a l h1 h2 => by simp only [renL, h1, h2]) l
      exact k2.2 l
    intro R; cases R <;> simp only [renR, key]
  rw [this]; exact h1
theorem out0_get {H : List (Option Rs)} {k : Nat} {R : Rs} (h : H[k]? = some (some R)) : has k (outF id 0 H) := by
  have := outF_get (ρ := id) (i := 0) (q := k) (fun a b _ _ _ _ e => e) h
  simp only [Nat.zero_add, id_eq] at this
  exact (has_iff _ _).2 ⟨_, this⟩
theorem zipF_some : ∀ {ks : List Nat} {l : List Rs} {k : Nat} {R : Rs}, flk k (zipF ks l) = some R → ∃ i : Nat, ks[i]? = some k ∧ l[i]? = some R
  | [], _, k, R, h => by simp [zipF] at h
  | _ :: _, [], k, R, h => by simp [zipF] at h
  | a :: ks, R0 :: l, k, R, h => by
    simp only [zipF] at h
    rw [flk_cons] at h
    split at h
    · rename_i e; subst e; exact ⟨0, rfl, by simpa using h⟩
    · obtain ⟨i, h1, h2⟩ := zipF_some h
      exact ⟨i + 1, by simpa using h1, by simpa using h2⟩
theorem memN_iff {k : Nat} : ∀ {l : List Nat}, memN k l = true ↔ k ∈ l
  | [] => by simp [memN]
  | a :: r => by simp [memN, memN_iff (l := r)]
theorem nodupB_iff : ∀ {l : List Nat}, nodupB l = true ↔ l.Nodup
  | [] => by simp [nodupB]
  | a :: r => by
    simp only [nodupB, Bool.and_eq_true, Bool.not_eq_true', List.nodup_cons, nodupB_iff (l := r)]
    rw [← memN_iff]; simp
theorem zipF_get : ∀ {ks : List Nat} {l : List Rs} {i k : Nat} {R : Rs}, ks.Nodup → ks[i]? = some k → l[i]? = some R → flk k (zipF ks l) = some R
  | [], l, i, k, R, _, h, _ => by simp at h
  | a :: ks, [], i, k, R, _, _, h => by simp at h
  | a :: ks, R0 :: l, 0, k, R, hn, h1, h2 => by
    simp only [List.getElem?_cons_zero, Option.some.injEq] at h1 h2
    subst h1; subst h2
    simp only [zipF]; rw [flk_cons, if_pos rfl]
  | a :: ks, R0 :: l, i + 1, k, R, hn, h1, h2 => by
    simp only [List.getElem?_cons_succ] at h1 h2
    have hk : k ∈ ks := List.mem_of_getElem? h1
    have : k ≠ a := fun e => (List.nodup_cons.1 hn).1 (e ▸ hk)
    simp only [zipF]; rw [flk_cons, if_neg this]
    exact zipF_get (List.nodup_cons.1 hn).2 h1 h2
theorem rssOf_get {hk : Nat → Option Rs} : ∀ {ks : List Nat} {l : List Rs}, rssOf hk ks = some l → l.length = ks.length ∧ ∀ (i k : Nat), ks[i]? = some k → ∃ R, l[i]? = some R ∧ hk k = some R
  | [], l, h => by simp only [rssOf, Option.some.injEq] at h; subst h; exact ⟨rfl, fun i k h => by simp at h⟩
  | a :: ks, l, h => by
    simp only [rssOf] at h
    split at h
    · rename_i R l' h1 h2
      obtain rfl := Option.some.inj h
      obtain ⟨h3, h4⟩ := rssOf_get h2
      refine ⟨by simp [h3], fun i k hi => ?_⟩
      cases i with
      | zero => simp only [List.getElem?_cons_zero, Option.some.injEq] at hi; subst hi; exact ⟨R, rfl, h1⟩
      | succ i => simpa using h4 i k (by simpa using hi)
    · cases h
theorem rowsOf_some {hk : Nat → Option Rs} : ∀ {ks : List Nat} {k : Nat} {R : Rs}, flk k (rowsOf hk ks) = some R → hk k = some R ∧ k ∈ ks ∧ ∃ e t l, R = .row e t l
  | [], k, R, h => by cases h
  | a :: ks, k, R, h => by
    simp only [rowsOf] at h
    split at h
    · rename_i e t l hh
      rw [flk_cons] at h
      split at h
      · rename_i e1; subst e1; obtain rfl := Option.some.inj h; exact ⟨hh, List.mem_cons_self .., _, _, _, rfl⟩
      · obtain ⟨h1, h2, h3⟩ := rowsOf_some h; exact ⟨h1, List.mem_cons_of_mem _ h2, h3⟩
    · obtain ⟨h1, h2, h3⟩ := rowsOf_some h; exact ⟨h1, List.mem_cons_of_mem _ h2, h3⟩
theorem rowsOf_get {hk : Nat → Option Rs} {e : Nat} {t : Ty} {l : List (El t)} : ∀ {ks : List Nat} {k : Nat}, k ∈ ks → hk k = some (.row e t l) → flk k (rowsOf hk ks) = some (.row e t l)
  | a :: ks, k, h, hh => by
    simp only [rowsOf]
    rcases List.mem_cons.1 h with rfl | h
    · rw [hh]; simp only; rw [flk_cons, if_pos rfl]
    · split
      · rename_i e' t' l' h'
        rw [flk_cons]
        by_cases e1 : k = a
        · subst e1; rw [if_pos rfl, ← h', hh]
        · rw [if_neg e1]; exact rowsOf_get h hh
      · exact rowsOf_get h hh
theorem mem_nub : ∀ {l acc : List Nat} {k : Nat}, k ∈ nub acc l ↔ k ∈ acc ∨ k ∈ l
  | [], acc, k => by simp [nub]
  | a :: l, acc, k => by
    simp only [nub]
    cases h : memN a acc with
    | true =>
      simp only [cond_true]; rw [mem_nub (l := l)]
      have := memN_iff.1 h
      constructor
      · rintro (h | h)
        · exact .inl h
        · exact .inr (List.mem_cons_of_mem _ h)
      · rintro (h | h)
        · exact .inl h
        · rcases List.mem_cons.1 h with rfl | h
          · exact .inl this
          · exact .inr h
    | false => simp only [cond_false]; rw [mem_nub (l := l)]; simp [or_assoc]

/-! ### Rows seen as plain data -/
mutual
theorem vw_ok {hk : Nat → Option Rs} {c : Cx} {G : Fp} (hres : ∀ k R, flk k G = some R → c.N k ∧ Holds c k R ∧ ∀ b, blk (c.ν k) = some b → c.O b) : ∀ (s : AV) (u : Value), (∀ k ∈ names s, ∀ e t l, hk k = some (.row e t l) → flk k G = some (.row e t l)) → Rep c s u → Rep (c.less G) (vw hk s) u
  | .un, u, _, h => by simp only [vw, Rep]
  | .b _, u, _, h => by simpa only [vw, Rep] using h
  | .i _, u, _, h => by simpa only [vw, Rep] using h
  | .u8 _, u, _, h => by simpa only [vw, Rep] using h
  | .u32 _, u, _, h => by simpa only [vw, Rep] using h
  | .u64 _, u, _, h => by simpa only [vw, Rep] using h
  | .str _, u, _, h => by simpa only [vw, Rep] using h
  | .nil, u, _, h => by simpa only [vw, Rep] using h
  | .sl t l, u, _, h => Rep.le (c.less_le G) _ _ (nq_none _) h
  | .st t l, u, _, h => Rep.le (c.less_le G) _ _ (nq_none _) h
  | .pa k o, u, _, h => by simp only [vw]; exact Rep.le (c.less_le G) _ _ (nq_none _) h
  | .pe k i s o, u, _, h => by simp only [vw]; exact Rep.le (c.less_le G) _ _ (nq_none _) h
  | .pt l, u, _, h => Rep.le (c.less_le G) _ _ (nq_none _) h
  | .nm k, u, hn, h => by
    simp only [vw]
    split
    · rename_i e t l hh
      have hg := hn k (by simp [names]) e t l hh
      simp only [Rep] at h ⊢
      obtain ⟨_, rfl, _⟩ := h
      obtain ⟨_, h2, _⟩ := hres k _ hg
      exact HoldsM.reads h2 fun b hb => ⟨hb.1, fun e => hb.2 ⟨k, _, hg, e⟩⟩
    · exact Rep.le (c.less_le G) _ _ (nq_none _) h
  | .agg l, u, hn, h => by
    simp only [vw, Rep] at h ⊢
    obtain ⟨us, h1, h2, h3⟩ := h
    exact ⟨us, h1, vwL_ok hres l us (by simpa only [names] using hn) h2, h3⟩
  | .tup l, u, hn, h => by
    simp only [vw, Rep] at h ⊢
    obtain ⟨us, h1, h2⟩ := h
    exact ⟨us, h1, vwL_ok hres l us (by simpa only [names] using hn) h2⟩
  | .fn f a b, u, hn, h => by
    simp only [vw, Rep] at h ⊢
    obtain ⟨us, vs, h1, h2, h3⟩ := h
    simp only [names] at hn
    exact ⟨us, vs, h1, vwL_ok hres a us (fun k hk => hn k (List.mem_append.2 (.inl hk))) h2, vwL_ok hres b vs (fun k hk => hn k (List.mem_append.2 (.inr hk))) h3⟩
theorem vwL_ok {hk : Nat → Option Rs} {c : Cx} {G : Fp} (hres : ∀ k R, flk k G = some R → c.N k ∧ Holds c k R ∧ ∀ b, blk (c.ν k) = some b → c.O b) : ∀ (s : List AV) (u : List Value), (∀ k ∈ namesL s, ∀ e t l, hk k = some (.row e t l) → flk k G = some (.row e t l)) → Reps c s u → Reps (c.less G) (vwL hk s) u
  | [], u, _, h => by simpa only [vwL, Reps] using h
  | s :: r, u, hn, h => by
    simp only [vwL, Reps] at h ⊢
    simp only [namesL] at hn
    obtain ⟨v, t, h1, h2, h3⟩ := h
    exact ⟨v, t, h1, vw_ok hres s v (fun k hk => hn k (List.mem_append.2 (.inl hk))) h2, vwL_ok hres r t (fun k hk => hn k (List.mem_append.2 (.inr hk))) h3⟩
end
theorem norm1_ok {c : Cx} {t : Option Ty} {a : AV} {u : Value} (h : Rep c a u) : Rep c (norm1 t a) u := by
  unfold norm1
  split
  · exact h
  · split
    · rename_i l
      split
      · rename_i x hu
        simp only [Rep] at h ⊢
        obtain ⟨us, h1, h2, h3⟩ := h
        exact ⟨us, h1, unf_all hu h2, h3⟩
      · exact h
    · split
      · rename_i x hu
        split
        · rename_i b hb
          have := unf_all hu (Reps.one h)
          rw [hb] at this
          obtain ⟨u', hu', hr⟩ := Reps.un1 this
          simp only [List.cons.injEq, and_true] at hu'
          rw [hu']; exact hr
        · exact h
      · exact h
theorem normL_ok {c : Cx} : ∀ (ts : List (Option Ty)) {as : List AV} {us : List Value}, Reps c as us → Reps c (normL ts as) us
  | t :: ts, a :: as, us, h => by
    simp only [normL, Reps] at h ⊢
    obtain ⟨u, r, h1, h2, h3⟩ := h
    exact ⟨u, r, h1, norm1_ok h2, normL_ok ts h3⟩
  | [], as, us, h => by cases as <;> simpa only [normL] using h
  | t :: ts, [], us, h => by simpa only [normL] using h
end Go.Ax
