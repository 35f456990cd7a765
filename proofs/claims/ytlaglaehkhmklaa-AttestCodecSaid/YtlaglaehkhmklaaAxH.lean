/-
  Own text. The abstract machine: calls, continued. It claims nothing of any program.
-/
import Derived.Test.YtlaglaehkhmklaaAxG
namespace Go.Ax
open Go Go.RowKit Go.Eng
set_option linter.unusedVariables false
set_option linter.unusedSimpArgs false

mutual
/-- names turned the other way -/
theorem Rep.push {ρ : Nat → Nat} {N N' : Nat → Prop} {ν ν' : Nat → Value} {O O' : Nat → Prop} {w : World} {M : Nat} (hN : ∀ k, k < M → N k → N' (ρ k) ∧ ν' (ρ k) = ν k) (hO : ∀ w'', Stp O' w w'' → Stp O w w'') : ∀ (s : AV) (u : Value), nlt M s = true → Rep ⟨N, ν, O, w⟩ s u → Rep ⟨N', ν', O', w⟩ (Ax.ren ρ s) u
  | .un, u, _, h => by simp only [Ax.ren, Rep]
  | .b _, u, _, h => by simpa only [Ax.ren, Rep] using h
  | .i _, u, _, h => by simpa only [Ax.ren, Rep] using h
  | .u8 _, u, _, h => by simpa only [Ax.ren, Rep] using h
  | .u32 _, u, _, h => by simpa only [Ax.ren, Rep] using h
  | .u64 _, u, _, h => by simpa only [Ax.ren, Rep] using h
  | .str _, u, _, h => by simpa only [Ax.ren, Rep] using h
  | .nil, u, _, h => by simpa only [Ax.ren, Rep] using h
  | .sl t l, u, _, h => by simp only [Ax.ren, Rep] at h ⊢; exact fun w' hs => h w' (hO w' hs)
  | .st t l, u, _, h => by simp only [Ax.ren, Rep] at h ⊢; exact ⟨h.1, fun w' hs => h.2 w' (hO w' hs)⟩
  | .nm k, u, hn, h => by
    simp only [Ax.ren, Rep] at h ⊢
    have := hN k (by simpa [nlt] using hn) h.1
    exact ⟨this.1, by rw [this.2]; exact h.2.1, h.2.2⟩
  | .pa k o, u, hn, h => by
    simp only [Ax.ren, Rep] at h ⊢
    have := hN k (by simpa [nlt] using hn) h.1
    exact ⟨this.1, by rw [this.2]; exact h.2⟩
  | .pe k i s o, u, hn, h => by
    simp only [Ax.ren, Rep] at h ⊢
    have := hN k (by simpa [nlt] using hn) h.1
    exact ⟨this.1, by rw [this.2]; exact h.2⟩
  | .tup l, u, hn, h => by
    simp only [Ax.ren, Rep] at h ⊢
    obtain ⟨us, h1, h2⟩ := h
    exact ⟨us, h1, Reps.push hN hO l us (by simpa only [nlt] using hn) h2⟩
  | .agg l, u, hn, h => by
    simp only [Ax.ren, Rep] at h ⊢
    obtain ⟨us, h1, h2, h3⟩ := h
    exact ⟨us, h1, Reps.push hN hO l us (by simpa only [nlt] using hn) h2, h3⟩
  | .fn f l q, u, hn, h => by
    simp only [Ax.ren, Rep] at h ⊢
    obtain ⟨us, vs, h1, h2, h3⟩ := h
    simp only [nlt, Bool.and_eq_true] at hn
    exact ⟨us, vs, h1, Reps.push hN hO l us hn.1 h2, Reps.push hN hO q vs hn.2 h3⟩
  | .pt l, u, hn, h => by
    simp only [Ax.ren, Rep] at h ⊢
    obtain ⟨p, us, h1, h2, h3, h4⟩ := h
    exact ⟨p, us, h1, Reps.push hN hO l us (by simpa only [nlt] using hn) h2, h3, fun w' hs => h4 w' (hO w' hs)⟩
theorem Reps.push {ρ : Nat → Nat} {N N' : Nat → Prop} {ν ν' : Nat → Value} {O O' : Nat → Prop} {w : World} {M : Nat} (hN : ∀ k, k < M → N k → N' (ρ k) ∧ ν' (ρ k) = ν k) (hO : ∀ w'', Stp O' w w'' → Stp O w w'') : ∀ (s : List AV) (u : List Value), nltL M s = true → Reps ⟨N, ν, O, w⟩ s u → Reps ⟨N', ν', O', w⟩ (renL ρ s) u
  | [], u, _, h => by simpa only [renL, Reps] using h
  | s :: r, u, hn, h => by
    simp only [renL, Reps] at h ⊢
    simp only [nltL, Bool.and_eq_true] at hn
    obtain ⟨v, t, h1, h2, h3⟩ := h
    exact ⟨v, t, h1, Rep.push hN hO s v hn.1 h2, Reps.push hN hO r t hn.2 h3⟩
end
theorem Holds.push {ρ : Nat → Nat} {N N' : Nat → Prop} {ν ν' : Nat → Value} {O O' : Nat → Prop} {w : World} {M k : Nat} {R : Rs} (hN : ∀ k, k < M → N k → N' (ρ k) ∧ ν' (ρ k) = ν k) (hO : ∀ w'', Stp O' w w'' → Stp O w w'') (hk : ν' (ρ k) = ν k) (hR : rlt M R = true) (h : Holds ⟨N, ν, O, w⟩ k R) : Holds ⟨N', ν', O', w⟩ (ρ k) (renR ρ R) := by
  rw [rlt_cells] at hR
  cases R with
  | var cells =>
    obtain ⟨b, us, g1, g2, g3, g4⟩ := h
    exact ⟨b, us, hk.trans g1, g2, Reps.push hN hO cells us hR g3, g4⟩
  | row e t l =>
    obtain ⟨vs, g1, g2, g3⟩ := h
    refine ⟨vs, by show World.ownsRow _ _ _ _ (ν' (ρ k)) _ _; rw [hk]; exact g1, ?_, g3⟩
    have this : Reps ⟨N', ν', O', w⟩ (renL ρ (flatL t l)) vs := Reps.push hN hO _ vs hR g2
    rw [ren_flatL] at this; exact this
  | rowA e sz n cells =>
    obtain ⟨vs, g1, g2, g3⟩ := h
    exact ⟨vs, by show World.ownsRow _ _ _ _ (ν' (ρ k)) _ _; rw [hk]; exact g1, Reps.push hN hO cells vs hR g2, g3⟩

theorem idx_lt {k : Nat} : ∀ {ks : List Nat}, k ∈ ks → idx k ks < ks.length ∧ ks[idx k ks]? = some k
  | a :: r, h => by
    simp only [idx]
    cases hb : Nat.beq k a with
    | true => have : k = a := beqN hb; subst this; exact ⟨by simp, by simp⟩
    | false =>
      have hne : k ≠ a := fun e => by subst e; simp at hb
      have hr : k ∈ r := (List.mem_cons.1 h).resolve_left hne
      obtain ⟨h1, h2⟩ := idx_lt hr
      exact ⟨by simp only [cond_false, List.length_cons]; omega, by simpa using h2⟩
theorem nth_idx {k : Nat} {ks : List Nat} (h : k ∈ ks) : nth ks (idx k ks) = k := by
  obtain ⟨h1, h2⟩ := idx_lt h
  simp only [nth, List.getD, h2, Option.getD_some]
theorem nth_get {ks : List Nat} {i k : Nat} (h : ks[i]? = some k) : nth ks i = k := by simp only [nth, List.getD, h, Option.getD_some]
theorem allIn_iff {ks : List Nat} : ∀ {l : List Nat}, allIn ks l = true ↔ ∀ k ∈ l, k ∈ ks
  | [] => by simp [allIn]
  | a :: r => by simp only [allIn, Bool.and_eq_true, memN_iff, allIn_iff (l := r), List.forall_mem_cons]
mutual
theorem ren_back {ks : List Nat} : ∀ (s : AV), (∀ k ∈ names s, k ∈ ks) → ren (nth ks) (ren (fun k => idx k ks) s) = s ∧ nlt ks.length (ren (fun k => idx k ks) s) = true
  | .un, _ | .b _, _ | .i _, _ | .u8 _, _ | .u32 _, _ | .u64 _, _ | .str _, _ | .sl _ _, _ | .st _ _, _ | .nil, _ => ⟨rfl, rfl⟩
  | .nm k, h => by have := h k (by simp [names]); exact ⟨by simp only [ren, nth_idx this], by simpa [ren, nlt] using (idx_lt this).1⟩
  | .pa k o, h => by have := h k (by simp [names]); exact ⟨by simp only [ren, nth_idx this], by simpa [ren, nlt] using (idx_lt this).1⟩
  | .pe k i s o, h => by have := h k (by simp [names]); exact ⟨by simp only [ren, nth_idx this], by simpa [ren, nlt] using (idx_lt this).1⟩
  | .pt l, h => by obtain ⟨h1, h2⟩ := renL_back l (by simpa only [names] using h); exact ⟨by simp only [ren, h1], by simp only [ren, nlt, h2]⟩
  | .agg l, h => by obtain ⟨h1, h2⟩ := renL_back l (by simpa only [names] using h); exact ⟨by simp only [ren, h1], by simp only [ren, nlt, h2]⟩
  | .tup l, h => by obtain ⟨h1, h2⟩ := renL_back l (by simpa only [names] using h); exact ⟨by simp only [ren, h1], by simp only [ren, nlt, h2]⟩
  | .fn f a b, h => by
    simp only [names] at h
    obtain ⟨h1, h2⟩ := renL_back a (fun k hk => h k (List.mem_append.2 (.inl hk)))
    obtain ⟨h3, h4⟩ := renL_back b (fun k hk => h k (List.mem_append.2 (.inr hk)))
    exact ⟨by simp only [ren, h1, h3], by simp only [ren, nlt, h2, h4]; rfl⟩
theorem renL_back {ks : List Nat} : ∀ (s : List AV), (∀ k ∈ namesL s, k ∈ ks) → renL (nth ks) (renL (fun k => idx k ks) s) = s ∧ nltL ks.length (renL (fun k => idx k ks) s) = true
  | [], _ => ⟨rfl, rfl⟩
  | s :: r, h => by
    simp only [namesL] at h
    obtain ⟨h1, h2⟩ := ren_back s (fun k hk => h k (List.mem_append.2 (.inl hk)))
    obtain ⟨h3, h4⟩ := renL_back r (fun k hk => h k (List.mem_append.2 (.inr hk)))
    exact ⟨by simp only [renL, h1, h3], by simp only [renL, nltL, h2, h4]; rfl⟩
end
theorem renR_back {ks : List Nat} {R : Rs} (h : ∀ k ∈ namesR R, k ∈ ks) : renR (nth ks) (renR (fun k => idx k ks) R) = R ∧ rlt ks.length (renR (fun k => idx k ks) R) = true := by
  cases R with
  | var l => obtain ⟨h1, h2⟩ := renL_back l h; exact ⟨by simp only [renR, h1], by simp only [renR, rlt, h2]⟩
  | row e t l => exact ⟨rfl, rfl⟩
  | rowA e s n l => obtain ⟨h1, h2⟩ := renL_back l h; exact ⟨by simp only [renR, h1], by simp only [renR, rlt, h2]⟩
theorem allInR_iff {ks : List Nat} : ∀ {l : List Rs}, allInR ks l = true ↔ ∀ R ∈ l, ∀ k ∈ namesR R, k ∈ ks
  | [] => by simp [allInR]
  | a :: r => by simp only [allInR, Bool.and_eq_true, allIn_iff, allInR_iff (l := r), List.forall_mem_cons]
theorem newOK_get : ∀ {n : Nat} {H : List (Option Rs)} {i : Nat}, newOK n H = true → n ≤ i → i < H.length → ∃ R, H[i]? = some (some R)
  | n, [], i, _, _, h => by simp at h
  | 0, none :: H, i, h, _, _ => by simp [newOK] at h
  | 0, some R :: H, 0, _, _, _ => ⟨R, rfl⟩
  | 0, some R :: H, i + 1, h, _, hi => by
    obtain ⟨R', h1⟩ := newOK_get (n := 0) (H := H) (i := i) (by simpa [newOK] using h) (Nat.zero_le _) (by simpa using hi)
    exact ⟨R', by simpa using h1⟩
  | n + 1, o :: H, 0, _, h, _ => by omega
  | n + 1, o :: H, i + 1, h, hi, hl => by
    obtain ⟨R', h1⟩ := newOK_get (n := n) (H := H) (i := i) (by simpa [newOK] using h) (by omega) (by simpa using hl)
    exact ⟨R', by simpa using h1⟩
theorem rltO_get : ∀ {M : Nat} {H : List (Option Rs)} {i : Nat} {R : Rs}, rltO M H = true → H[i]? = some (some R) → rlt M R = true
  | M, [], i, R, _, h => by simp at h
  | M, none :: H, 0, R, _, h => by simp at h
  | M, none :: H, i + 1, R, h, hi => rltO_get (H := H) (by simpa only [rltO] using h) (by simpa using hi)
  | M, some R0 :: H, 0, R, h, hi => by
    simp only [List.getElem?_cons_zero, Option.some.injEq] at hi
    subst hi
    simp only [rltO, Bool.and_eq_true] at h; exact h.1
  | M, some R0 :: H, i + 1, R, h, hi => by
    simp only [rltO, Bool.and_eq_true] at h
    exact rltO_get (H := H) h.2 (by simpa using hi)

/-- what a call leaves behind, in the caller's names -/
theorem Ok.lift {c : Cx} {ks : List Nat} {l : List Rs} {H : List (Option Rs)} {m : Nat} {s : AV} {v : Value} {w' : World} {ν0 : Nat → Value} (hnd : ks.Nodup) (hlen : l.length = ks.length) (hin : ∀ R ∈ l, ∀ k ∈ namesR R, k ∈ ks) (hle : ks.length ≤ H.length) (hnew : newOK ks.length H = true) (hs : nlt H.length s = true) (hr : rltO H.length H = true)
    (hks : ∀ k ∈ ks, k < m) (hN : ∀ k ∈ ks, c.N k) (hfresh : ∀ j, m ≤ j → j < m + (H.length - ks.length) → ¬ c.N j)
    (ok : Ok ⟨(· < ks.length), fun i => c.ν (nth ks i), c.O, c.w⟩ (idxF 0 (l.map (renR fun k => idx k ks))) (outF id 0 H) s v w' ν0) : ∃ ν', Ok c (zipF ks l) (outF (toName ks m) 0 H) (ren (toName ks m) s) v w' ν' := by
  let n := ks.length
  let ρ := toName ks m
  have hρ1 : ∀ i, i < n → ρ i = nth ks i := fun i hi => by
    show (bif Nat.blt i ks.length then nth ks i else _) = _
    rw [show Nat.blt i ks.length = true from by simpa using hi]; rfl
  have hρ2 : ∀ i, n ≤ i → ρ i = m + (i - n) := fun i hi => by
    show (bif Nat.blt i ks.length then nth ks i else _) = _
    rw [show Nat.blt i ks.length = false from by rw [Bool.eq_false_iff]; intro e; have : i < ks.length := by simpa using e
                                                 omega]; rfl
  have hmem : ∀ i, i < n → nth ks i ∈ ks := fun i hi => by
    have h : ks[i]? = some ks[i] := List.getElem?_eq_getElem hi
    rw [nth_get h]; exact List.getElem_mem hi
  have hget : ∀ i, i < n → ks[i]? = some (nth ks i) := fun i hi => by
    have h : ks[i]? = some ks[i] := List.getElem?_eq_getElem hi
    rw [nth_get h]; exact h
  have hinj : ∀ a b, a < H.length → b < H.length → ρ a = ρ b → a = b := by
    intro a b ha hb e
    rcases Nat.lt_or_ge a n with h1 | h1 <;> rcases Nat.lt_or_ge b n with h2 | h2
    · rw [hρ1 a h1, hρ1 b h2] at e
      exact (List.getElem?_inj h1 hnd).1 (by rw [hget a h1, hget b h2, e])
    · rw [hρ1 a h1, hρ2 b h2] at e
      have := hks _ (hmem a h1); omega
    · rw [hρ2 a h1, hρ1 b h2] at e
      have := hks _ (hmem b h2); omega
    · rw [hρ2 a h1, hρ2 b h2] at e; omega
  let ν' : Nat → Value := fun j => if m ≤ j ∧ j < m + (H.length - n) then ν0 (n + (j - m)) else c.ν j
  have hν1 : ∀ j, c.N j → ν' j = c.ν j := fun j hj => if_neg fun h => hfresh j h.1 h.2 hj
  have hold : ∀ i, i < n → ν0 i = c.ν (nth ks i) := fun i hi => ok.old i hi
  have hνρ : ∀ i, i < H.length → ν' (ρ i) = ν0 i := by
    intro i hi
    rcases Nat.lt_or_ge i n with h1 | h1
    · rw [hρ1 i h1, hν1 _ (hN _ (hmem i h1)), hold i h1]
    · rw [hρ2 i h1]
      show (if m ≤ m + (i - n) ∧ m + (i - n) < m + (H.length - n) then ν0 (n + (m + (i - n) - m)) else _) = _
      rw [if_pos ⟨by omega, by omega⟩]; congr 1; omega
  have hF : ∀ k R, flk k (zipF ks l) = some R → ∃ i, i < n ∧ nth ks i = k ∧ flk i (idxF 0 (l.map (renR fun k => idx k ks))) = some (renR (fun k => idx k ks) R) := by
    intro k R h
    obtain ⟨i, h1, h2⟩ := zipF_some h
    have hi : i < n := (List.getElem?_eq_some_iff.1 h1).1
    exact ⟨i, hi, nth_get h1, by rw [flk_idx0, List.getElem?_map, h2]; rfl⟩
  have hF2 : ∀ i R0, flk i (idxF 0 (l.map (renR fun k => idx k ks))) = some R0 → ∃ R, i < n ∧ flk (nth ks i) (zipF ks l) = some R := by
    intro i R0 h
    rw [flk_idx0, List.getElem?_map, Option.map_eq_some_iff] at h
    obtain ⟨R, h1, _⟩ := h
    have hi : i < n := by have := (List.getElem?_eq_some_iff.1 h1).1; show i < ks.length; omega
    exact ⟨R, hi, zipF_get hnd (hget i hi) h1⟩
  have hfb : ∀ b, fblk c.ν (zipF ks l) b ↔ fblk (fun i => c.ν (nth ks i)) (idxF 0 (l.map (renR fun k => idx k ks))) b := by
    intro b
    constructor
    · rintro ⟨k, R, hk, hb⟩
      obtain ⟨i, hi, hki, hfi⟩ := hF k R hk
      exact ⟨i, _, hfi, by show blk (c.ν (nth ks i)) = some b; rw [hki]; exact hb⟩
    · rintro ⟨i, R0, hi, hb⟩
      obtain ⟨R, hin, hR⟩ := hF2 i R0 hi
      exact ⟨_, R, hR, hb⟩
  have hG : ∀ j R', flk j (outF ρ 0 H) = some R' → ∃ i R, i < H.length ∧ H[i]? = some (some R) ∧ ρ i = j ∧ R' = renR ρ R ∧ has i (outF id 0 H) := by
    intro j R' h
    obtain ⟨q, R, h1, h2, h3⟩ := outF_some h
    rw [Nat.zero_add] at h2
    exact ⟨q, R, (List.getElem?_eq_some_iff.1 h1).1, h1, h2, h3, out0_get h1⟩
  have hG2 : ∀ i R, H[i]? = some (some R) → flk (ρ i) (outF ρ 0 H) = some (renR ρ R) := by
    intro i R h
    have := outF_get (ρ := ρ) (i := 0) (q := i) (fun a b _ h1 _ h2 e => hinj a b (by omega) (by omega) e) h
    simpa using this
  have hfb' : ∀ b, fblk ν' (outF ρ 0 H) b ↔ fblk ν0 (outF id 0 H) b := by
    intro b
    constructor
    · rintro ⟨j, R', hj, hb⟩
      obtain ⟨i, R, hi, h1, rfl, _, h2⟩ := hG j R' hj
      obtain ⟨R2, hR2⟩ := (has_iff _ _).1 h2
      exact ⟨i, R2, hR2, by rw [← hνρ i hi]; exact hb⟩
    · rintro ⟨i, R2, hi, hb⟩
      have h1 := flk_out0 hi
      exact ⟨ρ i, _, hG2 i R2 h1, by rw [hνρ i (List.getElem?_eq_some_iff.1 h1).1]; exact hb⟩
  have hNp : ∀ k, k < H.length → (k < n ∨ has k (outF id 0 H)) → (c.N (ρ k) ∨ has (ρ k) (outF ρ 0 H)) ∧ ν' (ρ k) = ν0 k := by
    intro k hk h
    refine ⟨?_, hνρ k hk⟩
    rcases Nat.lt_or_ge k n with h1 | h1
    · rw [hρ1 k h1]; exact .inl (hN _ (hmem k h1))
    · obtain ⟨R, hR⟩ := newOK_get hnew h1 hk
      exact .inr ((has_iff _ _).2 ⟨_, hG2 k R hR⟩)
  have hOO : ∀ w'', Stp (fun b => (c.O b ∧ ¬ fblk c.ν (zipF ks l) b) ∨ fblk ν' (outF ρ 0 H) b) w' w'' → Stp (fun b => (c.O b ∧ ¬ fblk (fun i => c.ν (nth ks i)) (idxF 0 (l.map (renR fun k => idx k ks))) b) ∨ fblk ν0 (outF id 0 H) b) w' w'' :=
    fun w'' hs => hs.mono fun i _ h => h.imp (fun h => ⟨h.1, fun e => h.2 ((hfb i).2 e)⟩) (hfb' i).1
  refine ⟨ν', hν1, ?_, fun j R' hj => ?_, fun j j' R R' b hj hj' hne hb => ?_, ok.stp.mono fun i _ h => (hfb i).2 h⟩
  · exact Rep.push (M := H.length) hNp hOO s v hs ok.rep
  · obtain ⟨i, R, hi, h1, rfl, rfl, h2⟩ := hG j R' hj
    obtain ⟨R2, hR2⟩ := (has_iff _ _).1 h2
    have h3 := flk_out0 hR2
    rw [h1] at h3
    simp only [Option.some.injEq] at h3
    subst h3
    obtain ⟨q1, q2⟩ := ok.res i R hR2
    refine ⟨Holds.push (M := H.length) hNp hOO (hνρ i hi) (rltO_get hr h1) q1, fun b hb => ?_⟩
    rw [hνρ i hi] at hb
    exact ⟨(q2 b hb).1, (q2 b hb).2.imp id (hfb b).2⟩
  · obtain ⟨i, R1, hi, h1, rfl, _, h2⟩ := hG j R hj
    obtain ⟨i', R1', hi', h1', rfl, _, h2'⟩ := hG j' R' hj'
    obtain ⟨R2, hR2⟩ := (has_iff _ _).1 h2
    obtain ⟨R2', hR2'⟩ := (has_iff _ _).1 h2'
    rw [hνρ i hi] at hb
    rw [hνρ i' hi']
    exact ok.dist i i' R2 R2' b hR2 hR2' (fun e => hne (by rw [e])) hb
theorem djB_iff {ks : List Nat} : ∀ {G : Fp}, djB ks G = true → ∀ k, has k G → k ∉ ks
  | [], _, k, h => absurd h (has_nil k)
  | (d, R) :: G, h, k, hk => by
    simp only [djB, Bool.and_eq_true, Bool.not_eq_true'] at h
    unfold has at hk
    rw [flk_cons] at hk
    split at hk
    · rename_i e; subst e; intro hm; rw [memN_iff.2 hm] at h; cases h.1
    · exact djB_iff h.2 k hk
section
variable {P : Program} {I : World → Prop} {L : LX} {ty : TypeId} {T : FT} {Q : Req → Option Rsp} {R : Type} {K : Tr → Option R} {r : R} {hk : Nat → Option Rs} {m : Nat}
theorem run_enter {e : Operand → Value} {fx : Operand} {xs : Array Operand} {ats : Array TypeId} {f : FuncId} {us vs : List Value} {w : World} (hen : Ent P f) (hf : e fx = .func (.func f) us.toArray vs.toArray) :
    (execOp e ⟨none, .call { callee := .value fx, args := xs, argTypes := ats }, ty, "", #[], none⟩).run P w = .ok (.enter f ((us ++ xs.toList.map e ++ vs).toArray)) w := by
  have h1 : execOp e ⟨none, .call { callee := .value fx, args := xs, argTypes := ats }, ty, "", #[], none⟩ = (do let d ← resolve e { callee := .value fx, args := xs, argTypes := ats } ty; invoke d.target d.args) := rfl
  have hargs : us.toArray ++ xs.map e ++ vs.toArray = (us ++ xs.toList.map e ++ vs).toArray := by apply Array.ext'; simp
  rw [h1]
  simp only [resolve, hf, Deferred.ofValue, Sem.run_bind, Sem.run_pure, Result.andThen_ok, invoke, hargs, hen _ w]
def FTok (P : Program) (T : FT) : Prop := ∀ f fi, filk f T = some fi → Ent P f
def QOK (P : Program) (I : World → Prop) (Q : Req → Option Rsp) : Prop := ∀ f args Hin s H, Q (.call f args Hin) = some (.ret s H) → SemC P I f args Hin s H
theorem forceRL_eq {α : Type} : ∀ (l : List Rs) (K : List Rs → α), forceRL l K = K l
  | [], K => rfl
  | s :: r, K => by simp only [forceRL, forceR_eq, forceRL_eq]
theorem evCall_ok (hT : FTok P T) (hQ : QOK P I Q) (hm : ∀ k R, hk k = some R → k < m) {fx : Operand} {xs : Array Operand} {ats : Array TypeId} (h : evCall T Q hk m (evx L fx) (evsX (evx L) xs.toList) K = some r) : ∃ tr, K tr = some r ∧ TrOK P I L hk m (.call { callee := .value fx, args := xs, argTypes := ats }) tr := by
  have main : ∀ (f : Nat) (fi : FI) (a b l : List AV) (vs : Fp) (all' : List AV), evx L fx = some (.fn f a b) → evsX (evx L) xs.toList = some l → filk f T = some fi → (∀ k Rr, flk k vs = some Rr → hk k = some Rr) →
      (∀ (c : Cx) (us : List Value), (∀ k Rr, flk k vs = some Rr → c.N k ∧ Holds c k Rr ∧ ∀ b, blk (c.ν k) = some b → c.O b) → Reps c (a ++ l ++ b) us → Reps (c.less vs) all' us) → evCall2 Q hk m f vs all' K = some r → ∃ tr, K tr = some r ∧ TrOK P I L hk m (.call { callee := .value fx, args := xs, argTypes := ats }) tr := by
    intro f fi a b l vs all' hf hl hfi hvk hall h
    unfold evCall2 at h
    rw [forceNs_eq] at h
    generalize hks : close hk 40 [] (namesL all') = ks at h
    unfold evCall3 at h
    split at h
    · rename_i Rl hR
      · cases hc : (nodupB ks && allIn ks (namesL all') && allInR ks Rl && djB ks vs) with
        | false => rw [hc] at h; cases h
        | true =>
          rw [hc] at h
          simp only [Bool.and_eq_true, nodupB_iff, allIn_iff, allInR_iff] at hc
          obtain ⟨⟨⟨hnd, hin⟩, hinR⟩, hdj⟩ := hc
          simp only [cond_true, forceL_eq, forceRL_eq] at h
          obtain ⟨res, hres, h⟩ := Option.bind_eq_some_iff.1 h
          obtain ⟨hlen, hget⟩ := rssOf_get hR
          split at h
          · rename_i s H
            cases hc2 : (Nat.ble ks.length H.length && newOK ks.length H && nlt H.length s && rltO H.length H) with
            | false => rw [hc2] at h; cases h
            | true =>
              rw [hc2] at h
              simp only [Bool.and_eq_true] at hc2
              obtain ⟨⟨⟨hle, hnew⟩, hs⟩, hr⟩ := hc2
              have hle : ks.length ≤ H.length := by simpa using hle
              have hsem := hQ _ _ _ _ _ hres
              have hzk : ∀ k Rr, flk k (zipF ks Rl) = some Rr → hk k = some Rr := by
                intro k Rr hkk
                obtain ⟨i, h1, h2⟩ := zipF_some hkk
                obtain ⟨R2, h3, h4⟩ := hget i k h1
                rw [h2] at h3
                obtain rfl := Option.some.inj h3
                exact h4
              have hksm : ∀ k ∈ ks, k < m := by
                intro k hkk
                obtain ⟨i, hi⟩ := List.getElem?_of_mem hkk
                obtain ⟨R2, _, h4⟩ := hget i k hi
                exact hm k R2 h4
              have hj : Dj vs (zipF ks Rl) := by
                intro k h1 h2
                obtain ⟨Rr, hRr⟩ := (has_iff _ _).1 h2
                obtain ⟨i, h3, _⟩ := zipF_some hRr
                exact djB_iff hdj k h1 (List.mem_of_getElem? h3)
              have hnewnm : ∀ k, has k (outF (toName ks m) 0 H) → has k (zipF ks Rl) ∨ (m ≤ k ∧ k < m + (H.length - ks.length)) := by
                intro k hkk
                obtain ⟨R', hR'⟩ := (has_iff _ _).1 hkk
                obtain ⟨q, Rq, h1, h2, _⟩ := outF_some hR'
                have hq : q < H.length := (List.getElem?_eq_some_iff.1 h1).1
                rw [Nat.zero_add] at h2
                subst h2
                rcases Nat.lt_or_ge q ks.length with h3 | h3
                · left
                  have e1 : toName ks m q = nth ks q := by unfold toName; rw [show Nat.blt q ks.length = true from by simpa using h3]; rfl
                  have e2 : ks[q]? = some (nth ks q) := by rw [nth_get (List.getElem?_eq_getElem h3)]; exact List.getElem?_eq_getElem h3
                  obtain ⟨R2, h4, _⟩ := hget q _ e2
                  rw [e1]
                  exact (has_iff _ _).2 ⟨R2, zipF_get hnd e2 h4⟩
                · right
                  have e1 : toName ks m q = m + (q - ks.length) := by
                    unfold toName
                    rw [show Nat.blt q ks.length = false from by rw [Bool.eq_false_iff]; intro e; have : q < ks.length := by simpa using e
                                                                 omega]; rfl
                  omega
              have hj' : Dj vs (outF (toName ks m) 0 H) := by
                intro k h1 h2
                rcases hnewnm k h2 with h3 | h3
                · exact hj k h1 h3
                · obtain ⟨Rr, hRr⟩ := (has_iff _ _).1 h1
                  have := hm k Rr (hvk k Rr hRr); omega
              -- the run
              have core : ∀ (bb : Bool), (bb = true → noRd (ren (toName ks m) s) = true) → (bb = true → noRdF (outF (toName ks m) 0 H) = true) →
                  TrOK P I L hk m (.call { callee := .value fx, args := xs, argTypes := ats }) ⟨ren (toName ks m) s, vs ++ zipF ks Rl, (bif bb then vs else []) ++ outF (toName ks m) 0 H, false, H.length - ks.length⟩ := by
                intro bb hb1 hb2
                refine ⟨fun ty c e hG he hP => ?_, fun k Rr hkk => ?_, fun k hkk => ?_, (fun h => by cases h)⟩
                · have hP1 := Pre.less (F'' := outF (toName ks m) 0 H) hj hP (fun k hkk => ?_) hG.lt
                  · have h0 := he fx _ hf
                    simp only [Rep] at h0
                    obtain ⟨us, vs', hfx, hu, hv⟩ := h0
                    have hargs := (hu.app (evsX_reps he _ _ hl)).app hv
                    unfold opw
                    rw [run_enter (hT f fi hfi) hfx]
                    have hres1 : ∀ k Rr, flk k vs = some Rr → c.N k ∧ Holds c k Rr ∧ ∀ b, blk (c.ν k) = some b → c.O b := fun k Rr hkk => hP.res k Rr (flk_left hkk)
                    have hargs1 : Reps (c.less vs) all' (us ++ xs.toList.map e ++ vs') := hall c _ hres1 hargs
                    have hN : ∀ k ∈ ks, c.N k := by
                      intro k hkk
                      obtain ⟨i, hi⟩ := List.getElem?_of_mem hkk
                      obtain ⟨R2, h3, _⟩ := hget i k hi
                      exact (hP.res k R2 (flk_right hj (zipF_get hnd hi h3))).1
                    have hmem : ∀ i, i < ks.length → ks[i]? = some (nth ks i) := fun i hi => by rw [nth_get (List.getElem?_eq_getElem hi)]; exact List.getElem?_eq_getElem hi
                    obtain ⟨hb1', hb2'⟩ := renL_back all' hin
                    have hlenR : (Rl.map (renR fun k => idx k ks)).length = ks.length := by simp [hlen]
                    have hrn : ∀ k, k < ks.length → (c.less vs).N (nth ks k) → k < (Rl.map (renR fun k => idx k ks)).length ∧ (fun i => (c.less vs).ν (nth ks i)) k = (c.less vs).ν (nth ks k) := fun k hk _ => ⟨by rw [hlenR]; exact hk, rfl⟩
                    have hGd : Good I ⟨(· < (Rl.map (renR fun k => idx k ks)).length), fun i => (c.less vs).ν (nth ks i), (c.less vs).O, (c.less vs).w⟩ := ⟨(hG.less vs).lt, (hG.less vs).inv⟩
                    have hRp : Reps ⟨(· < (Rl.map (renR fun k => idx k ks)).length), fun i => (c.less vs).ν (nth ks i), (c.less vs).O, (c.less vs).w⟩ (renL (fun k => idx k ks) all') (us ++ xs.toList.map e ++ vs') :=
                      Reps.ren (ρ := nth ks) (N := (c.less vs).N) (ν := (c.less vs).ν) (O := (c.less vs).O) hrn (fun _ h => h) _ _ hb2' (by rw [hb1']; exact hargs1)
                    have hPr : Pre ⟨(· < (Rl.map (renR fun k => idx k ks)).length), fun i => (c.less vs).ν (nth ks i), (c.less vs).O, (c.less vs).w⟩ (idxF 0 (Rl.map (renR fun k => idx k ks))) (outF id 0 H) := by
                      refine ⟨fun k Rr hkk => ?_, fun k k' Rr Rr' b h1 h2 hne hb => ?_, fun k hkk => ?_⟩
                      · rw [flk_idx0, List.getElem?_map, Option.map_eq_some_iff] at hkk
                        obtain ⟨R0, h1, rfl⟩ := hkk
                        have hk1 : k < ks.length := by have := (List.getElem?_eq_some_iff.1 h1).1; omega
                        obtain ⟨q1, q2, q3⟩ := hP1.res (nth ks k) R0 (zipF_get hnd (hmem k hk1) h1)
                        obtain ⟨b1, b2⟩ := renR_back (hinR R0 (List.mem_of_getElem? h1))
                        exact ⟨by show k < _; rw [hlenR]; exact hk1, Holds.ren (ρ := nth ks) (N := (c.less vs).N) (ν := (c.less vs).ν) (O := (c.less vs).O) hrn (fun _ h => h) rfl b2 (by rw [b1]; exact q2), q3⟩
                      · rw [flk_idx0, List.getElem?_map, Option.map_eq_some_iff] at h1 h2
                        obtain ⟨R0, h1, rfl⟩ := h1
                        obtain ⟨R0', h2, rfl⟩ := h2
                        have hk1 : k < ks.length := by have := (List.getElem?_eq_some_iff.1 h1).1; omega
                        have hk2 : k' < ks.length := by have := (List.getElem?_eq_some_iff.1 h2).1; omega
                        exact hP1.dist (nth ks k) (nth ks k') R0 R0' b (zipF_get hnd (hmem k hk1) h1) (zipF_get hnd (hmem k' hk2) h2) (fun e => hne ((List.getElem?_inj hk1 hnd).1 (by rw [hmem k hk1, hmem k' hk2, e]))) hb
                      · rcases Nat.lt_or_ge k ks.length with h1 | h1
                        · refine .inl ((has_iff _ _).2 ?_)
                          obtain ⟨R2, h3, _⟩ := hget k _ (hmem k h1)
                          exact ⟨_, by rw [flk_idx0, List.getElem?_map, h3]; rfl⟩
                        · exact .inr (by show ¬ k < _; rw [hlenR]; omega)
                    refine Calls.mono (hsem _ _ _ _ hGd hRp hPr) fun rr w' hh => ?_
                    cases rr with
                    | returned v =>
                      obtain ⟨ν0, ok⟩ := hh
                      have ok' : Ok ⟨(· < ks.length), fun i => (c.less vs).ν (nth ks i), (c.less vs).O, (c.less vs).w⟩ (idxF 0 (Rl.map (renR fun k => idx k ks))) (outF id 0 H) s v w' ν0 := by rw [hlenR] at ok; exact ok
                      obtain ⟨ν', ok2⟩ := Ok.lift (c := c.less vs) hnd hlen hinR hle hnew hs hr hksm hN (fun j h1 h2 hNj => by
                        have hj1 : has j (outF (toName ks m) 0 H) := by
                          obtain ⟨Rq, hRq⟩ := newOK_get hnew (i := ks.length + (j - m)) (by omega) (by omega)
                          have hinj : ∀ a b, 0 ≤ a → a < 0 + H.length → 0 ≤ b → b < 0 + H.length → toName ks m a = toName ks m b → a = b := by
                            intro a b _ ha _ hb e
                            have t1 : ∀ i, i < ks.length → toName ks m i = nth ks i := fun i hi => by unfold toName; rw [show Nat.blt i ks.length = true from by simpa using hi]; rfl
                            have t2 : ∀ i, ks.length ≤ i → toName ks m i = m + (i - ks.length) := fun i hi => by
                              unfold toName
                              rw [show Nat.blt i ks.length = false from by rw [Bool.eq_false_iff]; intro e; have : i < ks.length := by simpa using e
                                                                           omega]; rfl
                            rcases Nat.lt_or_ge a ks.length with g1 | g1 <;> rcases Nat.lt_or_ge b ks.length with g2 | g2
                            · rw [t1 a g1, t1 b g2] at e
                              exact (List.getElem?_inj g1 hnd).1 (by rw [hmem a g1, hmem b g2, e])
                            · rw [t1 a g1, t2 b g2] at e
                              have := hksm _ (List.mem_of_getElem? (hmem a g1)); omega
                            · rw [t2 a g1, t1 b g2] at e
                              have := hksm _ (List.mem_of_getElem? (hmem b g2)); omega
                            · rw [t2 a g1, t2 b g2] at e; omega
                          have := outF_get (ρ := toName ks m) (i := 0) (q := ks.length + (j - m)) hinj hRq
                          have e2 : toName ks m (0 + (ks.length + (j - m))) = j := by
                            unfold toName
                            rw [show Nat.blt (0 + (ks.length + (j - m))) ks.length = false from by rw [Bool.eq_false_iff]; intro e; have : 0 + (ks.length + (j - m)) < ks.length := by simpa using e
                                                                                                   omega]
                            simp only [cond_false]; omega
                          rw [e2] at this
                          exact (has_iff _ _).2 ⟨_, this⟩
                        rcases hP.new j (has_right hj1) with h3 | h3
                        · rcases (has_app _ _ _).1 h3 with h4 | h4
                          · obtain ⟨Rr, hRr⟩ := (has_iff _ _).1 h4
                            have := hm j Rr (hvk j Rr hRr); omega
                          · obtain ⟨Rr, hRr⟩ := (has_iff _ _).1 h4
                            have := hm j Rr (hzk j Rr hRr); omega
                        · exact h3 hNj) ok'
                      exact ⟨ν', Ok.lendOr bb hj hj' hG.lt hP.res hP.dist hb1 hb2 ok2⟩
                    | panicked ch => exact hh
                    | outgrown => exact hh
                  · rcases hP.new k (has_right hkk) with h1 | h1
                    · rcases (has_app _ _ _).1 h1 with h2 | h2
                      · exact absurd hkk (hj' k h2)
                      · exact .inl h2
                    · exact .inr h1
                · rw [flk_app] at hkk
                  cases hg : flk k vs with
                  | some R2 => rw [hg] at hkk; obtain rfl := Option.some.inj hkk; exact hvk k R2 hg
                  | none => rw [hg] at hkk; exact hzk k Rr hkk
                · rcases (has_app _ _ _).1 hkk with h1 | h1
                  · cases bb with
                    | true => exact .inl ((has_app _ _ _).2 (.inl h1))
                    | false => exact absurd h1 (has_nil k)
                  · rcases hnewnm k h1 with h2 | h2
                    · exact .inl ((has_app _ _ _).2 (.inr h2))
                    · exact .inr h2
              cases hb : (noRd (ren (toName ks m) s) && noRdF (outF (toName ks m) 0 H)) with
              | true =>
                rw [hb] at h
                simp only [Bool.and_eq_true] at hb
                exact ⟨_, h, core true (fun _ => hb.1) (fun _ => hb.2)⟩
              | false => rw [hb] at h; exact ⟨_, h, core false (fun h => by cases h) (fun h => by cases h)⟩
          · cases h
    · cases h
  unfold evCall at h
  split at h
  · rename_i f a b l hf hl
    split at h
    · rename_i fi hfi
      cases hp : fi.pown with
      | true =>
        rw [hp] at h
        simp only [cond_true, forceL_eq] at h
        exact main f fi a b l [] _ hf hl hfi (fun k Rr h => by cases h) (fun c us _ hr => normL_ok _ (Reps.le (c.less_le []) _ _ (nqL_none _) hr)) h
      | false =>
        rw [hp] at h
        simp only [cond_false, forceL_eq] at h
        exact main f fi a b l _ _ hf hl hfi (fun k Rr hkk => (rowsOf_some hkk).1) (fun c us hres hr => normL_ok _ (vwL_ok hres _ _ (fun k hkk e' t' l' hh => rowsOf_get (mem_nub.2 (.inr hkk)) hh) hr)) h
    · cases h
  · cases h
end
end Go.Ax
