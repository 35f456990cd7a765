/-
  Own text. The abstract machine: how rows are looked at, given up, lent; how variables and rows change. It claims nothing of any program.
-/
import Derived.Test.YtlaglaehkhmklaaAx6
namespace Go.Ax
open Go Go.RowKit Go.Eng
set_option linter.unusedVariables false
set_option linter.unusedSimpArgs false

/-! ### Footprints -/
theorem flk_app (k : Nat) : ∀ (G F : Fp), flk k (G ++ F) = (flk k G).or (flk k F)
  | [], F => rfl
  | (d, v) :: G, F => by rw [List.cons_append, flk_cons, flk_cons, flk_app k G F]; split <;> rfl
theorem has_app (k : Nat) (G F : Fp) : has k (G ++ F) ↔ has k G ∨ has k F := by
  unfold has; rw [flk_app]; cases flk k G <;> simp
theorem has_iff (k : Nat) (F : Fp) : has k F ↔ ∃ R, flk k F = some R := by unfold has; exact Option.isSome_iff_exists
/-- no name of G is one of F -/
def Dj (G F : Fp) : Prop := ∀ k, has k G → ¬ has k F
theorem flk_right {G F : Fp} (h : Dj G F) {k : Nat} {R : Rs} (hk : flk k F = some R) : flk k (G ++ F) = some R := by
  rw [flk_app]
  cases hg : flk k G with
  | none => exact hk
  | some R' => exact absurd ((has_iff k F).2 ⟨R, hk⟩) (h k ((has_iff k G).2 ⟨R', hg⟩))
theorem flk_left {G F : Fp} {k : Nat} {R : Rs} (hk : flk k G = some R) : flk k (G ++ F) = some R := by rw [flk_app, hk]; rfl
theorem fblk_app {ν : Nat → Value} {G F : Fp} (h : Dj G F) (b : Nat) : fblk ν (G ++ F) b ↔ fblk ν G b ∨ fblk ν F b := by
  constructor
  · rintro ⟨k, R, hk, hb⟩
    rw [flk_app] at hk
    cases hg : flk k G with
    | none => rw [hg] at hk; exact .inr ⟨k, R, hk, hb⟩
    | some R' => exact .inl ⟨k, R', hg, hb⟩
  · rintro (⟨k, R, hk, hb⟩ | ⟨k, R, hk, hb⟩)
    · exact ⟨k, R, flk_left hk, hb⟩
    · exact ⟨k, R, flk_right h hk, hb⟩
theorem fblk_nil (ν : Nat → Value) (b : Nat) : ¬ fblk ν [] b := fun ⟨k, R, h, _⟩ => by cases h
theorem fblk_one {ν : Nat → Value} {k : Nat} {R : Rs} (b : Nat) : fblk ν [(k, R)] b ↔ blk (ν k) = some b := by
  constructor
  · rintro ⟨q, R', h, hb⟩
    rw [flk_cons] at h
    split at h
    · rename_i e; rw [← e]; exact hb
    · cases h
  · intro h; exact ⟨k, R, by rw [flk_cons, if_pos rfl], h⟩
theorem has_one (k q : Nat) (R : Rs) : has q [(k, R)] ↔ q = k := by
  unfold has; rw [flk_cons]; split <;> simp_all
theorem notIn_iff {k : Nat} : ∀ {G : Fp}, notIn k G = true ↔ ¬ has k G
  | [] => by simp [notIn, has]
  | (d, v) :: G => by
    unfold has
    rw [flk_cons]
    simp only [notIn, Bool.and_eq_true, Bool.not_eq_true']
    rw [notIn_iff (G := G)]
    unfold has
    by_cases h : k = d
    · subst h; simp
    · have : Nat.beq k d = false := by rw [Bool.eq_false_iff]; intro e; exact h (by simpa using e)
      simp [h, this]

/-- the same place without what the rows of G lie in -/
def Cx.less (c : Cx) (G : Fp) : Cx := ⟨c.N, c.ν, fun b => c.O b ∧ ¬ fblk c.ν G b, c.w⟩
theorem Cx.less_le (c : Cx) (G : Fp) : Cx.Le none c (c.less G) := ⟨fun k _ h => ⟨h, rfl⟩, fun w'' hs => hs.mono fun i _ h => h.1⟩
theorem Good.less {I : World → Prop} {c : Cx} (h : Good I c) (G : Fp) : Good I (c.less G) := ⟨fun b hb => h.lt b hb.1, fun w' hs => h.inv w' ((c.less_le G).st w' hs)⟩
theorem Pre.left {c : Cx} {G F F' : Fp} (h : Pre c (G ++ F) F') : (∀ k R, flk k G = some R → c.N k ∧ Holds c k R ∧ ∀ b, blk (c.ν k) = some b → c.O b) ∧ (∀ k k' R R' b, flk k G = some R → flk k' G = some R' → k ≠ k' → blk (c.ν k) = some b → blk (c.ν k') ≠ some b) :=
  ⟨fun k R hk => h.res k R (flk_left hk), fun k k' R R' b h1 h2 => h.dist k k' R R' b (flk_left h1) (flk_left h2)⟩
theorem Pre.less {c : Cx} {G F F' F'' : Fp} (hj : Dj G F) (h : Pre c (G ++ F) F') (hn : ∀ k, has k F'' → has k F ∨ ¬ c.N k) (hlt : ∀ b, c.O b → b < c.w.heap.size) : Pre (c.less G) F F'' := by
  refine ⟨fun k R hk => ?_, fun k k' R R' b h1 h2 => h.dist k k' R R' b (flk_right hj h1) (flk_right hj h2), hn⟩
  obtain ⟨h1, h2, h3⟩ := h.res k R (flk_right hj hk)
  refine ⟨h1, Holds.le (c.less_le G) (nqL_none _) rfl (fun b hb => ⟨hlt b (h3 b hb), rfl⟩) h2, fun b hb => ⟨h3 b hb, ?_⟩⟩
  rintro ⟨q, R', hq, hb'⟩
  refine h.dist q k R' R b (flk_left hq) (flk_right hj hk) ?_ hb' hb
  rintro rfl
  exact hj q ((has_iff _ _).2 ⟨_, hq⟩) ((has_iff _ _).2 ⟨_, hk⟩)

/-- a row, read from now on -/
theorem HoldsM.reads {c : Cx} {k e : Nat} {t : Ty} {l : List (El t)} (h : HoldsM c k e t.n l.length (flatL t l)) {O' : Nat → Prop} (hO : ∀ b, O' b → c.O b ∧ blk (c.ν k) ≠ some b) : ∀ w', Stp O' c.w w' → Rd t l (c.ν k) w' := by
  obtain ⟨vs, h1, h2, h3⟩ := h
  obtain ⟨cs, rfl, hcs⟩ := h2.flatL
  intro w' hs
  refine ⟨cs, hcs.mono fun x m hm => hm.cr w' (hs.mono fun i _ hi => (hO i hi).1), ?_⟩
  exact Sl.of_own (own_keep h1 hs fun b hb hq => (hO b hq).2 hb)
theorem rdA_ok {hk : Nat → Option Rs} {a b : AV} {G : Fp} (h : rdA hk a = some (b, G)) : (∀ k R, flk k G = some R → hk k = some R) ∧ (∀ k R, flk k G = some R → ∃ e t l, R = .row e t l) ∧
    ∀ (c : Cx) (v : Value), Rep c a v → (∀ k R, flk k G = some R → c.N k ∧ Holds c k R ∧ ∀ b, blk (c.ν k) = some b → c.O b) → ∀ G', (∀ b, fblk c.ν G b → fblk c.ν G' b) → Rep (c.less G') b v := by
  unfold rdA at h
  split at h
  · rename_i k
    split at h
    · rename_i e t l hkk
      simp only [Option.some.injEq, Prod.mk.injEq] at h
      obtain ⟨rfl, rfl⟩ := h
      refine ⟨fun q R hq => ?_, fun q R hq => ?_, fun c v hr hres G' hG' => ?_⟩
      · rw [flk_cons] at hq
        split at hq
        · rename_i hqk; obtain rfl := Option.some.inj hq; rw [hqk]; exact hkk
        · cases hq
      · rw [flk_cons] at hq
        split at hq
        · obtain rfl := Option.some.inj hq; exact ⟨_, _, _, rfl⟩
        · cases hq
      · simp only [Rep] at hr ⊢
        obtain ⟨_, rfl, _⟩ := hr
        obtain ⟨_, h2, _⟩ := hres k _ (by rw [flk_cons, if_pos rfl])
        refine HoldsM.reads h2 fun b hb => ⟨hb.1, fun e => hb.2 (hG' b ((fblk_one b).2 e))⟩
    · cases h
  · simp only [Option.some.injEq, Prod.mk.injEq] at h
    obtain ⟨rfl, rfl⟩ := h
    exact ⟨(fun k R h => by cases h), (fun k R h => by cases h), fun c v hr _ G' _ => Rep.le (c.less_le G') _ _ (nq_none _) hr⟩

mutual
theorem Rep.noRd {N : Nat → Prop} {ν : Nat → Value} {O O' : Nat → Prop} {w : World} : ∀ (s : AV) (u : Value), Ax.noRd s = true → Rep ⟨N, ν, O, w⟩ s u → Rep ⟨N, ν, O', w⟩ s u
  | .un, u, _, hr => by simp only [Rep]
  | .b _, u, _, hr => by simpa only [Rep] using hr
  | .i _, u, _, hr => by simpa only [Rep] using hr
  | .u8 _, u, _, hr => by simpa only [Rep] using hr
  | .u32 _, u, _, hr => by simpa only [Rep] using hr
  | .u64 _, u, _, hr => by simpa only [Rep] using hr
  | .str _, u, _, hr => by simpa only [Rep] using hr
  | .nil, u, _, hr => by simpa only [Rep] using hr
  | .nm k, u, _, hr => by simpa only [Rep] using hr
  | .pa k o, u, _, hr => by simpa only [Rep] using hr
  | .pe k i s o, u, _, hr => by simpa only [Rep] using hr
  | .sl t l, u, h, hr => by cases h
  | .st t l, u, h, hr => by cases h
  | .pt l, u, h, hr => by cases h
  | .tup l, u, h, hr => by
    simp only [Rep] at hr ⊢
    obtain ⟨us, h1, h2⟩ := hr
    exact ⟨us, h1, Reps.noRd l us (by simpa only [Ax.noRd] using h) h2⟩
  | .agg l, u, h, hr => by
    simp only [Rep] at hr ⊢
    obtain ⟨us, h1, h2, h3⟩ := hr
    exact ⟨us, h1, Reps.noRd l us (by simpa only [Ax.noRd] using h) h2, h3⟩
  | .fn f l p, u, h, hr => by
    simp only [Rep] at hr ⊢
    obtain ⟨us, vs, h1, h2, h3⟩ := hr
    simp only [Ax.noRd, Bool.and_eq_true] at h
    exact ⟨us, vs, h1, Reps.noRd l us h.1 h2, Reps.noRd p vs h.2 h3⟩
theorem Reps.noRd {N : Nat → Prop} {ν : Nat → Value} {O O' : Nat → Prop} {w : World} : ∀ (s : List AV) (u : List Value), noRdL s = true → Reps ⟨N, ν, O, w⟩ s u → Reps ⟨N, ν, O', w⟩ s u
  | [], u, _, hr => by simpa only [Reps] using hr
  | s :: r, u, h, hr => by
    simp only [Reps] at hr ⊢
    obtain ⟨v, t, h1, h2, h3⟩ := hr
    simp only [noRdL, Bool.and_eq_true] at h
    exact ⟨v, t, h1, Rep.noRd s v h.1 h2, Reps.noRd r t h.2 h3⟩
end
theorem noRdL_app : ∀ (l r : List AV), noRdL (l ++ r) = (noRdL l && noRdL r)
  | [], r => by simp [noRdL]
  | s :: l, r => by simp only [List.cons_append, noRdL, noRdL_app l r, Bool.and_assoc]
theorem noRd_flat : ∀ (t : Ty) (x : El t), t.plain = true → noRdL (flat t x) = true
  | .bool, _, _ | .i64, _, _ | .u8, _, _ | .u32, _, _ | .u64, _, _ | .str, _, _ | .unit, _, _ => rfl
  | .sl _, _, h => by cases h
  | .pair a b, x, h => by
    simp only [Ty.plain, Bool.and_eq_true] at h
    rw [flat, noRdL_app, noRd_flat a _ h.1, noRd_flat b _ h.2]; rfl
theorem noRd_flatL (t : Ty) (h : t.plain = true) : ∀ (l : List (El t)), noRdL (flatL t l) = true
  | [] => rfl
  | x :: l => by rw [flatL, noRdL_app, noRd_flat t x h, noRd_flatL t h l]; rfl
theorem noRdR_cells (R : Rs) (h : noRdR R = true) : noRdL R.cells = true := by
  cases R with
  | var l => exact h
  | rowA e sz n l => exact h
  | row e t l => exact noRd_flatL t h l
theorem Holds.noRd {N : Nat → Prop} {ν : Nat → Value} {O O' : Nat → Prop} {w : World} {k : Nat} {R : Rs} (hR : noRdR R = true) (h : Holds ⟨N, ν, O, w⟩ k R) : Holds ⟨N, ν, O', w⟩ k R := by
  have hc := noRdR_cells R hR
  cases R with
  | var l => obtain ⟨b, us, h1, h2, h3, h4⟩ := h; exact ⟨b, us, h1, h2, Reps.noRd _ _ hc h3, h4⟩
  | row e t l => obtain ⟨vs, h1, h2, h3⟩ := h; exact ⟨vs, h1, Reps.noRd _ _ hc h2, h3⟩
  | rowA e sz n l => obtain ⟨vs, h1, h2, h3⟩ := h; exact ⟨vs, h1, Reps.noRd _ _ hc h2, h3⟩
theorem noRdF_flk : ∀ {F : Fp} {k : Nat} {R : Rs}, noRdF F = true → flk k F = some R → noRdR R = true
  | [], k, R, _, h => by cases h
  | (d, v) :: F, k, R, h, hk => by
    simp only [noRdF, Bool.and_eq_true] at h
    rw [flk_cons] at hk
    split at hk
    · obtain rfl := Option.some.inj hk; exact h.1
    · exact noRdF_flk h.2 hk

/-! ### Rows that are looked at -/
/-- .. are given up -/
theorem Ok.consume {c : Cx} {G F F' : Fp} {s : AV} {v : Value} {w' : World} {ν' : Nat → Value} (hj : Dj G F) (ok : Ok (c.less G) F F' s v w' ν') : Ok c (G ++ F) F' s v w' ν' := by
  have hO : (fun b => ((c.less G).O b ∧ ¬ fblk (c.less G).ν F b) ∨ fblk ν' F' b) = fun b => (c.O b ∧ ¬ fblk c.ν (G ++ F) b) ∨ fblk ν' F' b := by
    funext b
    have := fblk_app (ν := c.ν) hj b
    refine propext ⟨fun h => h.imp (fun h => ⟨h.1.1, fun e => ?_⟩) id, fun h => h.imp (fun h => ⟨⟨h.1, fun e => h.2 (this.2 (.inl e))⟩, fun e => h.2 (this.2 (.inr e))⟩) id⟩
    exact (this.1 e).elim h.1.2 h.2
  obtain ⟨h1, h2, h3, h4, h5⟩ := ok
  rw [hO] at h2 h3
  exact ⟨h1, h2, fun k R hk => ⟨(h3 k R hk).1, fun b hb => ⟨((h3 k R hk).2 b hb).1, ((h3 k R hk).2 b hb).2.imp id fun e => (fblk_app hj b).2 (.inr e)⟩⟩, h4, h5.mono fun i _ h => (fblk_app hj i).2 (.inr h)⟩
/-- .. are only lent -/
theorem Ok.borrow {c : Cx} {G F F' : Fp} {s : AV} {v : Value} {w' : World} {ν' : Nat → Value} (hj : Dj G F) (hj' : Dj G F') (hlt : ∀ b, c.O b → b < c.w.heap.size)
    (hres : ∀ k R, flk k (G ++ F) = some R → c.N k ∧ Holds c k R ∧ ∀ b, blk (c.ν k) = some b → c.O b) (hdist : ∀ k k' R R' b, flk k (G ++ F) = some R → flk k' (G ++ F) = some R' → k ≠ k' → blk (c.ν k) = some b → blk (c.ν k') ≠ some b)
    (hs : noRd s = true) (hF : noRdF F' = true) (ok : Ok (c.less G) F F' s v w' ν') : Ok c (G ++ F) (G ++ F') s v w' ν' := by
  obtain ⟨h1, h2, h3, h4, h5⟩ := ok
  have hνG : ∀ k R, flk k G = some R → ν' k = c.ν k := fun k R hk => h1 k (hres k R (flk_left hk)).1
  have hbG : ∀ b, fblk ν' G b ↔ fblk c.ν G b := fun b => ⟨fun ⟨k, R, hk, hb⟩ => ⟨k, R, hk, by rw [← hνG k R hk]; exact hb⟩, fun ⟨k, R, hk, hb⟩ => ⟨k, R, hk, by rw [hνG k R hk]; exact hb⟩⟩
  have hGF : ∀ b, fblk c.ν G b → ¬ fblk c.ν F b := by
    rintro b ⟨k, R, hk, hb⟩ ⟨q, R', hq, hb'⟩
    refine hdist k q R R' b (flk_left hk) (flk_right hj hq) ?_ hb hb'
    rintro rfl
    exact hj k ((has_iff _ _).2 ⟨_, hk⟩) ((has_iff _ _).2 ⟨_, hq⟩)
  have hGO : ∀ b, fblk c.ν G b → c.O b := by rintro b ⟨k, R, hk, hb⟩; exact (hres k R (flk_left hk)).2.2 b hb
  have hN : (fun k => c.N k ∨ has k (G ++ F')) = fun k => (c.less G).N k ∨ has k F' := by
    funext k
    refine propext ⟨fun h => ?_, fun h => h.imp id fun h => (has_app _ _ _).2 (.inr h)⟩
    rcases h with h | h
    · exact .inl h
    · rcases (has_app _ _ _).1 h with h | h
      · obtain ⟨R, hR⟩ := (has_iff _ _).1 h; exact .inl (hres k R (flk_left hR)).1
      · exact .inr h
  -- names that are kept: which blocks are whose
  have hold : ∀ b, (c.O b ∧ ¬ fblk c.ν (G ++ F) b) ∨ fblk ν' (G ++ F') b → b < c.w.heap.size → c.O b := by
    rintro b (h | h) hb
    · exact h.1
    · rcases (fblk_app hj' b).1 h with h | h
      · exact hGO b ((hbG b).1 h)
      · obtain ⟨k, R, hk, hb'⟩ := h
        rcases ((h3 k R hk).2 b hb').2 with h6 | h6
        · exact absurd hb (Nat.not_lt.2 h6)
        · obtain ⟨q, R', hq, hb2⟩ := h6; exact (hres q R' (flk_right hj hq)).2.2 b hb2
  have hFO : ∀ b, fblk c.ν F b → c.O b := by rintro b ⟨k, R, hk, hb⟩; exact (hres k R (flk_right hj hk)).2.2 b hb
  refine ⟨h1, ?_, fun k R hk => ?_, fun k k' R R' b hk hk' hne hb => ?_, h5.mono fun i _ h => (fblk_app hj i).2 (.inr h)⟩
  · rw [hN]; exact Rep.noRd s v hs h2
  · rw [hN]
    rw [flk_app] at hk
    cases hg : flk k G with
    | some R0 =>
      rw [hg] at hk
      obtain rfl := Option.some.inj hk
      obtain ⟨q1, q2, q3⟩ := hres k R0 (flk_left hg)
      refine ⟨Holds.le (c := c) (m := none) ⟨fun q _ h => ⟨.inl h, h1 q h⟩, fun w'' hs => h5.then hs (fun i _ h => hFO i h) fun i hi h => hold i h hi⟩ (nqL_none _) (h1 k q1) (fun b hb => ?_) q2, fun b hb => ?_⟩
      · exact ⟨hlt b (q3 b hb), h5.block b (hlt b (q3 b hb)) (hGF b ⟨k, R0, hg, hb⟩)⟩
      · rw [hνG k R0 hg] at hb
        exact ⟨Nat.lt_of_lt_of_le (hlt b (q3 b hb)) h5.size, .inr ((fblk_app hj b).2 (.inl ⟨k, R0, hg, hb⟩))⟩
    | none =>
      rw [hg] at hk
      have hk : flk k F' = some R := hk
      obtain ⟨q1, q2⟩ := h3 k R hk
      exact ⟨Holds.noRd (noRdF_flk hF hk) q1, fun b hb => ⟨(q2 b hb).1, (q2 b hb).2.imp id fun e => (fblk_app hj b).2 (.inr e)⟩⟩
  · rw [flk_app] at hk hk'
    have cross : ∀ k k' R R' b, flk k G = some R → flk k' F' = some R' → blk (ν' k) = some b → blk (ν' k') ≠ some b := by
      intro k k' R R' b hk hk' hb hb'
      rw [hνG k R hk] at hb
      have hbl : b < c.w.heap.size := hlt b ((hres k R (flk_left hk)).2.2 b hb)
      rcases ((h3 k' R' hk').2 b hb').2 with h6 | h6
      · exact absurd hbl (Nat.not_lt.2 h6)
      · exact hGF b ⟨k, R, hk, hb⟩ h6
    cases hg : flk k G with
    | some R0 =>
      cases hg' : flk k' G with
      | some R0' =>
        rw [hνG k R0 hg] at hb
        rw [hνG k' R0' hg']
        exact hdist k k' R0 R0' b (flk_left hg) (flk_left hg') hne hb
      | none => rw [hg'] at hk'; exact cross k k' R0 R' b hg hk' hb
    | none =>
      rw [hg] at hk
      cases hg' : flk k' G with
      | some R0' => intro hb'; exact cross k' k R0' R b hg' hk hb' hb
      | none => rw [hg'] at hk'; exact h4 k k' R R' b hk hk' hne hb
/-- nothing changes -/
theorem Ok.same {c : Cx} {F : Fp} {s : AV} {v : Value} (hlt : ∀ b, c.O b → b < c.w.heap.size) (hres : ∀ k R, flk k F = some R → c.N k ∧ Holds c k R ∧ ∀ b, blk (c.ν k) = some b → c.O b)
    (hdist : ∀ k k' R R' b, flk k F = some R → flk k' F = some R' → k ≠ k' → blk (c.ν k) = some b → blk (c.ν k') ≠ some b) (hr : Rep c s v) : Ok c F F s v c.w c.ν := by
  have hle : Cx.Le none c ⟨fun q => c.N q ∨ has q F, c.ν, fun b => (c.O b ∧ ¬ fblk c.ν F b) ∨ fblk c.ν F b, c.w⟩ := ⟨fun q _ h => ⟨.inl h, rfl⟩, fun w'' hs => hs.mono fun i _ hi => by
    rcases hi with h | ⟨k, R, hk, hb⟩
    · exact h.1
    · exact (hres k R hk).2.2 i hb⟩
  refine ⟨fun _ _ => rfl, Rep.le hle s v (nq_none s) hr, fun k R hk => ?_, hdist, Stp.refl _ _⟩
  obtain ⟨h1, h2, h3⟩ := hres k R hk
  exact ⟨Holds.le hle (nqL_none _) rfl (fun b hb => ⟨hlt b (h3 b hb), rfl⟩) h2, fun b hb => ⟨hlt b (h3 b hb), .inr ⟨k, R, hk, hb⟩⟩⟩
/-- one resource changes, in its own block -/
theorem Ok.change {c : Cx} {k : Nat} {R R' : Rs} {s : AV} {v : Value} {w' : World} (hN : c.N k) (hO : ∀ b, blk (c.ν k) = some b → c.O b) (hlt : ∀ b, c.O b → b < c.w.heap.size) (hs : Stp (fun b => blk (c.ν k) = some b) c.w w') (hA : Holds ⟨c.N, c.ν, c.O, w'⟩ k R') (hr : Rep ⟨c.N, c.ν, c.O, w'⟩ s v) : Ok c [(k, R)] [(k, R')] s v w' c.ν := by
  have hle : Cx.Le none ⟨c.N, c.ν, c.O, w'⟩ ⟨fun q => c.N q ∨ has q [(k, R')], c.ν, fun x => (c.O x ∧ ¬ fblk c.ν [(k, R)] x) ∨ fblk c.ν [(k, R')] x, w'⟩ :=
    ⟨fun q _ h => ⟨.inl h, rfl⟩, fun w'' h => h.mono fun i _ hi => by
      rcases hi with h | h
      · exact h.1
      · exact hO i ((fblk_one i).1 h)⟩
  have hbw : ∀ b, blk (c.ν k) = some b → b < w'.heap.size := fun b hb => Nat.lt_of_lt_of_le (hlt b (hO b hb)) hs.size
  refine ⟨fun _ _ => rfl, Rep.le hle s v (nq_none s) hr, fun q R0 hq => ?_, fun q q' R0 R0' b hq hq' hne => ?_, hs.mono fun i _ h => (fblk_one i).2 h⟩
  · rw [flk_cons] at hq
    split at hq
    · rename_i e; subst e
      obtain rfl := Option.some.inj hq
      exact ⟨Holds.le hle (nqL_none _) rfl (fun b hb => ⟨hbw b hb, rfl⟩) hA, fun b hb => ⟨hbw b hb, .inr ((fblk_one b).2 hb)⟩⟩
    · cases hq
  · have h1 := (has_one k q R').1 ((has_iff _ _).2 ⟨_, hq⟩)
    have h2 := (has_one k q' R').1 ((has_iff _ _).2 ⟨_, hq'⟩)
    omega
/-- something new -/
theorem Ok.new {c : Cx} {k : Nat} {R : Rs} {s : AV} {v u : Value} {w' : World} (hk : ¬ c.N k) (hs : Stp No c.w w') (hb : ∀ b, blk u = some b → c.w.heap.size ≤ b ∧ b < w'.heap.size)
    (hA : Holds ⟨fun q => c.N q ∨ q = k, fun q => if q = k then u else c.ν q, fun b => c.O b ∨ blk u = some b, w'⟩ k R) (hr : Rep ⟨fun q => c.N q ∨ q = k, fun q => if q = k then u else c.ν q, fun b => c.O b ∨ blk u = some b, w'⟩ s v) : Ok c [] [(k, R)] s v w' (fun q => if q = k then u else c.ν q) := by
  have hkk : (if k = k then u else c.ν k) = u := if_pos rfl
  have hN : (fun q => c.N q ∨ has q [(k, R)]) = fun q => c.N q ∨ q = k := by funext q; rw [propext (has_one k q R)]
  have hO : (fun b => (c.O b ∧ ¬ fblk c.ν [] b) ∨ fblk (fun q => if q = k then u else c.ν q) [(k, R)] b) = fun b => c.O b ∨ blk u = some b := by
    funext b
    refine propext ⟨fun h => h.imp (fun h => h.1) fun h => by have := (fblk_one b).1 h; rwa [hkk] at this, fun h => h.imp (fun h => ⟨h, fblk_nil _ _⟩) fun h => (fblk_one b).2 (by rw [hkk]; exact h)⟩
  refine ⟨fun q hq => if_neg fun (e : q = k) => hk (e ▸ hq), ?_, fun q R0 hq => ?_, fun q q' R0 R0' b hq hq' hne => ?_, hs.mono fun i _ h => h.elim⟩
  · rw [hN, hO]; exact hr
  · rw [hN, hO]
    have h1 := (has_one k q R).1 ((has_iff _ _).2 ⟨_, hq⟩)
    subst h1
    rw [flk_cons, if_pos rfl] at hq
    obtain rfl := Option.some.inj hq
    exact ⟨hA, fun b hb' => by rw [hkk] at hb'; exact ⟨(hb b hb').2, .inl (hb b hb').1⟩⟩
  · have h1 := (has_one k q R).1 ((has_iff _ _).2 ⟨_, hq⟩)
    have h2 := (has_one k q' R).1 ((has_iff _ _).2 ⟨_, hq'⟩)
    omega
/-- one thing turned into another -/
theorem Ok.turn {c : Cx} {k k' : Nat} {R R' : Rs} {s : AV} {v u : Value} {w' : World} (hk : c.N k) (hk' : ¬ c.N k') (hO : ∀ b, blk (c.ν k) = some b → c.O b) (hs : Stp (fun b => blk (c.ν k) = some b) c.w w')
    (hb : ∀ b, blk u = some b → b < w'.heap.size ∧ (c.w.heap.size ≤ b ∨ blk (c.ν k) = some b))
    (hA : Holds ⟨fun q => c.N q ∨ q = k', fun q => if q = k' then u else c.ν q, fun b => (c.O b ∧ blk (c.ν k) ≠ some b) ∨ blk u = some b, w'⟩ k' R') (hr : Rep ⟨fun q => c.N q ∨ q = k', fun q => if q = k' then u else c.ν q, fun b => (c.O b ∧ blk (c.ν k) ≠ some b) ∨ blk u = some b, w'⟩ s v) :
    Ok c [(k, R)] [(k', R')] s v w' (fun q => if q = k' then u else c.ν q) := by
  have hkk : (if k' = k' then u else c.ν k') = u := if_pos rfl
  have hN : (fun q => c.N q ∨ has q [(k', R')]) = fun q => c.N q ∨ q = k' := by funext q; rw [propext (has_one k' q R')]
  have hOO : (fun b => (c.O b ∧ ¬ fblk c.ν [(k, R)] b) ∨ fblk (fun q => if q = k' then u else c.ν q) [(k', R')] b) = fun b => (c.O b ∧ blk (c.ν k) ≠ some b) ∨ blk u = some b := by
    funext b
    refine propext ⟨fun h => h.imp (fun h => ⟨h.1, fun e => h.2 ((fblk_one b).2 e)⟩) fun h => by have := (fblk_one b).1 h; rwa [hkk] at this, fun h => h.imp (fun h => ⟨h.1, fun e => h.2 ((fblk_one b).1 e)⟩) fun h => (fblk_one b).2 (by rw [hkk]; exact h)⟩
  refine ⟨fun q hq => if_neg fun (e : q = k') => hk' (e ▸ hq), ?_, fun q R0 hq => ?_, fun q q' R0 R0' b hq hq' hne => ?_, hs.mono fun i _ h => (fblk_one i).2 h⟩
  · rw [hN, hOO]; exact hr
  · rw [hN, hOO]
    have h1 := (has_one k' q R').1 ((has_iff _ _).2 ⟨_, hq⟩)
    subst h1
    rw [flk_cons, if_pos rfl] at hq
    obtain rfl := Option.some.inj hq
    exact ⟨hA, fun b hb' => by rw [hkk] at hb'; exact ⟨(hb b hb').1, (hb b hb').2.imp id fun h => (fblk_one b).2 h⟩⟩
  · have h1 := (has_one k' q R').1 ((has_iff _ _).2 ⟨_, hq⟩)
    have h2 := (has_one k' q' R').1 ((has_iff _ _).2 ⟨_, hq'⟩)
    omega
end Go.Ax
