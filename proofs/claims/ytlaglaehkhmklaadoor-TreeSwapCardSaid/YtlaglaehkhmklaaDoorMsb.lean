/-
  Own texts, laid together for this claim: contracts of functions of the program and its references, used by the statements of this seat.
-/
import Derived.Test.YtlaglaehkhmklaaDoorMsa
/-
  Own text: the laws on trees, walked.
-/
namespace Go.Ax
open Go.Eng
theorem getD_upB (h : Int) : ∀ (j : Nat) (i : Int) (ls : List (List UInt8)), 2 * j + 1 < ls.length → (upB h i ls).getD j [] = nodeB h (i + j) (ls.getD (2 * j) []) (ls.getD (2 * j + 1) [])
  | 0, i, l :: r :: t, _ => by simp [upB]
  | j + 1, i, l :: r :: t, hl => by
    simp only [upB, List.getD_cons_succ]
    rw [getD_upB h j (i + 1) t (by simp at hl; omega)]
    rw [show 2 * (j + 1) = 2 * j + 1 + 1 from by omega]
    simp only [List.getD_cons_succ]
    congr 1; omega
  | 0, i, [_], hl => by simp at hl
  | j + 1, i, [_], hl => by simp at hl
  | _, i, [], hl => by simp at hl
theorem climbR_cons (h i : Int) (x s : List UInt8) (p : List (List UInt8)) : climbR h i x (s :: p) = climbR (h + 1) (i / 2) (pnd h i s x) p := rfl
theorem trip : ∀ (k : Nat) (h i : Int) (ls : List (List UInt8)), ls.length = 2 ^ k → 0 ≤ i → i < ls.length → climbR h i (ls.getD i.toNat []) (pathR k h i ls) = (upN k h ls).getD 0 []
  | 0, h, i, ls, hl, h0, hi => by
    obtain rfl : i = 0 := by simp at hl; omega
    rfl
  | k + 1, h, i, ls, hl, h0, hi => by
    have hl2 : ls.length = 2 * 2 ^ k := by rw [hl, Nat.pow_succ]; omega
    have hul : (upB h 0 ls).length = 2 ^ k := by rw [upB_len _ _ _ _ (Nat.le_refl _)]; omega
    rw [pathR, climbR_cons, upN, ← trip k (h + 1) (i / 2) (upB h 0 ls) hul (by omega) (by omega)]
    congr 1
    rw [getD_upB h (i / 2).toNat 0 ls (by omega)]
    unfold pnd sib
    by_cases hc : i % 2 = 1
    · rw [if_pos hc, if_neg (by omega), show (0 : Int) + ((i / 2).toNat : Int) = i / 2 from by omega, show 2 * (i / 2).toNat = (i - 1).toNat from by omega, show (i - 1).toNat + 1 = i.toNat from by omega]
    · rw [if_neg hc, if_pos (by omega), show (0 : Int) + ((i / 2).toNat : Int) = i / 2 from by omega, show 2 * (i / 2).toNat = i.toNat from by omega, show (i + 1).toNat = i.toNat + 1 from by omega]
theorem pathR_len : ∀ (k : Nat) (h i : Int) (ls : List (List UInt8)), (pathR k h i ls).length = k
  | 0, h, i, ls => rfl
  | k + 1, h, i, ls => by rw [pathR, List.length_cons, pathR_len k]
theorem pathR_mem : ∀ (k : Nat) (h i : Int) (ls : List (List UInt8)), (∀ l ∈ ls, l.length ≤ 1000000) → ∀ l ∈ pathR k h i ls, l.length ≤ 1000000
  | 0, h, i, ls, hm, l, hl => by cases hl
  | k + 1, h, i, ls, hm, l, hl => by
    rw [pathR] at hl
    rcases List.mem_cons.1 hl with rfl | hl
    · by_cases hs : (sib i).toNat < ls.length
      · simp only [List.getD, List.getElem?_eq_getElem hs, Option.getD_some]; exact hm _ (List.getElem_mem hs)
      · simp [List.getD, List.getElem?_eq_none (Nat.le_of_not_lt hs)]
    · exact pathR_mem k (h + 1) (i / 2) _ (upB_mem h _ 0 ls (Nat.le_refl _)) l hl
theorem pnd_eq (h i : Int) (s x : List UInt8) : pnd h i s x = (sha256 (pfr h i s x)).take 16 := by unfold pnd pfr nodeB; split <;> rfl
theorem three_lt {a b c : List UInt8} (ha : a.length ≤ 1000000) (hb : b.length ≤ 1000000) (hc : c.length ≤ 1000000) : ∀ l ∈ [a, b, c], l.length < 4294967296 := by
  intro l hl
  rcases List.mem_cons.1 hl with rfl | hl
  · omega
  rcases List.mem_cons.1 hl with rfl | hl
  · omega
  rw [List.mem_singleton.1 hl]; omega
theorem pfr_inj {h i : Int} {s t x y : List UInt8} (hs : s.length ≤ 1000000) (ht : t.length ≤ 1000000) (hx : x.length ≤ 1000000) (hy : y.length ≤ 1000000) (he : pfr h i s x = pfr h i t y) : x = y := by
  unfold pfr at he
  split at he
  · have h1 := (frameB_inj (three_lt (by simp) hs hx) (three_lt (by simp) ht hy)).1 he
    simp at h1; exact h1.2
  · have h1 := (frameB_inj (three_lt (by simp) hx hs) (three_lt (by simp) hy ht)).1 he
    simp at h1; exact h1.1
theorem bind_coll : ∀ (p q : List (List UInt8)) (h i : Int) (x y : List UInt8), p.length = q.length → (∀ l ∈ p, l.length ≤ 1000000) → (∀ l ∈ q, l.length ≤ 1000000) → x.length ≤ 1000000 → y.length ≤ 1000000 → x ≠ y → climbR h i x p = climbR h i y q → collR h i x y p q = true
  | [], [], h, i, x, y, _, _, _, _, _, hne, he => absurd he hne
  | [], _ :: _, h, i, x, y, hl, _, _, _, _, _, _ => by simp at hl
  | _ :: _, [], h, i, x, y, hl, _, _, _, _, _, _ => by simp at hl
  | s :: p, t :: q, h, i, x, y, hl, hp, hq, hx, hy, hne, he => by
    rw [climbR_cons, climbR_cons] at he
    rw [collR]
    by_cases hn : pnd h i s x = pnd h i t y
    · rw [if_pos]
      have hf : pfr h i s x ≠ pfr h i t y := fun e => hne (pfr_inj (hp s (by simp)) (hq t (by simp)) hx hy e)
      rw [pnd_eq, pnd_eq] at hn
      exact decide_eq_true ⟨by decide, by decide, hf, hn⟩
    · have := bind_coll p q (h + 1) (i / 2) (pnd h i s x) (pnd h i t y) (by simpa using hl) (fun l hm => hp l (by simp [hm])) (fun l hm => hq l (by simp [hm])) (by have := pnd_len h i s x; omega) (by have := pnd_len h i t y; omega) hn he
      rw [this]; simp
theorem few_mem {ls : List (List UInt8)} (h : fewP ls) : ∀ l ∈ ls, l.length ≤ 1000000 := fun l hl => Nat.le_trans (h.1 l hl) (by omega)
theorem few_len {ls : List (List UInt8)} (h : fewP ls) : ls.length ≤ 1000 := Nat.le_trans (Nat.le_of_lt h.2) (by omega)
theorem fit_mem {ls : List (List UInt8)} (h : fewP ls) (n : Int) : ∀ l ∈ fitB n ls, l.length ≤ 1000000 := by
  intro l hl
  simp only [fitB, List.mem_map, List.mem_range] at hl
  obtain ⟨i, _, rfl⟩ := hl
  by_cases hi : i < ls.length
  · simp only [List.getD, List.getElem?_eq_getElem hi, Option.getD_some]; exact few_mem h _ (List.getElem_mem hi)
  · simp [List.getD, List.getElem?_eq_none (Nat.le_of_not_lt hi)]
theorem fit_length (n : Int) (ls : List (List UInt8)) : (fitB n ls).length = 2 ^ (n % 4).toNat := by simp [fitB]
theorem fit_len (n : Int) (ls : List (List UInt8)) : (fitB n ls).length ≤ 1000 := by rw [fit_length]; have := pow4 n; omega
theorem getD_le {ls : List (List UInt8)} (hm : ∀ l ∈ ls, l.length ≤ 1000000) (i : Nat) : (ls.getD i []).length ≤ 1000000 := by
  by_cases hi : i < ls.length
  · simp only [List.getD, List.getElem?_eq_getElem hi, Option.getD_some]; exact hm _ (List.getElem_mem hi)
  · simp [List.getD, List.getElem?_eq_none (Nat.le_of_not_lt hi)]
theorem root_le {ls : List (List UInt8)} (hm : ∀ l ∈ ls, l.length ≤ 1000000) : (rootB ls).length ≤ 4294967296 := by
  unfold rootB
  split
  · simp
  · exact Nat.le_trans (getD_le (upN_mem _ _ _ hm) _) (by omega)
theorem climbR_le : ∀ (p : List (List UInt8)) (h i : Int) (x : List UInt8), x.length ≤ 1000000 → (climbR h i x p).length ≤ 1000000
  | [], h, i, x, hx => hx
  | s :: p, h, i, x, hx => by
    rw [climbR_cons]; exact climbR_le p _ _ _ (by have := pnd_len h i s x; omega)
theorem climb_le {x : List UInt8} {i : Int} {p : List (List UInt8)} (hx : x.length ≤ 1000000) : (climbB x i p).length ≤ 4294967296 := by
  unfold climbB
  split
  · simp
  · have := climbR_le p 0 i x hx; omega
theorem path_mem {ls : List (List UInt8)} (hm : ∀ l ∈ ls, l.length ≤ 1000000) (i : Int) : ∀ l ∈ pathB i ls, l.length ≤ 1000000 := by
  unfold pathB
  split
  · simp
  · exact pathR_mem _ _ _ _ hm
theorem path_len {ls : List (List UInt8)} {i : Int} : (pathB i ls).length ≤ 3 := by
  unfold pathB
  split
  · simp
  · rename_i h
    obtain ⟨k, h1, h2, h3⟩ := height_pow ls.length (fun hh => h (.inl hh))
    rw [pathR_len, h2]; omega
theorem le32 {n : Nat} (h : n ≤ 1000000) : n ≤ 4294967296 := Nat.le_trans h (by omega)
theorem mem32 {ls : List (List UInt8)} (h : ∀ l ∈ ls, l.length ≤ 1000000) : ∀ l ∈ ls, l.length ≤ 4294967296 := fun l hl => le32 (h l hl)
theorem awk : climbB [UInt8.ofNat 2] 1 [[UInt8.ofNat 1]] = rootB [[UInt8.ofNat 1], [UInt8.ofNat 2]] := by
  rw [climbB, if_neg (by decide), rootB, if_neg (by decide)]
  simp [climbR, heightB, upN, upB]
theorem awk_len : (rootB [[UInt8.ofNat 1], [UInt8.ofNat 2]]).length = 16 := by
  rw [← awk, climbB, if_neg (by decide)]
  simp [climbR, nodeB, sha256_len]
theorem awk_path : (pathB 0 [[UInt8.ofNat 1], [UInt8.ofNat 2]]).length = 1 := by
  rw [pathB, if_neg (by decide), pathR_len]; rfl
theorem height_of {n K : Nat} (hK : K ≤ 3) (hn : n = 2 ^ K) : heightB n = K := by
  subst hn
  have : ∀ K : Fin 4, heightB ((2 ^ K.val : Nat) : Int) = ((K.val : Nat) : Int) := by decide
  exact this ⟨K, by omega⟩
theorem trip' {l : List (List UInt8)} {K : Nat} (hK : K ≤ 3) (hl : l.length = 2 ^ K) {i : Int} (h0 : 0 ≤ i) (hi : i < l.length) : (pathB i l).length = K ∧ climbB (l.getD i.toNat []) i (pathB i l) = rootB l := by
  have hh := height_of hK hl
  have hp : pathB i l = pathR K 0 i l := by unfold pathB; rw [hh, if_neg (by omega), Int.toNat_natCast]
  rw [hp]
  refine ⟨pathR_len _ _ _ _, ?_⟩
  unfold climbB rootB
  have hc : ¬ (3 < K ∨ i < 0 ∨ (2 : Int) ^ K ≤ i) := by
    intro h
    have : (l.length : Int) = (2 : Int) ^ K := by rw [hl]; simp
    omega
  rw [pathR_len, hh, if_neg hc, if_neg (by omega), Int.toNat_natCast]
  exact trip K 0 i l hl h0 hi
theorem root16 {l : List (List UInt8)} {K : Nat} (hK : K ≤ 3) (hl : l.length = 2 ^ K) (h1 : 1 < l.length) : (rootB l).length = 16 := by
  have hh := height_of hK hl
  unfold rootB
  rw [hh, if_neg (by omega), Int.toNat_natCast]
  cases K with
  | zero => simp at hl; omega
  | succ k =>
    have h2 := upN_len k 0 l 1 hl
    rw [upN_succ, getD_upB _ 0 0 _ (by omega)]
    simp [nodeB, sha256_len]
theorem swap_ne {α : Type} [Inhabited α] {l : List α} {a b : Nat} (ha : a < l.length) (hb : b < l.length) (h : l ≠ (l.set a l[b]).set b l[a]) : l[a] ≠ ((l.set a l[b]).set b l[a])[a]'(by simpa using ha) := by
  intro he
  apply h
  have he' : l[a] = l[b] := by
    by_cases hab : b = a
    · subst hab; rfl
    · rw [List.getElem_set_ne hab, List.getElem_set_self] at he; exact he
  apply List.ext_getElem
  · simp
  · intro i h1 h2
    by_cases hib : b = i
    · subst hib; simp [he']
    · rw [List.getElem_set_ne hib]
      by_cases hia : a = i
      · subst hia; simp [he']
      · rw [List.getElem_set_ne hia]
theorem getD_at {l : List (List UInt8)} {i : Nat} (h : i < l.length) : l.getD i [] = l[i] := by simp [List.getD, h]
theorem swap_coll {l M : List (List UInt8)} {K : Nat} (hK : K ≤ 3) (hl : l.length = 2 ^ K) (hM : M.length = l.length) (hm : ∀ x ∈ l, x.length ≤ 1000000) (hmM : ∀ x ∈ M, x.length ≤ 1000000) {i : Int} (h0 : 0 ≤ i) (hi : i < l.length) (hne : l[i.toNat]'(by omega) ≠ M[i.toNat]'(by omega)) (hr : rootB l = rootB M) :
    collR 0 i (l[i.toNat]'(by omega)) (M[i.toNat]'(by omega)) (pathB i l) (pathB i M) = true := by
  obtain ⟨h1, h2⟩ := trip' hK hl h0 hi
  obtain ⟨h3, h4⟩ := trip' hK (l := M) (hM.trans hl) h0 (by omega)
  rw [getD_at (by omega)] at h2 h4
  have hc : ¬ (3 < K ∨ i < 0 ∨ (2 : Int) ^ K ≤ i) := by
    intro h
    have : (l.length : Int) = (2 : Int) ^ K := by rw [hl]; simp
    omega
  unfold climbB at h2 h4
  rw [h1, if_neg hc] at h2
  rw [h3, if_neg hc] at h4
  exact bind_coll _ _ 0 i _ _ (h1.trans h3.symm) (path_mem hm i) (path_mem hmM i) (hm _ (List.getElem_mem _)) (hmM _ (List.getElem_mem _)) hne (by rw [h2, h4, hr])
theorem set_mem {l : List (List UInt8)} (hm : ∀ x ∈ l, x.length ≤ 1000000) {a b : Nat} {x y : List UInt8} (hx : x.length ≤ 1000000) (hy : y.length ≤ 1000000) : ∀ z ∈ (l.set a x).set b y, z.length ≤ 1000000 := by
  intro z hz
  rcases List.mem_or_eq_of_mem_set hz with hz | rfl
  · rcases List.mem_or_eq_of_mem_set hz with hz | rfl
    · exact hm z hz
    · exact hx
  · exact hy
end Go.Ax
namespace Go.Proofs.YtlaglaehkhmklaaDoor
open Go Go.Ax Go.Eng
set_option linter.unusedVariables false
set_option linter.unusedSimpArgs false
attribute [local irreducible] iadd isub imul iquo irem ibit ineg ieq ine ilt ile ishl ishr beq' bnot and' seq' u8op u32op u64op u8shr u8shl u64shr u64shl u32shr u32shl i64w u8i u64i iu8 iu32 iu64 u8u64 u64u8 u32u8 u64cmp u8cmp u32cmp llen lget linb lset lcut lrep lapp lcpy lemp fits fitn sealed drawChk
set_option maxHeartbeats 1000000
set_option maxRecDepth 100000
theorem ev_awake : Y E0 (.call 16 [] []) = some (.ret (.b true) []) := by
  rw [Y_go]; conv => lhs; whnf
  rw [toReq_call]
  rw [ev_troot _ (by simp) (by simp)]
  conv => lhs; whnf
  rw [ieq_t (by rw [llen_eq, awk_len]; rfl)]; conv => lhs; whnf
  rw [toReq_call]
  rw [ev_tpath _ _ (by simp) (by simp)]
  conv => lhs; whnf
  rw [ieq_t (by rw [llen_eq, awk_path]; rfl)]; conv => lhs; whnf
  rw [toReq_call]
  rw [ev_climb _ _ _ (by simp) (by simp)]
  conv => lhs; whnf
  rw [toReq_call]
  rw [ev_same _ _ (climb_le (by simp)), decide_eq_true awk]
  conv => lhs; whnf
theorem ev_collision (i : Int) (x y : List UInt8) (p q : List (List UInt8)) (hp : ∀ l ∈ p, l.length ≤ 1000000) (hq : ∀ l ∈ q, l.length ≤ 1000000) (hn : p.length ≤ 1000) (he : p.length = q.length) (h0 : 0 ≤ i) (hi : i ≤ 1000) (hx : x.length ≤ 1000000) (hy : y.length ≤ 1000000) :
    Y E0 (.call 27 [.sl .u8 x, .sl .u8 y, .i i, .sl (.sl .u8) p, .sl (.sl .u8) q] []) = some (.ret (.b (collR 0 i x y p q)) []) := by
  have hl := ev_collision_loop p q hp hq hn he p.length 0 i x y (by omega) h0 hi hx hy
  rw [show ((0 : Nat) : Int) = 0 from rfl, List.drop_zero, List.drop_zero] at hl
  cases hc : collR 0 i x y p q
  · rw [hc] at hl; simp only [Bool.false_eq_true, if_false] at hl
    rw [Y_go]; conv => lhs; whnf
    rw [toReq_loop]
    rw [hl]
    conv => lhs; whnf
  · rw [hc] at hl; simp only [if_true] at hl
    rw [Y_go]; conv => lhs; whnf
    rw [toReq_loop]
    rw [hl]
    conv => lhs; whnf
theorem ev_TreeRoot (ls : List (List UInt8)) (h : Int) : Y E0 (.call 3 [.sl (.sl .u8) ls, .i h] []) = some (.ret (.b true) []) := by
  rw [Y_go]; conv => lhs; whnf
  rw [toReq_call]
  rw [ev_awake]
  conv => lhs; whnf
  rw [bnot_eq]; conv => lhs; whnf
  rw [toReq_call]
  rw [ev_few _]
  conv => lhs; whnf
  rw [bnot_eq]; conv => lhs; whnf
  rcases Bool.eq_false_or_eq_true (decide (fewP ls)) with hc0 | hc0
  · rw [hc0]; replace hc0 := of_decide_eq_true hc0; try simp only at hc0
    conv => lhs; whnf
    rw [toReq_call]
    rw [ev_fit _ _]
    conv => lhs; whnf
    rw [toReq_call]
    rw [ev_troot _ (few_mem hc0) (few_len hc0)]
    conv => lhs; whnf
    rw [toReq_call]
    rw [ev_rroot _ (few_mem hc0) (few_len hc0)]
    conv => lhs; whnf
    rw [toReq_call]
    rw [ev_same _ _ (root_le (few_mem hc0)), decide_eq_true rfl]
    conv => lhs; whnf
    rw [toReq_call]
    rw [ev_troot _ (fit_mem hc0 h) (fit_len _ _)]
    conv => lhs; whnf
    rw [toReq_call]
    rw [ev_rroot _ (fit_mem hc0 h) (fit_len _ _)]
    conv => lhs; whnf
    rw [toReq_call]
    rw [ev_same _ _ (root_le (fit_mem hc0 h)), decide_eq_true rfl]
    conv => lhs; whnf
  · rw [hc0]; replace hc0 := of_decide_eq_false hc0; try simp only at hc0
    conv => lhs; whnf
theorem ev_TreePath (ls : List (List UInt8)) (h i : Int) : Y E0 (.call 4 [.sl (.sl .u8) ls, .i h, .i i] []) = some (.ret (.b true) []) := by
  rw [Y_go]; conv => lhs; whnf
  rw [toReq_call]
  rw [ev_awake]
  conv => lhs; whnf
  rw [bnot_eq]; conv => lhs; whnf
  rw [toReq_call]
  rw [ev_few _]
  conv => lhs; whnf
  rw [bnot_eq]; conv => lhs; whnf
  rcases Bool.eq_false_or_eq_true (decide (fewP ls)) with hc0 | hc0
  · rw [hc0]; replace hc0 := of_decide_eq_true hc0; try simp only at hc0
    conv => lhs; whnf
    rw [toReq_call]
    rw [ev_fit _ _]
    conv => lhs; whnf
    rw [toReq_call]
    rw [ev_tpath _ _ (few_mem hc0) (few_len hc0)]
    conv => lhs; whnf
    rw [toReq_call]
    rw [ev_rpath _ _ (few_mem hc0) (few_len hc0)]
    conv => lhs; whnf
    rw [toReq_call]
    rw [ev_lists _ _ (by have := path_len (ls := ls) (i := i); omega) (mem32 (path_mem (few_mem hc0) _)), decide_eq_true rfl]
    conv => lhs; whnf
    rw [toReq_call]
    rw [ev_tpath _ _ (fit_mem hc0 h) (fit_len _ _)]
    conv => lhs; whnf
    rw [toReq_call]
    rw [ev_rpath _ _ (fit_mem hc0 h) (fit_len _ _)]
    conv => lhs; whnf
    rw [toReq_call]
    rw [ev_lists _ _ (Nat.le_trans path_len (by omega)) (mem32 (path_mem (fit_mem hc0 h) _)), decide_eq_true rfl]
    conv => lhs; whnf
    rw [toReq_call]
    rw [ev_tpath _ _ (fit_mem hc0 h) (fit_len _ _)]
    conv => lhs; whnf
    rw [Y_go]; conv => lhs; whnf
    rw [toReq_call]
    rw [ev_rpath _ _ (fit_mem hc0 h) (fit_len _ _)]
    conv => lhs; whnf
    rw [toReq_call]
    rw [ev_lists _ _ (Nat.le_trans path_len (by omega)) (mem32 (path_mem (fit_mem hc0 h) _)), decide_eq_true rfl]
    conv => lhs; whnf
  · rw [hc0]; replace hc0 := of_decide_eq_false hc0; try simp only at hc0
    conv => lhs; whnf
theorem ev_TreeClimb_m (l : List UInt8) (i : Int) (p q : List (List UInt8)) (hl : l.length ≤ 1000000) (hp : ∀ l ∈ p, l.length ≤ 1000000) (hq : ∀ l ∈ q, l.length ≤ 1000000) (hq3 : q.length ≤ 3) : Y E0 (.ops ⟨52, 5, 0⟩ [true, true, true, true, true, false] 0 [Fr.seq [true, true, true, true, true, true] 0, Fr.ret] 0 [(0, AV.sl Ty.u8 l), (1, AV.i i), (2, .sl (.sl .u8) p), (7, .sl (.sl .u8) q)] []) = some (.ret (.b true) []) := by
  have h8 := pow8 hq3
  have hpos : (1 : Int) ≤ 2 ^ q.length := by have := Nat.one_le_two_pow (n := q.length); exact_mod_cast this
  have hk : ibit .and i (isub (ishl 1 (iu64 (llen q)).toNat) 1) = i % (2 : Int) ^ q.length := by rw [llen_eq, ishl1n (by omega), isub_eq (by omega), iand_pow (by omega)]
  rw [Y_go]; conv => lhs; whnf
  rw [toReq_call]
  rw [ev_climb _ _ _ hl hp]
  conv => lhs; whnf
  rw [toReq_call]
  rw [ev_rclimb _ _ _ hl hp]
  conv => lhs; whnf
  rw [toReq_call]
  rw [ev_same _ _ (climb_le hl), decide_eq_true rfl]
  conv => lhs; whnf
  rw [toReq_call]
  rw [hk, ev_climb _ _ _ hl hq]
  conv => lhs; whnf
  rw [toReq_call]
  rw [ev_rclimb _ _ _ (by omega) (by omega)]
  conv => lhs; whnf
  rw [toReq_call]
  rw [ev_same _ _ (climb_le hl), decide_eq_true rfl]
  conv => lhs; whnf
theorem ev_TreeClimb (l : List UInt8) (i : Int) (p : List (List UInt8)) : Y E0 (.call 5 [.sl .u8 l, .i i, .sl (.sl .u8) p] []) = some (.ret (.b true) []) := by
  rw [Y_go]; conv => lhs; whnf
  rw [toReq_call]
  rw [ev_awake]
  conv => lhs; whnf
  rw [bnot_eq]; conv => lhs; whnf
  rcases Bool.eq_false_or_eq_true (ilt 60 (llen l)) with hc0 | hc0
  · rw [hc0]; replace hc0 := of_ilt_t hc0; try simp only [llen_eq] at hc0
    conv => lhs; whnf
  · rw [hc0]; replace hc0 := of_ilt_f hc0; try simp only [llen_eq] at hc0
    conv => lhs; whnf
    rw [toReq_call]
    rw [ev_few _]
    conv => lhs; whnf
    rw [bnot_eq]; conv => lhs; whnf
    rcases Bool.eq_false_or_eq_true (decide (fewP p)) with hc1 | hc1
    · rw [hc1]; replace hc1 := of_decide_eq_true hc1; try simp only at hc1
      conv => lhs; whnf
      rcases Bool.eq_false_or_eq_true (ilt 3 (llen p)) with hc2 | hc2
      · rw [hc2]; replace hc2 := of_ilt_t hc2; try simp only [llen_eq] at hc2
        conv => lhs; whnf
        rw [lcut_0 (by omega)]
        conv => lhs; whnf
        rw [ev_TreeClimb_m _ _ _ _ (by omega) (few_mem (by assumption)) (fun l hm => few_mem (ls := p) (by assumption) l (List.mem_of_mem_take hm)) (by simp; omega)]
      · rw [hc2]; replace hc2 := of_ilt_f hc2; try simp only [llen_eq] at hc2
        conv => lhs; whnf
        rw [ev_TreeClimb_m _ _ _ _ (by omega) (few_mem (by assumption)) (few_mem (by assumption)) (by omega)]
    · rw [hc1]; replace hc1 := of_decide_eq_false hc1; try simp only at hc1
      conv => lhs; whnf
theorem ev_TreeTrip_loop (l : List (List UInt8)) (K : Nat) (hK : K ≤ 3) (hl : l.length = 2 ^ K) (hm : ∀ x ∈ l, x.length ≤ 1000000) : ∀ (k i : Nat), i + k = l.length → Y E0 (.loop 6 0 0 0 [(5, .sl (.sl .u8) l), (6, .sl .u8 (rootB l)), (7, .i i)] []) = some (.fin (.exit 0) 0 [] [])
  | 0, i, hi => by
    rw [Y_go]; conv => lhs; whnf
    rw [ilt_f (by (simp only [sha256_len, LL] at * <;> omega))]
    conv => lhs; whnf
  | k + 1, i, hi => by
    have ih := ev_TreeTrip_loop l K hK hl hm k (i + 1) (by omega)
    rw [show ((i + 1 : Nat) : Int) = (i : Int) + 1 from by omega] at ih
    have hlk : l.length ≤ 8 := by rw [hl]; have := Nat.pow_le_pow_right (n := 2) (by omega) hK; exact this
    have hx := hm _ (List.getElem_mem (l := l) (n := i) (by omega))
    obtain ⟨h1, h2⟩ := trip' hK hl (i := i) (by omega) (by omega)
    rw [Int.toNat_natCast, getD_at (by omega)] at h2
    have hsh : ishl 1 (iu64 (llen (pathB i l))).toNat = (l.length : Int) := by rw [llen_eq, h1, ishl1n (by omega), hl]; simp
    rw [Y_go]; conv => lhs; whnf
    rw [ilt_t (by (simp only [sha256_len, LL] at * <;> omega))]
    conv => lhs; whnf
    rw [toReq_call]
    rw [ev_tpath _ _ hm (by omega)]
    conv => lhs; whnf
    rw [hsh]; conv => lhs; whnf
    rw [ine_f (by (simp only [sha256_len, LL] at * <;> omega))]
    conv => lhs; whnf
    rw [lget_n (by omega)]
    conv => lhs; whnf
    rw [toReq_call]
    rw [ev_climb _ _ _ hx (path_mem hm _)]
    conv => lhs; whnf
    rw [toReq_call]
    rw [ev_same _ _ (climb_le hx), decide_eq_true h2]
    conv => lhs; whnf
    rw [bnot_eq]; conv => lhs; whnf
    rw [iadd_eq (by omega)]
    refine (congrArg (Y E0) ?_).trans ih; rfl
theorem ev_TreeTrip (ls : List (List UInt8)) (h : Int) : Y E0 (.call 6 [.sl (.sl .u8) ls, .i h] []) = some (.ret (.b true) []) := by
  have h0 := fun hm => ev_TreeTrip_loop (fitB h ls) (h % 4).toNat (by omega) (fit_length h ls) hm _ 0 (Nat.zero_add _)
  rw [Y_go]; conv => lhs; whnf
  rw [toReq_call]
  rw [ev_awake]
  conv => lhs; whnf
  rw [bnot_eq]; conv => lhs; whnf
  rw [toReq_call]
  rw [ev_few _]
  conv => lhs; whnf
  rw [bnot_eq]; conv => lhs; whnf
  rcases Bool.eq_false_or_eq_true (decide (fewP ls)) with hc0 | hc0
  · rw [hc0]; replace hc0 := of_decide_eq_true hc0; try simp only at hc0
    conv => lhs; whnf
    rw [toReq_call]
    rw [ev_fit _ _]
    conv => lhs; whnf
    rw [toReq_call]
    rw [ev_troot _ (fit_mem hc0 h) (fit_len _ _)]
    conv => lhs; whnf
    rcases Bool.eq_false_or_eq_true (ieq (llen (rootB (fitB h ls))) 0) with hc1 | hc1
    · rw [hc1]; replace hc1 := of_ieq_t hc1; try simp only [llen_eq] at hc1
      conv => lhs; whnf
      rcases Bool.eq_false_or_eq_true (ilt 1 (llen (fitB h ls))) with hc2 | hc2
      · rw [hc2]; replace hc2 := of_ilt_t hc2; try simp only [llen_eq] at hc2
        conv => lhs; whnf
        exact absurd (root16 (l := fitB h ls) (K := (h % 4).toNat) (by omega) (fit_length h ls) (by omega)) (by omega)
      · rw [hc2]; replace hc2 := of_ilt_f hc2; try simp only [llen_eq] at hc2
        conv => lhs; whnf
        rw [toReq_loop]
        rw [show (0 : Int) = ((0 : Nat) : Int) from rfl, h0 (fit_mem hc0 h)]
        conv => lhs; whnf
    · rw [hc1]; replace hc1 := of_ieq_f hc1; try simp only [llen_eq] at hc1
      conv => lhs; whnf
      rw [toReq_loop]
      rw [show (0 : Int) = ((0 : Nat) : Int) from rfl, h0 (fit_mem hc0 h)]
      conv => lhs; whnf
  · rw [hc0]; replace hc0 := of_decide_eq_false hc0; try simp only at hc0
    conv => lhs; whnf
theorem ev_TreeBinding (a b : List UInt8) (i : Int) (p q : List (List UInt8)) : Y E0 (.call 7 [.sl .u8 a, .sl .u8 b, .i i, .sl (.sl .u8) p, .sl (.sl .u8) q] []) = some (.ret (.b true) []) := by
  have hk : p.length ≤ 3 → ibit .and i (isub (ishl 1 (iu64 (llen p)).toNat) 1) = i % (2 : Int) ^ p.length ∧ 0 ≤ i % (2 : Int) ^ p.length ∧ i % (2 : Int) ^ p.length < (2 : Int) ^ p.length ∧ (2 : Int) ^ p.length ≤ 8 := fun h3 => by
    have h8 := pow8 h3
    have hpos : (1 : Int) ≤ 2 ^ p.length := by have := Nat.one_le_two_pow (n := p.length); exact_mod_cast this
    refine ⟨by rw [llen_eq, ishl1n (by omega), isub_eq (by omega), iand_pow (by omega)], Int.emod_nonneg _ (by omega), Int.emod_lt_of_pos _ (by omega), h8⟩
  have hfin : ∀ k : Int, 0 ≤ k → k < (2 : Int) ^ p.length → p.length ≤ 3 → p.length = q.length → fewP p → fewP q → a.length ≤ 60 → b.length ≤ 60 → a ≠ b → climbB a k p = climbB b k q → collR 0 k a b p q = true := by
    intro k h1 h2 h3 h4 hp hq ha hb hne he
    unfold climbB at he
    rw [← h4, if_neg (by omega), if_neg (by omega)] at he
    exact bind_coll p q 0 k a b h4 (few_mem hp) (few_mem hq) (by omega) (by omega) hne he
  rw [Y_go]; conv => lhs; whnf
  rw [toReq_call]
  rw [ev_awake]
  conv => lhs; whnf
  rw [bnot_eq]; conv => lhs; whnf
  rcases Bool.eq_false_or_eq_true (ilt 60 (llen a)) with hc0 | hc0
  · rw [hc0]; replace hc0 := of_ilt_t hc0; try simp only [llen_eq] at hc0
    conv => lhs; whnf
  · rw [hc0]; replace hc0 := of_ilt_f hc0; try simp only [llen_eq] at hc0
    conv => lhs; whnf
    rcases Bool.eq_false_or_eq_true (ilt 60 (llen b)) with hc1 | hc1
    · rw [hc1]; replace hc1 := of_ilt_t hc1; try simp only [llen_eq] at hc1
      conv => lhs; whnf
    · rw [hc1]; replace hc1 := of_ilt_f hc1; try simp only [llen_eq] at hc1
      conv => lhs; whnf
      rw [toReq_call]
      rw [ev_few _]
      conv => lhs; whnf
      rw [bnot_eq]; conv => lhs; whnf
      rcases Bool.eq_false_or_eq_true (decide (fewP p)) with hc2 | hc2
      · rw [hc2]; replace hc2 := of_decide_eq_true hc2; try simp only at hc2
        conv => lhs; whnf
        rw [toReq_call]
        rw [ev_few _]
        conv => lhs; whnf
        rw [bnot_eq]; conv => lhs; whnf
        rcases Bool.eq_false_or_eq_true (decide (fewP q)) with hc3 | hc3
        · rw [hc3]; replace hc3 := of_decide_eq_true hc3; try simp only at hc3
          conv => lhs; whnf
          rcases Bool.eq_false_or_eq_true (ilt 3 (llen p)) with hc4 | hc4
          · rw [hc4]; replace hc4 := of_ilt_t hc4; try simp only [llen_eq] at hc4
            conv => lhs; whnf
            rw [Y_go]; conv => lhs; whnf
          · rw [hc4]; replace hc4 := of_ilt_f hc4; try simp only [llen_eq] at hc4
            conv => lhs; whnf
            rw [Y_go]; conv => lhs; whnf
            rcases Bool.eq_false_or_eq_true (ine (llen p) (llen q)) with hc5 | hc5
            · rw [hc5]; replace hc5 := of_ine_t hc5; try simp only [llen_eq] at hc5
              conv => lhs; whnf
            · rw [hc5]; replace hc5 := of_ine_f hc5; try simp only [llen_eq] at hc5
              conv => lhs; whnf
              rw [toReq_call]
              rw [(hk (by omega)).1, ev_climb _ _ _ (by omega) (few_mem (by assumption))]
              conv => lhs; whnf
              rw [toReq_call]
              rw [ev_climb _ _ _ (by omega) (few_mem (by assumption))]
              conv => lhs; whnf
              rw [toReq_call]
              rw [ev_same _ _ (by omega)]
              conv => lhs; whnf
              rcases Bool.eq_false_or_eq_true (decide (a = b)) with hc6 | hc6
              · rw [hc6]; replace hc6 := of_decide_eq_true hc6; try simp only at hc6
                conv => lhs; whnf
                rw [toReq_call]
                rw [ev_rclimb _ _ _ (by omega) (few_mem (by assumption))]
                conv => lhs; whnf
                rw [toReq_call]
                rw [ev_same _ _ (climb_le (by omega))]
                conv => lhs; whnf
                simp
              · rw [hc6]; replace hc6 := of_decide_eq_false hc6; try simp only at hc6
                conv => lhs; whnf
                rw [toReq_call]
                rw [ev_same _ _ (climb_le (by omega))]
                conv => lhs; whnf
                rw [bnot_eq]; conv => lhs; whnf
                rcases Bool.eq_false_or_eq_true (decide (climbB a (i % 2 ^ p.length) p = climbB b (i % 2 ^ p.length) q)) with hc7 | hc7
                · rw [hc7]; replace hc7 := of_decide_eq_true hc7; try simp only at hc7
                  conv => lhs; whnf
                  rw [toReq_call]
                  rw [ev_collision _ _ _ _ _ (few_mem (by assumption)) (few_mem (by assumption)) (by omega) (by omega) (hk (by omega)).2.1 (by have := hk (by omega); omega) (by omega) (by omega), hfin _ (hk (by omega)).2.1 (hk (by omega)).2.2.1 (by omega) (by omega) (by assumption) (by assumption) (by omega) (by omega) (by assumption) (by assumption)]
                  conv => lhs; whnf
                · rw [hc7]; replace hc7 := of_decide_eq_false hc7; try simp only at hc7
                  conv => lhs; whnf
                  rw [toReq_call]
                  rw [ev_rclimb _ _ _ (by omega) (few_mem (by assumption))]
                  conv => lhs; whnf
                  rw [toReq_call]
                  rw [ev_same _ _ (climb_le (by omega))]
                  conv => lhs; whnf
                  simp
        · rw [hc3]; replace hc3 := of_decide_eq_false hc3; try simp only at hc3
          conv => lhs; whnf
          rw [Y_go]; conv => lhs; whnf
      · rw [hc2]; replace hc2 := of_decide_eq_false hc2; try simp only at hc2
        conv => lhs; whnf
theorem ev_TreeSwap (ls : List (List UInt8)) (h i j : Int) : Y E0 (.call 8 [.sl (.sl .u8) ls, .i h, .i i, .i j] []) = some (.ret (.b true) []) := by
  have hx : ∀ j, ibit .and j (isub (llen (fitB h ls)) 1) = j % ((fitB h ls).length : Int) := by
    intro j
    have h4 := pow4 h
    have he : ((fitB h ls).length : Int) = (2 : Int) ^ (h % 4).toNat := by rw [fit_length]; simp
    rw [llen_eq, isub_eq (by rw [fit_length]; omega), he, iand_pow (by omega)]
  have hx' : ∀ j, ibit .and j (llen (fitB h ls) - 1) = j % ((fitB h ls).length : Int) := by
    intro j
    rw [← hx, isub_eq (by rw [llen_eq, fit_length]; have := pow4 h; omega)]
  have happ : lapp [] (fitB h ls) = fitB h ls := by rw [lapp_eq]; rfl
  have h4 := pow4 h
  have hl := fit_length h ls
  have hpos : 1 ≤ (fitB h ls).length ∧ (fitB h ls).length ≤ 8 := by omega
  have hj : ∀ j : Int, 0 ≤ j % ((fitB h ls).length : Int) ∧ j % ((fitB h ls).length : Int) < ((fitB h ls).length : Int) := fun j => ⟨Int.emod_nonneg _ (by omega), Int.emod_lt_of_pos _ (by omega)⟩
  have hi1 := hj i
  have hj1 := hj j
  have hA : (i % ((fitB h ls).length : Int)).toNat < (fitB h ls).length := by omega
  have hB : (j % ((fitB h ls).length : Int)).toNat < (fitB h ls).length := by omega
  have hMl : (((fitB h ls).set (i % ((fitB h ls).length : Int)).toNat (fitB h ls)[(j % ((fitB h ls).length : Int)).toNat]).set (j % ((fitB h ls).length : Int)).toNat (fitB h ls)[(i % ((fitB h ls).length : Int)).toNat]).length = (fitB h ls).length := by simp
  have hM := fun (hf : fewP ls) => set_mem (fit_mem hf h) (a := (i % ((fitB h ls).length : Int)).toNat) (b := (j % ((fitB h ls).length : Int)).toNat) (fit_mem hf h _ (List.getElem_mem hB)) (fit_mem hf h _ (List.getElem_mem hA))
  have hsw := swap_ne hA hB
  have hpl := (trip' (by omega) hl hi1.1 hi1.2).1.trans (trip' (by omega) (hMl.trans hl) hi1.1 (by rw [hMl]; exact hi1.2)).1.symm
  have hfin := fun (hf : fewP ls) => swap_coll (by omega) hl hMl (fit_mem hf h) (hM hf) hi1.1 hi1.2
  rw [Y_go]; conv => lhs; whnf
  rw [toReq_call]
  rw [ev_awake]
  conv => lhs; whnf
  rw [bnot_eq]; conv => lhs; whnf
  rw [toReq_call]
  rw [ev_few _]
  conv => lhs; whnf
  rw [bnot_eq]; conv => lhs; whnf
  rcases Bool.eq_false_or_eq_true (decide (fewP ls)) with hc0 | hc0
  · rw [hc0]; replace hc0 := of_decide_eq_true hc0; try simp only at hc0
    conv => lhs; whnf
    rw [toReq_call]
    rw [ev_fit _ _]
    conv => lhs; whnf
    rw [fits_t (by rw [lapp_eq, List.nil_append, hl]; omega)]; conv => lhs; whnf
    rw [isub_eq (by (simp only [sha256_len, LL] at * <;> omega))]
    rw [happ]; conv => lhs; whnf
    rw [hx']; conv => lhs; whnf
    rw [hx']; conv => lhs; whnf
    rw [linb_t (by omega)]; conv => lhs; whnf
    rw [lget_i (by omega)]
    conv => lhs; whnf
    rw [hx']; conv => lhs; whnf
    rw [linb_t (by omega)]; conv => lhs; whnf
    rw [lget_i (by omega)]
    conv => lhs; whnf
    rw [linb_t (by omega)]; conv => lhs; whnf
    rw [lget_i (by omega)]
    conv => lhs; whnf
    rw [linb_t (by (simp only [sha256_len, LL] at * <;> omega))]
    conv => lhs; whnf
    rw [lget_i (by (simp only [sha256_len, LL] at * <;> omega))]
    conv => lhs; whnf
    rw [drw (by kernel_rfl)]; conv => lhs; whnf
    rw [toReq_call]
    rw [lset_eq, lset_eq, ev_lists _ _ (by omega) (mem32 (fit_mem hc0 h))]
    conv => lhs; whnf
    rcases Bool.eq_false_or_eq_true (decide (fitB h ls = ((fitB h ls).set (i % ↑(fitB h ls).length).toNat (fitB h ls)[(j % ↑(fitB h ls).length).toNat]).set (j % ↑(fitB h ls).length).toNat (fitB h ls)[(i % ↑(fitB h ls).length).toNat])) with hc1 | hc1
    · rw [hc1]; replace hc1 := of_decide_eq_true hc1; try simp only at hc1
      conv => lhs; whnf
      rw [toReq_call]
      rw [ev_troot _ (fit_mem hc0 h) (fit_len _ _)]
      conv => lhs; whnf
      rw [toReq_call]
      rw [ev_troot _ (hM hc0) (by omega)]
      conv => lhs; whnf
      rw [toReq_call]
      rw [ev_same _ _ (root_le (fit_mem hc0 h))]
      conv => lhs; whnf
      (rw [← hc1]; simp)
    · rw [hc1]; replace hc1 := of_decide_eq_false hc1; try simp only at hc1
      conv => lhs; whnf
      rw [toReq_call]
      rw [ev_troot _ (fit_mem hc0 h) (fit_len _ _)]
      conv => lhs; whnf
      rw [toReq_call]
      rw [ev_troot _ (hM hc0) (by omega)]
      conv => lhs; whnf
      rw [toReq_call]
      rw [ev_same _ _ (root_le (fit_mem hc0 h))]
      conv => lhs; whnf
      rw [bnot_eq]; conv => lhs; whnf
      rcases Bool.eq_false_or_eq_true (decide (rootB (fitB h ls) = rootB (((fitB h ls).set (i % ↑(fitB h ls).length).toNat (fitB h ls)[(j % ↑(fitB h ls).length).toNat]).set (j % ↑(fitB h ls).length).toNat (fitB h ls)[(i % ↑(fitB h ls).length).toNat]))) with hc2 | hc2
      · rw [hc2]; replace hc2 := of_decide_eq_true hc2; try simp only at hc2
        conv => lhs; whnf
        rw [hx']; conv => lhs; whnf
        rw [lget_i (by omega)]
        conv => lhs; whnf
        rw [Y_go]; conv => lhs; whnf
        rw [hx']; conv => lhs; whnf
        rw [lget_i (by omega)]
        conv => lhs; whnf
        rw [toReq_call]
        (try rw [hx']); rw [ev_rpath _ _ (fit_mem hc0 h) (fit_len _ _)]
        conv => lhs; whnf
        rw [toReq_call]
        (try rw [hx']); rw [ev_rpath _ _ (hM hc0) (by omega)]
        conv => lhs; whnf
        rw [Y_go]; conv => lhs; whnf
        rw [toReq_call]
        (try rw [hx']); rw [ev_collision _ _ _ _ _ (path_mem (fit_mem hc0 h) _) (path_mem (hM hc0) _) (Nat.le_trans path_len (by omega)) hpl hi1.1 (by omega) (fit_mem hc0 h _ (List.getElem_mem hA)) (hM hc0 _ (List.getElem_mem _)), hfin hc0 (hsw hc1) hc2]
        conv => lhs; whnf
        rw [drw (by kernel_rfl)]; conv => lhs; whnf
      · rw [hc2]; replace hc2 := of_decide_eq_false hc2; try simp only at hc2
        conv => lhs; whnf
        rw [Y_go]; conv => lhs; whnf
        rw [drw (by kernel_rfl)]; conv => lhs; whnf
  · rw [hc0]; replace hc0 := of_decide_eq_false hc0; try simp only at hc0
    conv => lhs; whnf
end Go.Proofs.YtlaglaehkhmklaaDoor
