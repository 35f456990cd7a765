/-
  Own text: small functions around quotes, and the writers of quotes.
-/
import Derived.Test.YtlaglaehkhmklaaAxU8
import Derived.Test.YtlaglaehkhmklaaAxU2
import Derived.Test.YtlaglaehkhmklaaPlC
namespace Go.Ax
abbrev attX (a : Att) : List AV := [.sl .u8 a.key, .sl .u8 a.nonce, .i a.resets, .i a.restarts, .i a.clock, .b a.safe, .i a.updates, .i a.s0, .i a.s1, .sl .u8 a.digest]
def seedB (b : List UInt8) : List UInt8 := b.take 32 ++ (List.replicate 32 0).drop b.length
theorem seedB_len (b : List UInt8) : (seedB b).length = 32 := by simp [seedB]; omega
theorem magicB_len : magicB.length = 4 := rfl
end Go.Ax
namespace Go.Proofs.Ytlaglaehkhmklaa
open Go Go.Ax
set_option linter.unusedVariables false
set_option linter.unusedSimpArgs false
attribute [local irreducible] iadd isub imul iquo irem ibit ineg ieq ine ilt ile ishl ishr beq' bnot and' seq' u8op u32op u64op u8shr u8shl u64shr u64shl u32shr u32shl i64w u8i u64i iu8 iu32 iu64 u8u64 u64u8 u32u8 u64cmp u8cmp u32cmp llen lget linb lset lcut lrep lapp lcpy lemp fits fitn sealed drawChk
set_option maxHeartbeats 1000000
set_option maxRecDepth 100000
theorem ev_seed (b : List UInt8) : Y E0 (.call 14 [.sl .u8 b] []) = some (.ret (.sl .u8 (seedB b)) []) := by
  rw [Y_go]; conv => lhs; whnf
  rw [fitn_t (by omega)]
  conv => lhs; whnf
  rw [ieq_t (by omega)]
  conv => lhs; whnf
  rw [lcpy_eq, lrep_eq]; rfl
theorem ev_cut (b : List UInt8) (n : Int) (hn : 0 ≤ n) : Y E0 (.call 15 [.sl .u8 b, .i n] []) = some (.ret (.sl .u8 (b.take n.toNat)) []) := by
  rw [Y_go]; conv => lhs; whnf
  rcases Bool.eq_false_or_eq_true (ilt n (llen b)) with hc0 | hc0
  · rw [hc0]; replace hc0 := of_ilt_t hc0; try simp only [llen_eq] at hc0
    conv => lhs; whnf
    rw [lcut_s (by omega)]
    conv => lhs; whnf
    rw [Int.toNat_zero, List.drop_zero, Int.sub_zero]
  · rw [hc0]; replace hc0 := of_ilt_f hc0; try simp only [llen_eq] at hc0
    conv => lhs; whnf
    rw [List.take_of_length_le (by omega)]
theorem take_eq (a b : List UInt8) (i : Nat) (hi : i < a.length) (hj : i < b.length) (h : a.take i = b.take i) (he : a[i] = b[i]) : a.take (i + 1) = b.take (i + 1) := by
  rw [List.take_succ_eq_append_getElem hi, List.take_succ_eq_append_getElem hj, h, he]
theorem ev_same_loop (a b : List UInt8) (hb : a.length ≤ 4294967296) (hl : a.length = b.length) : ∀ (k : Nat) (j : Int), j + k = a.length → 0 ≤ j → a.take j.toNat = b.take j.toNat →
    Y E0 (.loop 10 0 0 0 [(0, .sl .u8 a), (1, .sl .u8 b), (5, .i j)] []) = if a = b then some (.fin (.exit 0) 0 [] []) else some (.fin .ret 0 [(4, .b false)] [])
  | 0, j, hj, h0, ht => by
    have he : a = b := by rwa [List.take_of_length_le (by omega), List.take_of_length_le (by omega)] at ht
    rw [if_pos he]
    rw [Y_go]; conv => lhs; whnf
    rw [ilt_f (by (simp only [uintB_l8, uintB_l4, uintB_l3, uintB_l2, uintB_l1, blobB_l, seedB_len, magicB_len, llen_eq, lapp_eq, lrep_eq, lcpy_eq, lset_eq, List.length_append, List.length_take, List.length_drop, List.length_cons, List.length_nil, List.length_replicate, List.length_set, Int.toNat_natCast] at *; omega))]
    conv => lhs; whnf
  | k + 1, j, hj, h0, ht => by
    by_cases hab : a[j.toNat]'(by omega) = b[j.toNat]'(by omega)
    · have ih := ev_same_loop a b hb hl k (j + 1) (by omega) (by omega) (by rw [show (j + 1).toNat = j.toNat + 1 from by omega]; exact take_eq a b _ (by omega) (by omega) ht hab)
      have hz : u8cmp .neq (a[j.toNat]'(by omega)) (b[j.toNat]'(by omega)) = false := by rw [u8cmp_neq, ine_f (by rw [hab])]
      rw [← ih]
      rw [Y_go]; conv => lhs; whnf
      rw [ilt_t (by (simp only [uintB_l8, uintB_l4, uintB_l3, uintB_l2, uintB_l1, blobB_l, seedB_len, magicB_len, llen_eq, lapp_eq, lrep_eq, lcpy_eq, lset_eq, List.length_append, List.length_take, List.length_drop, List.length_cons, List.length_nil, List.length_replicate, List.length_set, Int.toNat_natCast] at *; omega))]
      conv => lhs; whnf
      rw [lget_i (by omega)]
      conv => lhs; whnf
      rw [lget_i (by omega)]
      conv => lhs; whnf
      rw [hz]; conv => lhs; whnf
      rw [drw (by kernel_rfl)]; conv => lhs; whnf
      rw [iadd_eq (by omega)]
    · have hne : a ≠ b := fun e => hab (by subst e; rfl)
      have hz : u8cmp .neq (a[j.toNat]'(by omega)) (b[j.toNat]'(by omega)) = true := by rw [u8cmp_neq, ine_t (fun e => hab (UInt8.toNat_inj.1 (by omega)))]
      rw [if_neg hne]
      rw [Y_go]; conv => lhs; whnf
      rw [ilt_t (by (simp only [uintB_l8, uintB_l4, uintB_l3, uintB_l2, uintB_l1, blobB_l, seedB_len, magicB_len, llen_eq, lapp_eq, lrep_eq, lcpy_eq, lset_eq, List.length_append, List.length_take, List.length_drop, List.length_cons, List.length_nil, List.length_replicate, List.length_set, Int.toNat_natCast] at *; omega))]
      conv => lhs; whnf
      rw [lget_i (by omega)]
      conv => lhs; whnf
      rw [lget_i (by omega)]
      conv => lhs; whnf
      rw [hz]; conv => lhs; whnf
      rw [drw (by kernel_rfl)]; conv => lhs; whnf
theorem ev_same (a b : List UInt8) (ha : a.length ≤ 4294967296) : Y E0 (.call 10 [.sl .u8 a, .sl .u8 b] []) = some (.ret (.b (decide (a = b))) []) := by
  by_cases h : a = b
  · rw [decide_eq_true h]
    rw [Y_go]; conv => lhs; whnf
    rcases Bool.eq_false_or_eq_true (ine (llen a) (llen b)) with hc0 | hc0
    · rw [hc0]; replace hc0 := of_ine_t hc0; try simp only [llen_eq] at hc0
      conv => lhs; whnf
      exact absurd (congrArg List.length h) (by omega)
    · rw [hc0]; replace hc0 := of_ine_f hc0; try simp only [llen_eq] at hc0
      conv => lhs; whnf
      rw [toReq_loop]
      rw [ev_same_loop a b ha (by omega) a.length 0 (by omega) (by omega) (by simp), if_pos h]
      conv => lhs; whnf
  · rw [decide_eq_false h]
    rw [Y_go]; conv => lhs; whnf
    rcases Bool.eq_false_or_eq_true (ine (llen a) (llen b)) with hc0 | hc0
    · rw [hc0]; replace hc0 := of_ine_t hc0; try simp only [llen_eq] at hc0
      conv => lhs; whnf
    · rw [hc0]; replace hc0 := of_ine_f hc0; try simp only [llen_eq] at hc0
      conv => lhs; whnf
      rw [toReq_loop]
      rw [ev_same_loop a b ha (by omega) a.length 0 (by omega) (by omega) (by simp), if_neg h]
      conv => lhs; whnf
theorem ev_magic : Y E0 (.call 25 [] []) = some (.ret (.sl .u8 magicB) []) := by
  rw [Y_go]; conv => lhs; whnf
  rfl
theorem ev_att_encode_loop (b : List UInt8) (a : Att) (s0 s1 : Int) (hb : b.length ≤ 1000000) : Y E0 (.loop 8 0 0 2 [(1, .pa 0 0), (3, .nm 1), (37, .agg [.i s0, .i s1]), (38, .i 0)] [(0, some (.var (attX a))), (1, some (.row 5 .u8 b))]) = some (.fin (.exit 0) 2 [(1, .pa 0 0), (3, .nm 1)] [(0, some (.var (attX a))), (1, some (.row 5 .u8 (uintB (uintB b 2 s0) 2 s1)))]) := by
  dsimp only [attX]
  rw [Y_go]; conv => lhs; whnf
  rw [ilt_t (by omega)]
  conv => lhs; whnf
  rw [ile_t (by omega)]
  conv => lhs; whnf
  rw [ilt_t (by omega)]
  conv => lhs; whnf
  rw [toReq_call]
  rw [ev_uint _ _ _ (by omega)]
  conv => lhs; whnf
  rw [iadd_eq (by omega)]
  rw [Y_go]; conv => lhs; whnf
  rw [ilt_t (by omega)]
  conv => lhs; whnf
  rw [ile_t (by omega)]
  conv => lhs; whnf
  rw [ilt_t (by omega)]
  conv => lhs; whnf
  rw [toReq_call]
  rw [ev_uint _ _ _ (by (simp only [uintB_l8, uintB_l4, uintB_l3, uintB_l2, uintB_l1, blobB_l, seedB_len, magicB_len, llen_eq, lapp_eq, lrep_eq, lcpy_eq, lset_eq, List.length_append, List.length_take, List.length_drop, List.length_cons, List.length_nil, List.length_replicate, List.length_set, Int.toNat_natCast] at *; omega))]
  conv => lhs; whnf
  rw [iadd_eq (by omega)]
  rw [Y_go]; conv => lhs; whnf
  rw [ilt_f (by omega)]
  conv => lhs; whnf
theorem ev_att_encode (a : Att) (hk : a.key.length ≤ 100000) (hn : a.nonce.length ≤ 100000) (hd : a.digest.length ≤ 100000) : Y E0 (.call 8 [.agg (attX a)] []) = some (.ret (.sl .u8 (encA a)) []) := by
  obtain ⟨key, nonce, resets, restarts, clock, safe, updates, s0, s1, digest⟩ := a
  simp only at hk hn hd
  dsimp only [attX]
  cases safe
  · have hlp := fun b hb => ev_att_encode_loop b ⟨key, nonce, resets, restarts, clock, false, updates, s0, s1, digest⟩ s0 s1 hb
    dsimp only [attX] at hlp
    rw [Y_go]; conv => lhs; whnf
    rw [toReq_call]
    rw [ev_blob _ _ (by (simp only [uintB_l8, uintB_l4, uintB_l3, uintB_l2, uintB_l1, blobB_l, seedB_len, magicB_len, llen_eq, lapp_eq, lrep_eq, lcpy_eq, lset_eq, List.length_append, List.length_take, List.length_drop, List.length_cons, List.length_nil, List.length_replicate, List.length_set, Int.toNat_natCast] at *; omega))]
    conv => lhs; whnf
    rw [toReq_call]
    rw [ev_blob _ _ (by (simp only [uintB_l8, uintB_l4, uintB_l3, uintB_l2, uintB_l1, blobB_l, seedB_len, magicB_len, llen_eq, lapp_eq, lrep_eq, lcpy_eq, lset_eq, List.length_append, List.length_take, List.length_drop, List.length_cons, List.length_nil, List.length_replicate, List.length_set, Int.toNat_natCast] at *; omega))]
    conv => lhs; whnf
    rw [drw (by kernel_rfl)]; conv => lhs; whnf
    rw [toReq_call]
    rw [ev_uint _ _ _ (by (simp only [uintB_l8, uintB_l4, uintB_l3, uintB_l2, uintB_l1, blobB_l, seedB_len, magicB_len, llen_eq, lapp_eq, lrep_eq, lcpy_eq, lset_eq, List.length_append, List.length_take, List.length_drop, List.length_cons, List.length_nil, List.length_replicate, List.length_set, Int.toNat_natCast] at *; omega))]
    conv => lhs; whnf
    rw [toReq_call]
    rw [ev_uint _ _ _ (by (simp only [uintB_l8, uintB_l4, uintB_l3, uintB_l2, uintB_l1, blobB_l, seedB_len, magicB_len, llen_eq, lapp_eq, lrep_eq, lcpy_eq, lset_eq, List.length_append, List.length_take, List.length_drop, List.length_cons, List.length_nil, List.length_replicate, List.length_set, Int.toNat_natCast] at *; omega))]
    conv => lhs; whnf
    rw [toReq_call]
    rw [ev_uint _ _ _ (by (simp only [uintB_l8, uintB_l4, uintB_l3, uintB_l2, uintB_l1, blobB_l, seedB_len, magicB_len, llen_eq, lapp_eq, lrep_eq, lcpy_eq, lset_eq, List.length_append, List.length_take, List.length_drop, List.length_cons, List.length_nil, List.length_replicate, List.length_set, Int.toNat_natCast] at *; omega))]
    conv => lhs; whnf
    rw [toReq_call]
    rw [ev_uint _ _ _ (by (simp only [uintB_l8, uintB_l4, uintB_l3, uintB_l2, uintB_l1, blobB_l, seedB_len, magicB_len, llen_eq, lapp_eq, lrep_eq, lcpy_eq, lset_eq, List.length_append, List.length_take, List.length_drop, List.length_cons, List.length_nil, List.length_replicate, List.length_set, Int.toNat_natCast] at *; omega))]
    conv => lhs; whnf
    rw [toReq_call]
    rw [ev_uint _ _ _ (by (simp only [uintB_l8, uintB_l4, uintB_l3, uintB_l2, uintB_l1, blobB_l, seedB_len, magicB_len, llen_eq, lapp_eq, lrep_eq, lcpy_eq, lset_eq, List.length_append, List.length_take, List.length_drop, List.length_cons, List.length_nil, List.length_replicate, List.length_set, Int.toNat_natCast] at *; omega))]
    conv => lhs; whnf
    rw [toReq_loop]
    rw [hlp _ (by first | omega | decide | assumption | (simp only [uintB_l8, uintB_l4, uintB_l3, uintB_l2, uintB_l1, blobB_l, seedB_len, magicB_len, llen_eq, lapp_eq, lrep_eq, lcpy_eq, lset_eq, List.length_append, List.length_take, List.length_drop, List.length_cons, List.length_nil, List.length_replicate, List.length_set, Int.toNat_natCast] at *; omega) | (simp; omega))]
    conv => lhs; whnf
    rw [fits_t (by (simp only [uintB_l8, uintB_l4, uintB_l3, uintB_l2, uintB_l1, blobB_l, seedB_len, magicB_len, llen_eq, lapp_eq, lrep_eq, lcpy_eq, lset_eq, List.length_append, List.length_take, List.length_drop, List.length_cons, List.length_nil, List.length_replicate, List.length_set, Int.toNat_natCast] at *; omega))]
    conv => lhs; whnf
    rw [lapp_eq]; rfl
  · have hlp := fun b hb => ev_att_encode_loop b ⟨key, nonce, resets, restarts, clock, true, updates, s0, s1, digest⟩ s0 s1 hb
    dsimp only [attX] at hlp
    rw [Y_go]; conv => lhs; whnf
    rw [toReq_call]
    rw [ev_blob _ _ (by (simp only [uintB_l8, uintB_l4, uintB_l3, uintB_l2, uintB_l1, blobB_l, seedB_len, magicB_len, llen_eq, lapp_eq, lrep_eq, lcpy_eq, lset_eq, List.length_append, List.length_take, List.length_drop, List.length_cons, List.length_nil, List.length_replicate, List.length_set, Int.toNat_natCast] at *; omega))]
    conv => lhs; whnf
    rw [toReq_call]
    rw [ev_blob _ _ (by (simp only [uintB_l8, uintB_l4, uintB_l3, uintB_l2, uintB_l1, blobB_l, seedB_len, magicB_len, llen_eq, lapp_eq, lrep_eq, lcpy_eq, lset_eq, List.length_append, List.length_take, List.length_drop, List.length_cons, List.length_nil, List.length_replicate, List.length_set, Int.toNat_natCast] at *; omega))]
    conv => lhs; whnf
    rw [drw (by kernel_rfl)]; conv => lhs; whnf
    rw [toReq_call]
    rw [ev_uint _ _ _ (by (simp only [uintB_l8, uintB_l4, uintB_l3, uintB_l2, uintB_l1, blobB_l, seedB_len, magicB_len, llen_eq, lapp_eq, lrep_eq, lcpy_eq, lset_eq, List.length_append, List.length_take, List.length_drop, List.length_cons, List.length_nil, List.length_replicate, List.length_set, Int.toNat_natCast] at *; omega))]
    conv => lhs; whnf
    rw [toReq_call]
    rw [ev_uint _ _ _ (by (simp only [uintB_l8, uintB_l4, uintB_l3, uintB_l2, uintB_l1, blobB_l, seedB_len, magicB_len, llen_eq, lapp_eq, lrep_eq, lcpy_eq, lset_eq, List.length_append, List.length_take, List.length_drop, List.length_cons, List.length_nil, List.length_replicate, List.length_set, Int.toNat_natCast] at *; omega))]
    conv => lhs; whnf
    rw [toReq_call]
    rw [ev_uint _ _ _ (by (simp only [uintB_l8, uintB_l4, uintB_l3, uintB_l2, uintB_l1, blobB_l, seedB_len, magicB_len, llen_eq, lapp_eq, lrep_eq, lcpy_eq, lset_eq, List.length_append, List.length_take, List.length_drop, List.length_cons, List.length_nil, List.length_replicate, List.length_set, Int.toNat_natCast] at *; omega))]
    conv => lhs; whnf
    rw [toReq_call]
    rw [ev_uint _ _ _ (by (simp only [uintB_l8, uintB_l4, uintB_l3, uintB_l2, uintB_l1, blobB_l, seedB_len, magicB_len, llen_eq, lapp_eq, lrep_eq, lcpy_eq, lset_eq, List.length_append, List.length_take, List.length_drop, List.length_cons, List.length_nil, List.length_replicate, List.length_set, Int.toNat_natCast] at *; omega))]
    conv => lhs; whnf
    rw [toReq_call]
    rw [ev_uint _ _ _ (by (simp only [uintB_l8, uintB_l4, uintB_l3, uintB_l2, uintB_l1, blobB_l, seedB_len, magicB_len, llen_eq, lapp_eq, lrep_eq, lcpy_eq, lset_eq, List.length_append, List.length_take, List.length_drop, List.length_cons, List.length_nil, List.length_replicate, List.length_set, Int.toNat_natCast] at *; omega))]
    conv => lhs; whnf
    rw [toReq_loop]
    rw [hlp _ (by first | omega | decide | assumption | (simp only [uintB_l8, uintB_l4, uintB_l3, uintB_l2, uintB_l1, blobB_l, seedB_len, magicB_len, llen_eq, lapp_eq, lrep_eq, lcpy_eq, lset_eq, List.length_append, List.length_take, List.length_drop, List.length_cons, List.length_nil, List.length_replicate, List.length_set, Int.toNat_natCast] at *; omega) | (simp; omega))]
    conv => lhs; whnf
    rw [fits_t (by (simp only [uintB_l8, uintB_l4, uintB_l3, uintB_l2, uintB_l1, blobB_l, seedB_len, magicB_len, llen_eq, lapp_eq, lrep_eq, lcpy_eq, lset_eq, List.length_append, List.length_take, List.length_drop, List.length_cons, List.length_nil, List.length_replicate, List.length_set, Int.toNat_natCast] at *; omega))]
    conv => lhs; whnf
    rw [lapp_eq]; rfl
theorem ev_r16_encode (a : Att) (hk : a.key.length ≤ 100000) (hn : a.nonce.length ≤ 100000) (hd : a.digest.length ≤ 100000) : Y E0 (.call 11 [.agg (attX a)] []) = some (.ret (.nm 0) [some (.row 5 .u8 (encA a))]) := by
  obtain ⟨key, nonce, resets, restarts, clock, safe, updates, s0, s1, digest⟩ := a
  simp only at hk hn hd
  dsimp only [attX]
  cases safe
  · rw [Y_go]; conv => lhs; whnf
    rw [toReq_call]
    rw [ev_magic]
    conv => lhs; whnf
    rw [toReq_call]
    rw [ev_r3blob _ _ (by (simp only [uintB_l8, uintB_l4, uintB_l3, uintB_l2, uintB_l1, blobB_l, seedB_len, magicB_len, llen_eq, lapp_eq, lrep_eq, lcpy_eq, lset_eq, List.length_append, List.length_take, List.length_drop, List.length_cons, List.length_nil, List.length_replicate, List.length_set, Int.toNat_natCast] at *; omega))]
    conv => lhs; whnf
    rw [toReq_call]
    rw [ev_r3blob _ _ (by (simp only [uintB_l8, uintB_l4, uintB_l3, uintB_l2, uintB_l1, blobB_l, seedB_len, magicB_len, llen_eq, lapp_eq, lrep_eq, lcpy_eq, lset_eq, List.length_append, List.length_take, List.length_drop, List.length_cons, List.length_nil, List.length_replicate, List.length_set, Int.toNat_natCast] at *; omega))]
    conv => lhs; whnf
    rw [drw (by kernel_rfl)]; conv => lhs; whnf
    rw [toReq_call]
    rw [ev_r3uint _ _ _ (by (simp only [uintB_l8, uintB_l4, uintB_l3, uintB_l2, uintB_l1, blobB_l, seedB_len, magicB_len, llen_eq, lapp_eq, lrep_eq, lcpy_eq, lset_eq, List.length_append, List.length_take, List.length_drop, List.length_cons, List.length_nil, List.length_replicate, List.length_set, Int.toNat_natCast] at *; omega))]
    conv => lhs; whnf
    rw [toReq_call]
    rw [ev_r3uint _ _ _ (by (simp only [uintB_l8, uintB_l4, uintB_l3, uintB_l2, uintB_l1, blobB_l, seedB_len, magicB_len, llen_eq, lapp_eq, lrep_eq, lcpy_eq, lset_eq, List.length_append, List.length_take, List.length_drop, List.length_cons, List.length_nil, List.length_replicate, List.length_set, Int.toNat_natCast] at *; omega))]
    conv => lhs; whnf
    rw [toReq_call]
    rw [ev_r3uint _ _ _ (by (simp only [uintB_l8, uintB_l4, uintB_l3, uintB_l2, uintB_l1, blobB_l, seedB_len, magicB_len, llen_eq, lapp_eq, lrep_eq, lcpy_eq, lset_eq, List.length_append, List.length_take, List.length_drop, List.length_cons, List.length_nil, List.length_replicate, List.length_set, Int.toNat_natCast] at *; omega))]
    conv => lhs; whnf
    rw [drw (by kernel_rfl)]; conv => lhs; whnf
    rw [fits_t (by (simp only [uintB_l8, uintB_l4, uintB_l3, uintB_l2, uintB_l1, blobB_l, seedB_len, magicB_len, llen_eq, lapp_eq, lrep_eq, lcpy_eq, lset_eq, List.length_append, List.length_take, List.length_drop, List.length_cons, List.length_nil, List.length_replicate, List.length_set, Int.toNat_natCast] at *; omega))]
    conv => lhs; whnf
    rw [toReq_call]
    rw [ev_r3uint _ _ _ (by (simp only [uintB_l8, uintB_l4, uintB_l3, uintB_l2, uintB_l1, blobB_l, seedB_len, magicB_len, llen_eq, lapp_eq, lrep_eq, lcpy_eq, lset_eq, List.length_append, List.length_take, List.length_drop, List.length_cons, List.length_nil, List.length_replicate, List.length_set, Int.toNat_natCast] at *; omega))]
    conv => lhs; whnf
    rw [drw (by kernel_rfl)]; conv => lhs; whnf
    rw [ile_t (by omega)]
    conv => lhs; whnf
    rw [ilt_t (by omega)]
    conv => lhs; whnf
    rw [toReq_call]
    rw [ev_r3uint _ _ _ (by (simp only [uintB_l8, uintB_l4, uintB_l3, uintB_l2, uintB_l1, blobB_l, seedB_len, magicB_len, llen_eq, lapp_eq, lrep_eq, lcpy_eq, lset_eq, List.length_append, List.length_take, List.length_drop, List.length_cons, List.length_nil, List.length_replicate, List.length_set, Int.toNat_natCast] at *; omega))]
    conv => lhs; whnf
    rw [ile_t (by omega)]
    conv => lhs; whnf
    rw [ilt_t (by omega)]
    conv => lhs; whnf
    rw [toReq_call]
    rw [ev_r3uint _ _ _ (by (simp only [uintB_l8, uintB_l4, uintB_l3, uintB_l2, uintB_l1, blobB_l, seedB_len, magicB_len, llen_eq, lapp_eq, lrep_eq, lcpy_eq, lset_eq, List.length_append, List.length_take, List.length_drop, List.length_cons, List.length_nil, List.length_replicate, List.length_set, Int.toNat_natCast] at *; omega))]
    conv => lhs; whnf
    rw [fits_t (by (simp only [uintB_l8, uintB_l4, uintB_l3, uintB_l2, uintB_l1, blobB_l, seedB_len, magicB_len, llen_eq, lapp_eq, lrep_eq, lcpy_eq, lset_eq, List.length_append, List.length_take, List.length_drop, List.length_cons, List.length_nil, List.length_replicate, List.length_set, Int.toNat_natCast] at *; omega))]
    conv => lhs; whnf
    rw [drw (by kernel_rfl)]; conv => lhs; whnf
    simp only [lapp_eq, encA, cond_false, cond_true, uintB0, uintB1, iu8_eq]; rfl
  · rw [Y_go]; conv => lhs; whnf
    rw [toReq_call]
    rw [ev_magic]
    conv => lhs; whnf
    rw [toReq_call]
    rw [ev_r3blob _ _ (by (simp only [uintB_l8, uintB_l4, uintB_l3, uintB_l2, uintB_l1, blobB_l, seedB_len, magicB_len, llen_eq, lapp_eq, lrep_eq, lcpy_eq, lset_eq, List.length_append, List.length_take, List.length_drop, List.length_cons, List.length_nil, List.length_replicate, List.length_set, Int.toNat_natCast] at *; omega))]
    conv => lhs; whnf
    rw [toReq_call]
    rw [ev_r3blob _ _ (by (simp only [uintB_l8, uintB_l4, uintB_l3, uintB_l2, uintB_l1, blobB_l, seedB_len, magicB_len, llen_eq, lapp_eq, lrep_eq, lcpy_eq, lset_eq, List.length_append, List.length_take, List.length_drop, List.length_cons, List.length_nil, List.length_replicate, List.length_set, Int.toNat_natCast] at *; omega))]
    conv => lhs; whnf
    rw [drw (by kernel_rfl)]; conv => lhs; whnf
    rw [toReq_call]
    rw [ev_r3uint _ _ _ (by (simp only [uintB_l8, uintB_l4, uintB_l3, uintB_l2, uintB_l1, blobB_l, seedB_len, magicB_len, llen_eq, lapp_eq, lrep_eq, lcpy_eq, lset_eq, List.length_append, List.length_take, List.length_drop, List.length_cons, List.length_nil, List.length_replicate, List.length_set, Int.toNat_natCast] at *; omega))]
    conv => lhs; whnf
    rw [toReq_call]
    rw [ev_r3uint _ _ _ (by (simp only [uintB_l8, uintB_l4, uintB_l3, uintB_l2, uintB_l1, blobB_l, seedB_len, magicB_len, llen_eq, lapp_eq, lrep_eq, lcpy_eq, lset_eq, List.length_append, List.length_take, List.length_drop, List.length_cons, List.length_nil, List.length_replicate, List.length_set, Int.toNat_natCast] at *; omega))]
    conv => lhs; whnf
    rw [toReq_call]
    rw [ev_r3uint _ _ _ (by (simp only [uintB_l8, uintB_l4, uintB_l3, uintB_l2, uintB_l1, blobB_l, seedB_len, magicB_len, llen_eq, lapp_eq, lrep_eq, lcpy_eq, lset_eq, List.length_append, List.length_take, List.length_drop, List.length_cons, List.length_nil, List.length_replicate, List.length_set, Int.toNat_natCast] at *; omega))]
    conv => lhs; whnf
    rw [drw (by kernel_rfl)]; conv => lhs; whnf
    rw [fits_t (by (simp only [uintB_l8, uintB_l4, uintB_l3, uintB_l2, uintB_l1, blobB_l, seedB_len, magicB_len, llen_eq, lapp_eq, lrep_eq, lcpy_eq, lset_eq, List.length_append, List.length_take, List.length_drop, List.length_cons, List.length_nil, List.length_replicate, List.length_set, Int.toNat_natCast] at *; omega))]
    conv => lhs; whnf
    rw [toReq_call]
    rw [ev_r3uint _ _ _ (by (simp only [uintB_l8, uintB_l4, uintB_l3, uintB_l2, uintB_l1, blobB_l, seedB_len, magicB_len, llen_eq, lapp_eq, lrep_eq, lcpy_eq, lset_eq, List.length_append, List.length_take, List.length_drop, List.length_cons, List.length_nil, List.length_replicate, List.length_set, Int.toNat_natCast] at *; omega))]
    conv => lhs; whnf
    rw [drw (by kernel_rfl)]; conv => lhs; whnf
    rw [ile_t (by omega)]
    conv => lhs; whnf
    rw [ilt_t (by omega)]
    conv => lhs; whnf
    rw [toReq_call]
    rw [ev_r3uint _ _ _ (by (simp only [uintB_l8, uintB_l4, uintB_l3, uintB_l2, uintB_l1, blobB_l, seedB_len, magicB_len, llen_eq, lapp_eq, lrep_eq, lcpy_eq, lset_eq, List.length_append, List.length_take, List.length_drop, List.length_cons, List.length_nil, List.length_replicate, List.length_set, Int.toNat_natCast] at *; omega))]
    conv => lhs; whnf
    rw [ile_t (by omega)]
    conv => lhs; whnf
    rw [ilt_t (by omega)]
    conv => lhs; whnf
    rw [toReq_call]
    rw [ev_r3uint _ _ _ (by (simp only [uintB_l8, uintB_l4, uintB_l3, uintB_l2, uintB_l1, blobB_l, seedB_len, magicB_len, llen_eq, lapp_eq, lrep_eq, lcpy_eq, lset_eq, List.length_append, List.length_take, List.length_drop, List.length_cons, List.length_nil, List.length_replicate, List.length_set, Int.toNat_natCast] at *; omega))]
    conv => lhs; whnf
    rw [fits_t (by (simp only [uintB_l8, uintB_l4, uintB_l3, uintB_l2, uintB_l1, blobB_l, seedB_len, magicB_len, llen_eq, lapp_eq, lrep_eq, lcpy_eq, lset_eq, List.length_append, List.length_take, List.length_drop, List.length_cons, List.length_nil, List.length_replicate, List.length_set, Int.toNat_natCast] at *; omega))]
    conv => lhs; whnf
    rw [drw (by kernel_rfl)]; conv => lhs; whnf
    simp only [lapp_eq, encA, cond_false, cond_true, uintB0, uintB1, iu8_eq]; rfl
end Go.Proofs.Ytlaglaehkhmklaa
