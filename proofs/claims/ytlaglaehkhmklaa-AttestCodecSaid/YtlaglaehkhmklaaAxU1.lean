/-
  Own text: writers and readers of byte forms.
-/
import Derived.Test.YtlaglaehkhmklaaAxT
import Derived.Test.YtlaglaehkhmklaaAxR
import Derived.Test.YtlaglaehkhmklaaPlB
namespace Go.Proofs.Ytlaglaehkhmklaa
open Go Go.Ax
set_option linter.unusedVariables false
set_option linter.unusedSimpArgs false
attribute [local irreducible] iadd isub imul iquo irem ibit ineg ieq ine ilt ile ishl ishr beq' bnot and' seq' u8op u32op u64op u8shr u8shl u64shr u64shl u32shr u32shl i64w u8i u64i iu8 iu32 iu64 u8u64 u64u8 u32u8 u64cmp u8cmp u32cmp llen lget linb lset lcut lrep lapp lcpy lemp fits fitn sealed drawChk
set_option maxHeartbeats 1000000

theorem ev_uint_loop (n : Int) : ∀ (k : Nat) (i : Int) (acc : List UInt8), i = (k : Int) - 1 → k ≤ 8 → acc.length + k ≤ 5000000000 →
    Y E0 (.loop 17 0 0 1 [(2, .i n), (7, .nm 0), (8, .i i)] [(0, some (.row 5 .u8 acc))]) = some (.fin (.exit 0) 1 [(7, .nm 0)] [(0, some (.row 5 .u8 (acc ++ beB k (UInt64.ofInt n))))])
  | 0, i, acc, hi, _, _ => by
    rw [Y_go]; conv => lhs; whnf
    rw [ile_f (by omega)]
    conv => lhs; whnf
    simp [beB]
  | k + 1, i, acc, hi, hk, hl => by
    rw [Y_go]; conv => lhs; whnf
    rw [ile_t (by omega)]
    conv => lhs; whnf
    rw [imul_eq (by omega)]
    rw [fits_t (by (simp only [llen_eq, lapp_eq, lrep_eq, lcpy_eq, lset_eq, List.length_append, List.length_take, List.length_drop, List.length_cons, List.length_nil, List.length_replicate, List.length_set, Int.toNat_natCast] at *; omega))]
    conv => lhs; whnf
    rw [isub_eq (by omega)]
    rw [ev_uint_loop n k _ _ (by first | omega | decide | assumption | (simp only [llen_eq, lapp_eq, lrep_eq, lcpy_eq, lset_eq, List.length_append, List.length_take, List.length_drop, List.length_cons, List.length_nil, List.length_replicate, List.length_set, Int.toNat_natCast] at *; omega) | (simp; omega)) (by first | omega | decide | assumption | (simp only [llen_eq, lapp_eq, lrep_eq, lcpy_eq, lset_eq, List.length_append, List.length_take, List.length_drop, List.length_cons, List.length_nil, List.length_replicate, List.length_set, Int.toNat_natCast] at *; omega) | (simp; omega)) (by first | omega | decide | assumption | (simp only [llen_eq, lapp_eq, lrep_eq, lcpy_eq, lset_eq, List.length_append, List.length_take, List.length_drop, List.length_cons, List.length_nil, List.length_replicate, List.length_set, Int.toNat_natCast] at *; omega) | (simp; omega))]
    conv => lhs; whnf
    simp only [lapp_eq, u64u8_eq, iu64_eq, beB, List.append_assoc, List.cons_append, List.nil_append]; rw [u64_ofInt (by omega), u64shr_eq (by omega), show (8 * i).toNat = 8 * k from by omega]
theorem ev_uint (b : List UInt8) (size n : Int) (hb : b.length ≤ 4294967296) : Y E0 (.call 17 [.sl .u8 b, .i size, .i n] []) = some (.ret (.nm 0) [some (.row 5 .u8 (uintB b size n))]) := by
  rw [Y_go]; conv => lhs; whnf
  rw [fits_t (by omega)]
  conv => lhs; whnf
  rcases Bool.eq_false_or_eq_true (ilt size 1) with hc0 | hc0
  · rw [hc0]; replace hc0 := of_ilt_t hc0; try simp only [llen_eq] at hc0
    conv => lhs; whnf
    unfold uintB; (repeat (first | rw [if_pos (by first | omega | decide | assumption | (simp only [llen_eq, lapp_eq, lrep_eq, lcpy_eq, lset_eq, List.length_append, List.length_take, List.length_drop, List.length_cons, List.length_nil, List.length_replicate, List.length_set, Int.toNat_natCast] at *; omega) | (simp; omega))] | rw [if_neg (by first | omega | decide | assumption | (simp only [llen_eq, lapp_eq, lrep_eq, lcpy_eq, lset_eq, List.length_append, List.length_take, List.length_drop, List.length_cons, List.length_nil, List.length_replicate, List.length_set, Int.toNat_natCast] at *; omega) | (simp; omega))])); try simp only [llen_eq, lapp_eq, lrep_eq, lcpy_eq, lset_eq, List.nil_append, List.append_nil, List.append_assoc, List.cons_append]
  · rw [hc0]; replace hc0 := of_ilt_f hc0; try simp only [llen_eq] at hc0
    conv => lhs; whnf
    rcases Bool.eq_false_or_eq_true (ilt 8 size) with hc1 | hc1
    · rw [hc1]; replace hc1 := of_ilt_t hc1; try simp only [llen_eq] at hc1
      conv => lhs; whnf
      unfold uintB; (repeat (first | rw [if_pos (by first | omega | decide | assumption | (simp only [llen_eq, lapp_eq, lrep_eq, lcpy_eq, lset_eq, List.length_append, List.length_take, List.length_drop, List.length_cons, List.length_nil, List.length_replicate, List.length_set, Int.toNat_natCast] at *; omega) | (simp; omega))] | rw [if_neg (by first | omega | decide | assumption | (simp only [llen_eq, lapp_eq, lrep_eq, lcpy_eq, lset_eq, List.length_append, List.length_take, List.length_drop, List.length_cons, List.length_nil, List.length_replicate, List.length_set, Int.toNat_natCast] at *; omega) | (simp; omega))])); try simp only [llen_eq, lapp_eq, lrep_eq, lcpy_eq, lset_eq, List.nil_append, List.append_nil, List.append_assoc, List.cons_append]
    · rw [hc1]; replace hc1 := of_ilt_f hc1; try simp only [llen_eq] at hc1
      conv => lhs; whnf
      rw [isub_eq (by omega)]
      rw [toReq_loop]
      rw [ev_uint_loop n size.toNat _ _ (by first | omega | decide | assumption | (simp only [llen_eq, lapp_eq, lrep_eq, lcpy_eq, lset_eq, List.length_append, List.length_take, List.length_drop, List.length_cons, List.length_nil, List.length_replicate, List.length_set, Int.toNat_natCast] at *; omega) | (simp; omega)) (by first | omega | decide | assumption | (simp only [llen_eq, lapp_eq, lrep_eq, lcpy_eq, lset_eq, List.length_append, List.length_take, List.length_drop, List.length_cons, List.length_nil, List.length_replicate, List.length_set, Int.toNat_natCast] at *; omega) | (simp; omega)) (by first | omega | decide | assumption | (simp only [llen_eq, lapp_eq, lrep_eq, lcpy_eq, lset_eq, List.length_append, List.length_take, List.length_drop, List.length_cons, List.length_nil, List.length_replicate, List.length_set, Int.toNat_natCast] at *; omega) | (simp; omega))]
      conv => lhs; whnf
      unfold uintB; (repeat (first | rw [if_pos (by first | omega | decide | assumption | (simp only [llen_eq, lapp_eq, lrep_eq, lcpy_eq, lset_eq, List.length_append, List.length_take, List.length_drop, List.length_cons, List.length_nil, List.length_replicate, List.length_set, Int.toNat_natCast] at *; omega) | (simp; omega))] | rw [if_neg (by first | omega | decide | assumption | (simp only [llen_eq, lapp_eq, lrep_eq, lcpy_eq, lset_eq, List.length_append, List.length_take, List.length_drop, List.length_cons, List.length_nil, List.length_replicate, List.length_set, Int.toNat_natCast] at *; omega) | (simp; omega))])); try simp only [llen_eq, lapp_eq, lrep_eq, lcpy_eq, lset_eq, List.nil_append, List.append_nil, List.append_assoc, List.cons_append]
theorem ev_blob (b x : List UInt8) (hb : b.length ≤ 4294900000) : Y E0 (.call 16 [.sl .u8 b, .sl .u8 x] []) = some (.ret (.nm 0) [some (.row 5 .u8 (blobB b x))]) := by
  have hx : lcut x 0 (min (llen x) 65535) = some (x.take 65535) := by
    rw [lcut_s (by rw [llen_eq]; omega)]
    congr 1
    simp only [llen_eq, Int.toNat_zero, List.drop_zero]
    rw [List.take_eq_take_iff]; omega
  have h2 : (x.take 65535).length ≤ 65535 := by rw [List.length_take]; omega
  have := uintB_len b 2 (llen (x.take 65535))
  rw [Y_go]; conv => lhs; whnf
  rw [hx]; conv => lhs; whnf
  rw [toReq_call]
  rw [ev_uint _ _ _ (by omega)]
  conv => lhs; whnf
  rw [fits_t (by (simp only [llen_eq, lapp_eq, lrep_eq, lcpy_eq, lset_eq, List.length_append, List.length_take, List.length_drop, List.length_cons, List.length_nil, List.length_replicate, List.length_set, Int.toNat_natCast] at *; omega))]
  conv => lhs; whnf
  rw [lapp_eq, blobB, llen_eq]
theorem ev_new (b : List UInt8) (hb : b.length ≤ 4294967296) : Y E0 (.call 18 [.sl .u8 b] []) = some (.ret (.pa 0 0) [some (.var [.sl .u8 b, .i 0, .i 0])]) := by
  rw [Y_go]; conv => lhs; whnf
  rw [fits_t (by omega)]
  conv => lhs; whnf
theorem ev_fail (b : List UInt8) (p e f : Int) : Y E0 (.call 32 [.pa 0 0, .i f] [.var [.sl .u8 b, .i p, .i e]]) = some (.ret (.tup []) [some (.var [.sl .u8 b, .i p, .i f])]) := by
  rw [Y_go]; conv => lhs; whnf
theorem ev_take_f (b : List UInt8) (p n : Int) (q e : Int) (hb : b.length ≤ 4294967296) (hp : 0 ≤ p ∧ p ≤ b.length) (hn : 0 ≤ n) (h : b.length < p + n) : Y E0 (.call 33 [.pa 0 0, .i p, .i n] [.var [.sl .u8 b, .i q, .i e]]) = some (.ret (.tup [.sl .u8 [], .i 2]) [some (.var [.sl .u8 b, .i q, .i e])]) := by
  rw [Y_go]; conv => lhs; whnf
  rw [isub_eq (by (simp only [llen_eq, lapp_eq, lrep_eq, lcpy_eq, lset_eq, List.length_append, List.length_take, List.length_drop, List.length_cons, List.length_nil, List.length_replicate, List.length_set, Int.toNat_natCast] at *; omega))]
  rw [ilt_t (by (simp only [llen_eq, lapp_eq, lrep_eq, lcpy_eq, lset_eq, List.length_append, List.length_take, List.length_drop, List.length_cons, List.length_nil, List.length_replicate, List.length_set, Int.toNat_natCast] at *; omega))]
  conv => lhs; whnf
theorem ev_take (b : List UInt8) (p n : Int) (q e : Int) (hb : b.length ≤ 4294967296) (hp : 0 ≤ p ∧ p ≤ b.length) (hn : 0 ≤ n) (h : ¬ b.length < p + n) : Y E0 (.call 33 [.pa 0 0, .i p, .i n] [.var [.sl .u8 b, .i q, .i e]]) = some (.ret (.tup [.sl .u8 ((b.drop p.toNat).take n.toNat), .i 0]) [some (.var [.sl .u8 b, .i q, .i e])]) := by
  rw [Y_go]; conv => lhs; whnf
  rw [isub_eq (by (simp only [llen_eq, lapp_eq, lrep_eq, lcpy_eq, lset_eq, List.length_append, List.length_take, List.length_drop, List.length_cons, List.length_nil, List.length_replicate, List.length_set, Int.toNat_natCast] at *; omega))]
  rw [ilt_f (by (simp only [llen_eq, lapp_eq, lrep_eq, lcpy_eq, lset_eq, List.length_append, List.length_take, List.length_drop, List.length_cons, List.length_nil, List.length_replicate, List.length_set, Int.toNat_natCast] at *; omega))]
  conv => lhs; whnf
  rw [iadd_eq (by omega)]
  rw [lcut_s (by omega)]
  conv => lhs; whnf
  rw [show p + n - p = n from by omega]
theorem ev_left (b : List UInt8) (p : Nat) (e : Int) (hb : b.length ≤ 4294967296) (hp : p ≤ b.length) : Y E0 (.call 34 [.pa 0 0] [.var [.sl .u8 b, .i p, .i e]]) = some (.ret (.i ((b.length - p : Nat) : Int)) [some (.var [.sl .u8 b, .i p, .i e])]) := by
  rw [Y_go]; conv => lhs; whnf
  rw [isub_eq (by (simp only [llen_eq, lapp_eq, lrep_eq, lcpy_eq, lset_eq, List.length_append, List.length_take, List.length_drop, List.length_cons, List.length_nil, List.length_replicate, List.length_set, Int.toNat_natCast] at *; omega))]
  rw [drw (by kernel_rfl)]; conv => lhs; whnf
  simp only [llen_eq]; congr 4; omega
theorem ev_raw (b : List UInt8) (p : Nat) (e n : Int) (hb : b.length ≤ 4294967296) (hp : p ≤ b.length) (hn : n ≤ 4294967296) : Y E0 (.call 19 [.pa 0 0, .i n] [.var [.sl .u8 b, .i p, .i e]]) = some (.ret (.sl .u8 (rdR b p e n).1) [some (.var [.sl .u8 b, .i (rdR b p e n).2.1, .i (rdR b p e n).2.2])]) := by
  by_cases h : b.length < (p : Int) + n
  · rw [Y_go]; conv => lhs; whnf
    rcases Bool.eq_false_or_eq_true (ine e 0) with hc0 | hc0
    · rw [hc0]; replace hc0 := of_ine_t hc0; try simp only [llen_eq] at hc0
      conv => lhs; whnf
      unfold rdR; (repeat (first | rw [if_pos (by first | omega | decide | assumption | (simp only [llen_eq, lapp_eq, lrep_eq, lcpy_eq, lset_eq, List.length_append, List.length_take, List.length_drop, List.length_cons, List.length_nil, List.length_replicate, List.length_set, Int.toNat_natCast] at *; omega) | (simp; omega))] | rw [if_neg (by first | omega | decide | assumption | (simp only [llen_eq, lapp_eq, lrep_eq, lcpy_eq, lset_eq, List.length_append, List.length_take, List.length_drop, List.length_cons, List.length_nil, List.length_replicate, List.length_set, Int.toNat_natCast] at *; omega) | (simp; omega))])); try simp only [llen_eq, lapp_eq, lrep_eq, lcpy_eq, lset_eq, List.nil_append, List.append_nil, List.append_assoc, List.cons_append]
    · rw [hc0]; replace hc0 := of_ine_f hc0; try simp only [llen_eq] at hc0
      subst hc0
      conv => lhs; whnf
      rw [ilt_f (by omega)]
      conv => lhs; whnf
      rw [toReq_call]
      rw [ev_take_f _ _ _ _ _ (by omega) (by omega) (by omega) (by omega)]
      conv => lhs; whnf
      rw [ine_t (by omega)]
      conv => lhs; whnf
      rw [toReq_call]
      rw [ev_fail _ _ _ _]
      conv => lhs; whnf
      unfold rdR; (repeat (first | rw [if_pos (by first | omega | decide | assumption | (simp only [llen_eq, lapp_eq, lrep_eq, lcpy_eq, lset_eq, List.length_append, List.length_take, List.length_drop, List.length_cons, List.length_nil, List.length_replicate, List.length_set, Int.toNat_natCast] at *; omega) | (simp; omega))] | rw [if_neg (by first | omega | decide | assumption | (simp only [llen_eq, lapp_eq, lrep_eq, lcpy_eq, lset_eq, List.length_append, List.length_take, List.length_drop, List.length_cons, List.length_nil, List.length_replicate, List.length_set, Int.toNat_natCast] at *; omega) | (simp; omega))])); try simp only [llen_eq, lapp_eq, lrep_eq, lcpy_eq, lset_eq, List.nil_append, List.append_nil, List.append_assoc, List.cons_append]
  · rw [Y_go]; conv => lhs; whnf
    rcases Bool.eq_false_or_eq_true (ine e 0) with hc0 | hc0
    · rw [hc0]; replace hc0 := of_ine_t hc0; try simp only [llen_eq] at hc0
      conv => lhs; whnf
      unfold rdR; (repeat (first | rw [if_pos (by first | omega | decide | assumption | (simp only [llen_eq, lapp_eq, lrep_eq, lcpy_eq, lset_eq, List.length_append, List.length_take, List.length_drop, List.length_cons, List.length_nil, List.length_replicate, List.length_set, Int.toNat_natCast] at *; omega) | (simp; omega))] | rw [if_neg (by first | omega | decide | assumption | (simp only [llen_eq, lapp_eq, lrep_eq, lcpy_eq, lset_eq, List.length_append, List.length_take, List.length_drop, List.length_cons, List.length_nil, List.length_replicate, List.length_set, Int.toNat_natCast] at *; omega) | (simp; omega))])); try simp only [llen_eq, lapp_eq, lrep_eq, lcpy_eq, lset_eq, List.nil_append, List.append_nil, List.append_assoc, List.cons_append]
    · rw [hc0]; replace hc0 := of_ine_f hc0; try simp only [llen_eq] at hc0
      subst hc0
      conv => lhs; whnf
      rcases Bool.eq_false_or_eq_true (ilt n 0) with hc1 | hc1
      · rw [hc1]; replace hc1 := of_ilt_t hc1; try simp only [llen_eq] at hc1
        conv => lhs; whnf
        rw [toReq_call]
        rw [ev_fail _ _ _ _]
        conv => lhs; whnf
        unfold rdR; (repeat (first | rw [if_pos (by first | omega | decide | assumption | (simp only [llen_eq, lapp_eq, lrep_eq, lcpy_eq, lset_eq, List.length_append, List.length_take, List.length_drop, List.length_cons, List.length_nil, List.length_replicate, List.length_set, Int.toNat_natCast] at *; omega) | (simp; omega))] | rw [if_neg (by first | omega | decide | assumption | (simp only [llen_eq, lapp_eq, lrep_eq, lcpy_eq, lset_eq, List.length_append, List.length_take, List.length_drop, List.length_cons, List.length_nil, List.length_replicate, List.length_set, Int.toNat_natCast] at *; omega) | (simp; omega))])); try simp only [llen_eq, lapp_eq, lrep_eq, lcpy_eq, lset_eq, List.nil_append, List.append_nil, List.append_assoc, List.cons_append]
      · rw [hc1]; replace hc1 := of_ilt_f hc1; try simp only [llen_eq] at hc1
        conv => lhs; whnf
        rw [toReq_call]
        rw [ev_take _ _ _ _ _ (by omega) (by omega) (by omega) (by omega)]
        conv => lhs; whnf
        rw [ine_f (by omega)]
        conv => lhs; whnf
        rw [fits_t (by (simp only [llen_eq, lapp_eq, lrep_eq, lcpy_eq, lset_eq, List.length_append, List.length_take, List.length_drop, List.length_cons, List.length_nil, List.length_replicate, List.length_set, Int.toNat_natCast] at *; omega))]
        conv => lhs; whnf
        rw [iadd_eq (by omega)]
        rw [show (p : Int) + n = ((p + n.toNat : Nat) : Int) from by omega]; unfold rdR; (repeat (first | rw [if_pos (by first | omega | decide | assumption | (simp only [llen_eq, lapp_eq, lrep_eq, lcpy_eq, lset_eq, List.length_append, List.length_take, List.length_drop, List.length_cons, List.length_nil, List.length_replicate, List.length_set, Int.toNat_natCast] at *; omega) | (simp; omega))] | rw [if_neg (by first | omega | decide | assumption | (simp only [llen_eq, lapp_eq, lrep_eq, lcpy_eq, lset_eq, List.length_append, List.length_take, List.length_drop, List.length_cons, List.length_nil, List.length_replicate, List.length_set, Int.toNat_natCast] at *; omega) | (simp; omega))])); rfl
theorem ev_rerr (b : List UInt8) (p e : Int) : Y E0 (.call 20 [.pa 0 0] [.var [.sl .u8 b, .i p, .i e]]) = some (.ret (.i e) [some (.var [.sl .u8 b, .i p, .i e])]) := by
  rw [Y_go]; conv => lhs; whnf
theorem ev_rend (b : List UInt8) (p : Nat) (e : Int) (hb : b.length ≤ 4294967296) (hp : p ≤ b.length) : Y E0 (.call 23 [.pa 0 0] [.var [.sl .u8 b, .i p, .i e]]) = some (.ret (.i (rdE b p e)) [some (.var [.sl .u8 b, .i p, .i e])]) := by
  rw [Y_go]; conv => lhs; whnf
  rcases Bool.eq_false_or_eq_true (ieq e 0) with hc0 | hc0
  · rw [hc0]; replace hc0 := of_ieq_t hc0; try simp only [llen_eq] at hc0
    subst hc0
    conv => lhs; whnf
    rw [toReq_call]
    rw [ev_left _ _ _ (by omega) (by omega)]
    conv => lhs; whnf
    rcases Bool.eq_false_or_eq_true (ilt 0 ↑(b.length - p)) with hc1 | hc1
    · rw [hc1]; replace hc1 := of_ilt_t hc1; try simp only [llen_eq] at hc1
      conv => lhs; whnf
      unfold rdE; (repeat (first | rw [if_pos (by first | omega | decide | assumption | (simp only [llen_eq, lapp_eq, lrep_eq, lcpy_eq, lset_eq, List.length_append, List.length_take, List.length_drop, List.length_cons, List.length_nil, List.length_replicate, List.length_set, Int.toNat_natCast] at *; omega) | (simp; omega))] | rw [if_neg (by first | omega | decide | assumption | (simp only [llen_eq, lapp_eq, lrep_eq, lcpy_eq, lset_eq, List.length_append, List.length_take, List.length_drop, List.length_cons, List.length_nil, List.length_replicate, List.length_set, Int.toNat_natCast] at *; omega) | (simp; omega))])); try simp only [llen_eq, lapp_eq, lrep_eq, lcpy_eq, lset_eq, List.nil_append, List.append_nil, List.append_assoc, List.cons_append]
    · rw [hc1]; replace hc1 := of_ilt_f hc1; try simp only [llen_eq] at hc1
      conv => lhs; whnf
      unfold rdE; (repeat (first | rw [if_pos (by first | omega | decide | assumption | (simp only [llen_eq, lapp_eq, lrep_eq, lcpy_eq, lset_eq, List.length_append, List.length_take, List.length_drop, List.length_cons, List.length_nil, List.length_replicate, List.length_set, Int.toNat_natCast] at *; omega) | (simp; omega))] | rw [if_neg (by first | omega | decide | assumption | (simp only [llen_eq, lapp_eq, lrep_eq, lcpy_eq, lset_eq, List.length_append, List.length_take, List.length_drop, List.length_cons, List.length_nil, List.length_replicate, List.length_set, Int.toNat_natCast] at *; omega) | (simp; omega))])); try simp only [llen_eq, lapp_eq, lrep_eq, lcpy_eq, lset_eq, List.nil_append, List.append_nil, List.append_assoc, List.cons_append]
  · rw [hc0]; replace hc0 := of_ieq_f hc0; try simp only [llen_eq] at hc0
    conv => lhs; whnf
    unfold rdE; (repeat (first | rw [if_pos (by first | omega | decide | assumption | (simp only [llen_eq, lapp_eq, lrep_eq, lcpy_eq, lset_eq, List.length_append, List.length_take, List.length_drop, List.length_cons, List.length_nil, List.length_replicate, List.length_set, Int.toNat_natCast] at *; omega) | (simp; omega))] | rw [if_neg (by first | omega | decide | assumption | (simp only [llen_eq, lapp_eq, lrep_eq, lcpy_eq, lset_eq, List.length_append, List.length_take, List.length_drop, List.length_cons, List.length_nil, List.length_replicate, List.length_set, Int.toNat_natCast] at *; omega) | (simp; omega))])); try simp only [llen_eq, lapp_eq, lrep_eq, lcpy_eq, lset_eq, List.nil_append, List.append_nil, List.append_assoc, List.cons_append]
end Go.Proofs.Ytlaglaehkhmklaa
