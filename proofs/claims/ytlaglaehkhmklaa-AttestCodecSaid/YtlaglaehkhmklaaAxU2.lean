/-
  Own text: readers of byte forms, continued.
-/
import Derived.Test.YtlaglaehkhmklaaAxU1
namespace Go.Proofs.Ytlaglaehkhmklaa
open Go Go.Ax
set_option linter.unusedVariables false
set_option linter.unusedSimpArgs false
attribute [local irreducible] iadd isub imul iquo irem ibit ineg ieq ine ilt ile ishl ishr beq' bnot and' seq' u8op u32op u64op u8shr u8shl u64shr u64shl u32shr u32shl i64w u8i u64i iu8 iu32 iu64 u8u64 u64u8 u32u8 u64cmp u8cmp u32cmp llen lget linb lset lcut lrep lapp lcpy lemp fits fitn sealed drawChk
set_option maxHeartbeats 1000000

theorem ev_ruint_loop (l b : List UInt8) (n p e : Int) (hl : l.length ≤ 8) : ∀ (k : Nat) (acc : UInt64) (j : Int), j = (l.length : Int) - k → k ≤ l.length →
    Y E0 (.loop 22 0 1 1 [(0, .pa 0 0), (1, .i n), (7, .u64 acc), (38, .sl .u8 l), (39, .i (llen l)), (40, .i j)] [(0, some (.var [.sl .u8 b, .i p, .i e]))]) = some (.fin (.exit 0) 1 [(0, .pa 0 0), (1, .i n), (7, .u64 ((l.drop j.toNat).foldl (fun n x => n <<< 8 ||| x.toUInt64) acc))] [(0, some (.var [.sl .u8 b, .i p, .i e]))])
  | 0, acc, j, hj, hk => by
    rw [Y_go]; conv => lhs; whnf
    rw [ilt_f (by (simp only [llen_eq, lapp_eq, lrep_eq, lcpy_eq, lset_eq, List.length_append, List.length_take, List.length_drop, List.length_cons, List.length_nil, List.length_replicate, List.length_set, Int.toNat_natCast] at *; omega))]
    conv => lhs; whnf
    rw [List.drop_eq_nil_of_le (by omega)]; rfl
  | k + 1, acc, j, hj, hk => by
    have hlt : j.toNat < l.length := by omega
    rw [Y_go]; conv => lhs; whnf
    rw [ilt_t (by (simp only [llen_eq, lapp_eq, lrep_eq, lcpy_eq, lset_eq, List.length_append, List.length_take, List.length_drop, List.length_cons, List.length_nil, List.length_replicate, List.length_set, Int.toNat_natCast] at *; omega))]
    conv => lhs; whnf
    rw [lget_i (by omega)]
    conv => lhs; whnf
    rw [iadd_eq (by omega)]
    rw [ev_ruint_loop l b n p e hl k _ _ (by omega) (by omega)]
    conv => lhs; whnf
    rw [show l.drop j.toNat = l[j.toNat] :: l.drop (j + 1).toNat from by rw [List.drop_eq_getElem_cons hlt, show (j + 1).toNat = j.toNat + 1 from by omega], List.foldl_cons, u64or_eq, u8u64_eq, u64shl_eq (by decide)]; rfl
theorem ev_ruint (b : List UInt8) (p : Nat) (e n : Int) (hb : b.length ≤ 4294967296) (hp : p ≤ b.length) : Y E0 (.call 22 [.pa 0 0, .i n] [.var [.sl .u8 b, .i p, .i e]]) = some (.ret (.i (rdU b p e n).1) [some (.var [.sl .u8 b, .i (rdU b p e n).2.1, .i (rdU b p e n).2.2])]) := by
  have hv : ∀ l : List UInt8, (l.drop (0 : Int).toNat).foldl (fun (n : UInt64) (x : UInt8) => n <<< 8 ||| x.toUInt64) (UInt64.ofNat 0) = beN l := fun _ => rfl
  by_cases h4 : (b.length : Int) < (p : Int) + n
  · rw [Y_go]; conv => lhs; whnf
    rcases Bool.eq_false_or_eq_true (ine e 0) with hc0 | hc0
    · rw [hc0]; replace hc0 := of_ine_t hc0; try simp only [llen_eq] at hc0
      conv => lhs; whnf
      unfold rdU; (repeat (first | rw [if_pos (by first | omega | decide | assumption | (simp only [llen_eq, lapp_eq, lrep_eq, lcpy_eq, lset_eq, List.length_append, List.length_take, List.length_drop, List.length_cons, List.length_nil, List.length_replicate, List.length_set, Int.toNat_natCast] at *; omega) | (simp; omega))] | rw [if_neg (by first | omega | decide | assumption | (simp only [llen_eq, lapp_eq, lrep_eq, lcpy_eq, lset_eq, List.length_append, List.length_take, List.length_drop, List.length_cons, List.length_nil, List.length_replicate, List.length_set, Int.toNat_natCast] at *; omega) | (simp; omega))])); try simp only [llen_eq, lapp_eq, lrep_eq, lcpy_eq, lset_eq, List.nil_append, List.append_nil, List.append_assoc, List.cons_append]
    · rw [hc0]; replace hc0 := of_ine_f hc0; try simp only [llen_eq] at hc0
      subst hc0
      conv => lhs; whnf
      rw [ilt_f (by omega)]
      conv => lhs; whnf
      rcases Bool.eq_false_or_eq_true (ilt 8 n) with hc1 | hc1
      · rw [hc1]; replace hc1 := of_ilt_t hc1; try simp only [llen_eq] at hc1
        conv => lhs; whnf
        rw [toReq_call]
        rw [ev_fail _ _ _ _]
        conv => lhs; whnf
        unfold rdU; (repeat (first | rw [if_pos (by first | omega | decide | assumption | (simp only [llen_eq, lapp_eq, lrep_eq, lcpy_eq, lset_eq, List.length_append, List.length_take, List.length_drop, List.length_cons, List.length_nil, List.length_replicate, List.length_set, Int.toNat_natCast] at *; omega) | (simp; omega))] | rw [if_neg (by first | omega | decide | assumption | (simp only [llen_eq, lapp_eq, lrep_eq, lcpy_eq, lset_eq, List.length_append, List.length_take, List.length_drop, List.length_cons, List.length_nil, List.length_replicate, List.length_set, Int.toNat_natCast] at *; omega) | (simp; omega))])); try simp only [llen_eq, lapp_eq, lrep_eq, lcpy_eq, lset_eq, List.nil_append, List.append_nil, List.append_assoc, List.cons_append]
      · rw [hc1]; replace hc1 := of_ilt_f hc1; try simp only [llen_eq] at hc1
        conv => lhs; whnf
        rw [toReq_call]
        rw [ev_take_f _ _ _ _ _ (by omega) (by omega) (by omega) (by omega)]
        conv => lhs; whnf
        rw [ine_t (by omega)]
        conv => lhs; whnf
        rw [toReq_call]
        rw [ev_fail _ _ _ _]
        conv => lhs; whnf
        unfold rdU; (repeat (first | rw [if_pos (by first | omega | decide | assumption | (simp only [llen_eq, lapp_eq, lrep_eq, lcpy_eq, lset_eq, List.length_append, List.length_take, List.length_drop, List.length_cons, List.length_nil, List.length_replicate, List.length_set, Int.toNat_natCast] at *; omega) | (simp; omega))] | rw [if_neg (by first | omega | decide | assumption | (simp only [llen_eq, lapp_eq, lrep_eq, lcpy_eq, lset_eq, List.length_append, List.length_take, List.length_drop, List.length_cons, List.length_nil, List.length_replicate, List.length_set, Int.toNat_natCast] at *; omega) | (simp; omega))])); try simp only [llen_eq, lapp_eq, lrep_eq, lcpy_eq, lset_eq, List.nil_append, List.append_nil, List.append_assoc, List.cons_append]
  · by_cases h5 : 9223372036854775807 < (beN ((b.drop p).take n.toNat)).toNat
    · rw [Y_go]; conv => lhs; whnf
      rcases Bool.eq_false_or_eq_true (ine e 0) with hc0 | hc0
      · rw [hc0]; replace hc0 := of_ine_t hc0; try simp only [llen_eq] at hc0
        conv => lhs; whnf
        unfold rdU; (repeat (first | rw [if_pos (by first | omega | decide | assumption | (simp only [llen_eq, lapp_eq, lrep_eq, lcpy_eq, lset_eq, List.length_append, List.length_take, List.length_drop, List.length_cons, List.length_nil, List.length_replicate, List.length_set, Int.toNat_natCast] at *; omega) | (simp; omega))] | rw [if_neg (by first | omega | decide | assumption | (simp only [llen_eq, lapp_eq, lrep_eq, lcpy_eq, lset_eq, List.length_append, List.length_take, List.length_drop, List.length_cons, List.length_nil, List.length_replicate, List.length_set, Int.toNat_natCast] at *; omega) | (simp; omega))])); try simp only [llen_eq, lapp_eq, lrep_eq, lcpy_eq, lset_eq, List.nil_append, List.append_nil, List.append_assoc, List.cons_append]
      · rw [hc0]; replace hc0 := of_ine_f hc0; try simp only [llen_eq] at hc0
        subst hc0
        conv => lhs; whnf
        rcases Bool.eq_false_or_eq_true (ilt n 1) with hc1 | hc1
        · rw [hc1]; replace hc1 := of_ilt_t hc1; try simp only [llen_eq] at hc1
          conv => lhs; whnf
          rw [toReq_call]
          rw [ev_fail _ _ _ _]
          conv => lhs; whnf
          unfold rdU; (repeat (first | rw [if_pos (by first | omega | decide | assumption | (simp only [llen_eq, lapp_eq, lrep_eq, lcpy_eq, lset_eq, List.length_append, List.length_take, List.length_drop, List.length_cons, List.length_nil, List.length_replicate, List.length_set, Int.toNat_natCast] at *; omega) | (simp; omega))] | rw [if_neg (by first | omega | decide | assumption | (simp only [llen_eq, lapp_eq, lrep_eq, lcpy_eq, lset_eq, List.length_append, List.length_take, List.length_drop, List.length_cons, List.length_nil, List.length_replicate, List.length_set, Int.toNat_natCast] at *; omega) | (simp; omega))])); try simp only [llen_eq, lapp_eq, lrep_eq, lcpy_eq, lset_eq, List.nil_append, List.append_nil, List.append_assoc, List.cons_append]
        · rw [hc1]; replace hc1 := of_ilt_f hc1; try simp only [llen_eq] at hc1
          conv => lhs; whnf
          rcases Bool.eq_false_or_eq_true (ilt 8 n) with hc2 | hc2
          · rw [hc2]; replace hc2 := of_ilt_t hc2; try simp only [llen_eq] at hc2
            conv => lhs; whnf
            rw [toReq_call]
            rw [ev_fail _ _ _ _]
            conv => lhs; whnf
            unfold rdU; (repeat (first | rw [if_pos (by first | omega | decide | assumption | (simp only [llen_eq, lapp_eq, lrep_eq, lcpy_eq, lset_eq, List.length_append, List.length_take, List.length_drop, List.length_cons, List.length_nil, List.length_replicate, List.length_set, Int.toNat_natCast] at *; omega) | (simp; omega))] | rw [if_neg (by first | omega | decide | assumption | (simp only [llen_eq, lapp_eq, lrep_eq, lcpy_eq, lset_eq, List.length_append, List.length_take, List.length_drop, List.length_cons, List.length_nil, List.length_replicate, List.length_set, Int.toNat_natCast] at *; omega) | (simp; omega))])); try simp only [llen_eq, lapp_eq, lrep_eq, lcpy_eq, lset_eq, List.nil_append, List.append_nil, List.append_assoc, List.cons_append]
          · rw [hc2]; replace hc2 := of_ilt_f hc2; try simp only [llen_eq] at hc2
            conv => lhs; whnf
            rw [toReq_call]
            rw [ev_take _ _ _ _ _ (by omega) (by omega) (by omega) (by omega)]
            conv => lhs; whnf
            rw [ine_f (by omega)]
            conv => lhs; whnf
            rw [toReq_loop]
            rw [ev_ruint_loop _ b n p 0 (by simp; omega) ((b.drop (p : Int).toNat).take n.toNat).length _ 0 (by omega) (by omega), hv, Int.toNat_natCast]
            conv => lhs; whnf
            rw [u64gt_t (by simpa using h5)]; conv => lhs; whnf
            rw [toReq_call]
            rw [ev_fail _ _ _ _]
            conv => lhs; whnf
            unfold rdU; (repeat (first | rw [if_pos (by first | omega | decide | assumption | (simp only [llen_eq, lapp_eq, lrep_eq, lcpy_eq, lset_eq, List.length_append, List.length_take, List.length_drop, List.length_cons, List.length_nil, List.length_replicate, List.length_set, Int.toNat_natCast] at *; omega) | (simp; omega))] | rw [if_neg (by first | omega | decide | assumption | (simp only [llen_eq, lapp_eq, lrep_eq, lcpy_eq, lset_eq, List.length_append, List.length_take, List.length_drop, List.length_cons, List.length_nil, List.length_replicate, List.length_set, Int.toNat_natCast] at *; omega) | (simp; omega))])); try simp only [llen_eq, lapp_eq, lrep_eq, lcpy_eq, lset_eq, List.nil_append, List.append_nil, List.append_assoc, List.cons_append]
    · rw [Y_go]; conv => lhs; whnf
      rcases Bool.eq_false_or_eq_true (ine e 0) with hc0 | hc0
      · rw [hc0]; replace hc0 := of_ine_t hc0; try simp only [llen_eq] at hc0
        conv => lhs; whnf
        unfold rdU; (repeat (first | rw [if_pos (by first | omega | decide | assumption | (simp only [llen_eq, lapp_eq, lrep_eq, lcpy_eq, lset_eq, List.length_append, List.length_take, List.length_drop, List.length_cons, List.length_nil, List.length_replicate, List.length_set, Int.toNat_natCast] at *; omega) | (simp; omega))] | rw [if_neg (by first | omega | decide | assumption | (simp only [llen_eq, lapp_eq, lrep_eq, lcpy_eq, lset_eq, List.length_append, List.length_take, List.length_drop, List.length_cons, List.length_nil, List.length_replicate, List.length_set, Int.toNat_natCast] at *; omega) | (simp; omega))])); try simp only [llen_eq, lapp_eq, lrep_eq, lcpy_eq, lset_eq, List.nil_append, List.append_nil, List.append_assoc, List.cons_append]
      · rw [hc0]; replace hc0 := of_ine_f hc0; try simp only [llen_eq] at hc0
        subst hc0
        conv => lhs; whnf
        rcases Bool.eq_false_or_eq_true (ilt n 1) with hc1 | hc1
        · rw [hc1]; replace hc1 := of_ilt_t hc1; try simp only [llen_eq] at hc1
          conv => lhs; whnf
          rw [toReq_call]
          rw [ev_fail _ _ _ _]
          conv => lhs; whnf
          unfold rdU; (repeat (first | rw [if_pos (by first | omega | decide | assumption | (simp only [llen_eq, lapp_eq, lrep_eq, lcpy_eq, lset_eq, List.length_append, List.length_take, List.length_drop, List.length_cons, List.length_nil, List.length_replicate, List.length_set, Int.toNat_natCast] at *; omega) | (simp; omega))] | rw [if_neg (by first | omega | decide | assumption | (simp only [llen_eq, lapp_eq, lrep_eq, lcpy_eq, lset_eq, List.length_append, List.length_take, List.length_drop, List.length_cons, List.length_nil, List.length_replicate, List.length_set, Int.toNat_natCast] at *; omega) | (simp; omega))])); try simp only [llen_eq, lapp_eq, lrep_eq, lcpy_eq, lset_eq, List.nil_append, List.append_nil, List.append_assoc, List.cons_append]
        · rw [hc1]; replace hc1 := of_ilt_f hc1; try simp only [llen_eq] at hc1
          conv => lhs; whnf
          rcases Bool.eq_false_or_eq_true (ilt 8 n) with hc2 | hc2
          · rw [hc2]; replace hc2 := of_ilt_t hc2; try simp only [llen_eq] at hc2
            conv => lhs; whnf
            rw [toReq_call]
            rw [ev_fail _ _ _ _]
            conv => lhs; whnf
            unfold rdU; (repeat (first | rw [if_pos (by first | omega | decide | assumption | (simp only [llen_eq, lapp_eq, lrep_eq, lcpy_eq, lset_eq, List.length_append, List.length_take, List.length_drop, List.length_cons, List.length_nil, List.length_replicate, List.length_set, Int.toNat_natCast] at *; omega) | (simp; omega))] | rw [if_neg (by first | omega | decide | assumption | (simp only [llen_eq, lapp_eq, lrep_eq, lcpy_eq, lset_eq, List.length_append, List.length_take, List.length_drop, List.length_cons, List.length_nil, List.length_replicate, List.length_set, Int.toNat_natCast] at *; omega) | (simp; omega))])); try simp only [llen_eq, lapp_eq, lrep_eq, lcpy_eq, lset_eq, List.nil_append, List.append_nil, List.append_assoc, List.cons_append]
          · rw [hc2]; replace hc2 := of_ilt_f hc2; try simp only [llen_eq] at hc2
            conv => lhs; whnf
            rw [toReq_call]
            rw [ev_take _ _ _ _ _ (by omega) (by omega) (by omega) (by omega)]
            conv => lhs; whnf
            rw [ine_f (by omega)]
            conv => lhs; whnf
            rw [toReq_loop]
            rw [ev_ruint_loop _ b n p 0 (by simp; omega) ((b.drop (p : Int).toNat).take n.toNat).length _ 0 (by omega) (by omega), hv, Int.toNat_natCast]
            conv => lhs; whnf
            rw [u64gt_f (by simpa using h5)]; conv => lhs; whnf
            rw [u64i_eq (by omega)]
            rw [iadd_eq (by omega)]
            rw [show (p : Int) + n = ((p + n.toNat : Nat) : Int) from by omega]; unfold rdU; (repeat (first | rw [if_pos (by first | omega | decide | assumption | (simp only [llen_eq, lapp_eq, lrep_eq, lcpy_eq, lset_eq, List.length_append, List.length_take, List.length_drop, List.length_cons, List.length_nil, List.length_replicate, List.length_set, Int.toNat_natCast] at *; omega) | (simp; omega))] | rw [if_neg (by first | omega | decide | assumption | (simp only [llen_eq, lapp_eq, lrep_eq, lcpy_eq, lset_eq, List.length_append, List.length_take, List.length_drop, List.length_cons, List.length_nil, List.length_replicate, List.length_set, Int.toNat_natCast] at *; omega) | (simp; omega))]))
theorem ev_rblob (b : List UInt8) (p : Nat) (e n : Int) (hb : b.length ≤ 4294967296) (hp : p ≤ b.length) : Y E0 (.call 21 [.pa 0 0, .i n] [.var [.sl .u8 b, .i p, .i e]]) = some (.ret (.sl .u8 (rdB b p e n).1) [some (.var [.sl .u8 b, .i (rdB b p e n).2.1, .i (rdB b p e n).2.2])]) := by
  by_cases h2 : (b.length : Int) < (p : Int) + 2
  · rw [Y_go]; conv => lhs; whnf
    rcases Bool.eq_false_or_eq_true (ine e 0) with hc0 | hc0
    · rw [hc0]; replace hc0 := of_ine_t hc0; try simp only [llen_eq] at hc0
      conv => lhs; whnf
      unfold rdB; (repeat (first | rw [if_pos (by first | omega | decide | assumption | (simp only [llen_eq, lapp_eq, lrep_eq, lcpy_eq, lset_eq, List.length_append, List.length_take, List.length_drop, List.length_cons, List.length_nil, List.length_replicate, List.length_set, Int.toNat_natCast] at *; omega) | (simp; omega))] | rw [if_neg (by first | omega | decide | assumption | (simp only [llen_eq, lapp_eq, lrep_eq, lcpy_eq, lset_eq, List.length_append, List.length_take, List.length_drop, List.length_cons, List.length_nil, List.length_replicate, List.length_set, Int.toNat_natCast] at *; omega) | (simp; omega))])); try simp only [llen_eq, lapp_eq, lrep_eq, lcpy_eq, lset_eq, List.nil_append, List.append_nil, List.append_assoc, List.cons_append]
    · rw [hc0]; replace hc0 := of_ine_f hc0; try simp only [llen_eq] at hc0
      subst hc0
      conv => lhs; whnf
      rw [toReq_call]
      rw [ev_take_f _ _ _ _ _ (by omega) (by omega) (by omega) (by omega)]
      conv => lhs; whnf
      rw [ine_t (by omega)]
      conv => lhs; whnf
      rw [toReq_call]
      rw [ev_fail _ _ _ _]
      conv => lhs; whnf
      unfold rdB; (repeat (first | rw [if_pos (by first | omega | decide | assumption | (simp only [llen_eq, lapp_eq, lrep_eq, lcpy_eq, lset_eq, List.length_append, List.length_take, List.length_drop, List.length_cons, List.length_nil, List.length_replicate, List.length_set, Int.toNat_natCast] at *; omega) | (simp; omega))] | rw [if_neg (by first | omega | decide | assumption | (simp only [llen_eq, lapp_eq, lrep_eq, lcpy_eq, lset_eq, List.length_append, List.length_take, List.length_drop, List.length_cons, List.length_nil, List.length_replicate, List.length_set, Int.toNat_natCast] at *; omega) | (simp; omega))])); try simp only [llen_eq, lapp_eq, lrep_eq, lcpy_eq, lset_eq, List.nil_append, List.append_nil, List.append_assoc, List.cons_append]
  · have g0 : lget ((b.drop (p : Int).toNat).take (2 : Int).toNat) 0 = some (b.getD p 0) := lget_s (by omega) (by simp [List.getElem?_take, List.getElem?_drop, List.getD]; rw [List.getElem?_eq_getElem (by omega)]; rfl)
    have g1 : lget ((b.drop (p : Int).toNat).take (2 : Int).toNat) 1 = some (b.getD (p + 1) 0) := lget_s (by omega) (by simp [List.getElem?_take, List.getElem?_drop, List.getD]; rw [List.getElem?_eq_getElem (by omega)]; rfl)
    have hv : ibit .or (ishl (u8i (b.getD p 0)) (UInt64.ofNat 8).toNat) (u8i (b.getD (p + 1) 0)) = (lenAt b p : Int) := by
      rw [show (UInt64.ofNat 8).toNat = 8 from rfl, u8i_eq, u8i_eq, ishl8, ior_eq, or_bytes, lenAt]
    have hx := (b.getD p 0).toNat_lt
    have hy := (b.getD (p + 1) 0).toNat_lt
    have hl : lenAt b p ≤ 65535 := by rw [lenAt]; omega
    by_cases h4 : (b.length : Int) < (p : Int) + 2 + lenAt b p
    · rw [Y_go]; conv => lhs; whnf
      rcases Bool.eq_false_or_eq_true (ine e 0) with hc0 | hc0
      · rw [hc0]; replace hc0 := of_ine_t hc0; try simp only [llen_eq] at hc0
        conv => lhs; whnf
        unfold rdB; (repeat (first | rw [if_pos (by first | omega | decide | assumption | (simp only [llen_eq, lapp_eq, lrep_eq, lcpy_eq, lset_eq, List.length_append, List.length_take, List.length_drop, List.length_cons, List.length_nil, List.length_replicate, List.length_set, Int.toNat_natCast] at *; omega) | (simp; omega))] | rw [if_neg (by first | omega | decide | assumption | (simp only [llen_eq, lapp_eq, lrep_eq, lcpy_eq, lset_eq, List.length_append, List.length_take, List.length_drop, List.length_cons, List.length_nil, List.length_replicate, List.length_set, Int.toNat_natCast] at *; omega) | (simp; omega))])); try simp only [llen_eq, lapp_eq, lrep_eq, lcpy_eq, lset_eq, List.nil_append, List.append_nil, List.append_assoc, List.cons_append]
      · rw [hc0]; replace hc0 := of_ine_f hc0; try simp only [llen_eq] at hc0
        subst hc0
        conv => lhs; whnf
        rw [toReq_call]
        rw [ev_take _ _ _ _ _ (by omega) (by omega) (by omega) (by omega)]
        conv => lhs; whnf
        rw [ine_f (by omega)]
        conv => lhs; whnf
        rw [g0]; conv => lhs; whnf
        rw [g1]; conv => lhs; whnf
        rw [hv]; conv => lhs; whnf
        rw [drw (by kernel_rfl)]; conv => lhs; whnf
        rcases Bool.eq_false_or_eq_true (ilt n ↑(lenAt b p)) with hc1 | hc1
        · rw [hc1]; replace hc1 := of_ilt_t hc1; try simp only [llen_eq] at hc1
          conv => lhs; whnf
          rw [toReq_call]
          rw [ev_fail _ _ _ _]
          conv => lhs; whnf
          unfold rdB; (repeat (first | rw [if_pos (by first | omega | decide | assumption | (simp only [llen_eq, lapp_eq, lrep_eq, lcpy_eq, lset_eq, List.length_append, List.length_take, List.length_drop, List.length_cons, List.length_nil, List.length_replicate, List.length_set, Int.toNat_natCast] at *; omega) | (simp; omega))] | rw [if_neg (by first | omega | decide | assumption | (simp only [llen_eq, lapp_eq, lrep_eq, lcpy_eq, lset_eq, List.length_append, List.length_take, List.length_drop, List.length_cons, List.length_nil, List.length_replicate, List.length_set, Int.toNat_natCast] at *; omega) | (simp; omega))])); try simp only [llen_eq, lapp_eq, lrep_eq, lcpy_eq, lset_eq, List.nil_append, List.append_nil, List.append_assoc, List.cons_append]
        · rw [hc1]; replace hc1 := of_ilt_f hc1; try simp only [llen_eq] at hc1
          conv => lhs; whnf
          rw [iadd_eq (by omega)]
          rw [toReq_call]
          rw [ev_take_f _ _ _ _ _ (by omega) (by omega) (by omega) (by omega)]
          conv => lhs; whnf
          rw [ine_t (by omega)]
          conv => lhs; whnf
          rw [toReq_call]
          rw [ev_fail _ _ _ _]
          conv => lhs; whnf
          unfold rdB; (repeat (first | rw [if_pos (by first | omega | decide | assumption | (simp only [llen_eq, lapp_eq, lrep_eq, lcpy_eq, lset_eq, List.length_append, List.length_take, List.length_drop, List.length_cons, List.length_nil, List.length_replicate, List.length_set, Int.toNat_natCast] at *; omega) | (simp; omega))] | rw [if_neg (by first | omega | decide | assumption | (simp only [llen_eq, lapp_eq, lrep_eq, lcpy_eq, lset_eq, List.length_append, List.length_take, List.length_drop, List.length_cons, List.length_nil, List.length_replicate, List.length_set, Int.toNat_natCast] at *; omega) | (simp; omega))])); try simp only [llen_eq, lapp_eq, lrep_eq, lcpy_eq, lset_eq, List.nil_append, List.append_nil, List.append_assoc, List.cons_append]
    · rw [Y_go]; conv => lhs; whnf
      rcases Bool.eq_false_or_eq_true (ine e 0) with hc0 | hc0
      · rw [hc0]; replace hc0 := of_ine_t hc0; try simp only [llen_eq] at hc0
        conv => lhs; whnf
        unfold rdB; (repeat (first | rw [if_pos (by first | omega | decide | assumption | (simp only [llen_eq, lapp_eq, lrep_eq, lcpy_eq, lset_eq, List.length_append, List.length_take, List.length_drop, List.length_cons, List.length_nil, List.length_replicate, List.length_set, Int.toNat_natCast] at *; omega) | (simp; omega))] | rw [if_neg (by first | omega | decide | assumption | (simp only [llen_eq, lapp_eq, lrep_eq, lcpy_eq, lset_eq, List.length_append, List.length_take, List.length_drop, List.length_cons, List.length_nil, List.length_replicate, List.length_set, Int.toNat_natCast] at *; omega) | (simp; omega))])); try simp only [llen_eq, lapp_eq, lrep_eq, lcpy_eq, lset_eq, List.nil_append, List.append_nil, List.append_assoc, List.cons_append]
      · rw [hc0]; replace hc0 := of_ine_f hc0; try simp only [llen_eq] at hc0
        subst hc0
        conv => lhs; whnf
        rw [toReq_call]
        rw [ev_take _ _ _ _ _ (by omega) (by omega) (by omega) (by omega)]
        conv => lhs; whnf
        rw [ine_f (by omega)]
        conv => lhs; whnf
        rw [g0]; conv => lhs; whnf
        rw [g1]; conv => lhs; whnf
        rw [hv]; conv => lhs; whnf
        rw [drw (by kernel_rfl)]; conv => lhs; whnf
        rcases Bool.eq_false_or_eq_true (ilt n ↑(lenAt b p)) with hc1 | hc1
        · rw [hc1]; replace hc1 := of_ilt_t hc1; try simp only [llen_eq] at hc1
          conv => lhs; whnf
          rw [toReq_call]
          rw [ev_fail _ _ _ _]
          conv => lhs; whnf
          unfold rdB; (repeat (first | rw [if_pos (by first | omega | decide | assumption | (simp only [llen_eq, lapp_eq, lrep_eq, lcpy_eq, lset_eq, List.length_append, List.length_take, List.length_drop, List.length_cons, List.length_nil, List.length_replicate, List.length_set, Int.toNat_natCast] at *; omega) | (simp; omega))] | rw [if_neg (by first | omega | decide | assumption | (simp only [llen_eq, lapp_eq, lrep_eq, lcpy_eq, lset_eq, List.length_append, List.length_take, List.length_drop, List.length_cons, List.length_nil, List.length_replicate, List.length_set, Int.toNat_natCast] at *; omega) | (simp; omega))])); try simp only [llen_eq, lapp_eq, lrep_eq, lcpy_eq, lset_eq, List.nil_append, List.append_nil, List.append_assoc, List.cons_append]
        · rw [hc1]; replace hc1 := of_ilt_f hc1; try simp only [llen_eq] at hc1
          conv => lhs; whnf
          rw [iadd_eq (by omega)]
          rw [toReq_call]
          rw [ev_take _ _ _ _ _ (by omega) (by omega) (by omega) (by omega)]
          conv => lhs; whnf
          rw [ine_f (by omega)]
          conv => lhs; whnf
          rw [fits_t (by (simp only [llen_eq, lapp_eq, lrep_eq, lcpy_eq, lset_eq, List.length_append, List.length_take, List.length_drop, List.length_cons, List.length_nil, List.length_replicate, List.length_set, Int.toNat_natCast] at *; omega))]
          conv => lhs; whnf
          rw [iadd_eq (a := 2) (b := ↑(lenAt b p)) (by omega)]
          rw [iadd_eq (by omega)]
          unfold rdB; (repeat (first | rw [if_pos (by first | omega | decide | assumption | (simp only [llen_eq, lapp_eq, lrep_eq, lcpy_eq, lset_eq, List.length_append, List.length_take, List.length_drop, List.length_cons, List.length_nil, List.length_replicate, List.length_set, Int.toNat_natCast] at *; omega) | (simp; omega))] | rw [if_neg (by first | omega | decide | assumption | (simp only [llen_eq, lapp_eq, lrep_eq, lcpy_eq, lset_eq, List.length_append, List.length_take, List.length_drop, List.length_cons, List.length_nil, List.length_replicate, List.length_set, Int.toNat_natCast] at *; omega) | (simp; omega))])); simp only [show ((p : Int) + 2).toNat = p + 2 from by omega, show ((lenAt b p : Nat) : Int).toNat = lenAt b p from by omega]; rw [show (p : Int) + (2 + (lenAt b p : Int)) = ((p + 2 + lenAt b p : Nat) : Int) from by omega]
end Go.Proofs.Ytlaglaehkhmklaa
