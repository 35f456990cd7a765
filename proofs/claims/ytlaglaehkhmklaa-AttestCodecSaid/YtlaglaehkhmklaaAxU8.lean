/-
  Own text: the reference's readers of byte forms, continued.
-/
import Derived.Test.YtlaglaehkhmklaaAxU7
namespace Go.Proofs.Ytlaglaehkhmklaa
open Go Go.Ax
set_option linter.unusedVariables false
set_option linter.unusedSimpArgs false
attribute [local irreducible] iadd isub imul iquo irem ibit ineg ieq ine ilt ile ishl ishr beq' bnot and' seq' u8op u32op u64op u8shr u8shl u64shr u64shl u32shr u32shl i64w u8i u64i iu8 iu32 iu64 u8u64 u64u8 u32u8 u64cmp u8cmp u32cmp llen lget linb lset lcut lrep lapp lcpy lemp fits fitn sealed drawChk
set_option maxHeartbeats 1000000
set_option maxRecDepth 100000

theorem ev_r3ruint_loop (b : List UInt8) (n p e : Int) (hb : b.length ≤ 4294967296) (hp : 0 ≤ p) (h : p + n ≤ b.length) (hn : n ≤ 8) : ∀ (k : Nat) (acc : UInt64) (j : Int), j = n - k → 0 ≤ j →
    Y E0 (.loop 30 0 1 1 [(0, .pa 0 0), (1, .i n), (5, .u64 acc), (6, .i j)] [(0, some (.var [.sl .u8 b, .i p, .i e]))]) = some (.fin (.exit 0) 1 [(0, .pa 0 0), (1, .i n), (5, .u64 ((((b.drop p.toNat).take n.toNat).drop j.toNat).foldl (fun n x => n <<< 8 ||| x.toUInt64) acc))] [(0, some (.var [.sl .u8 b, .i p, .i e]))])
  | 0, acc, j, hj, hk => by
    rw [Y_go]; conv => lhs; whnf
    rw [ilt_f (by omega)]
    conv => lhs; whnf
    rw [List.drop_eq_nil_of_le (by simp; omega)]; rfl
  | k + 1, acc, j, hj, hk => by
    have hlt : j.toNat < ((b.drop p.toNat).take n.toNat).length := by simp; omega
    rw [Y_go]; conv => lhs; whnf
    rw [ilt_t (by omega)]
    conv => lhs; whnf
    rw [iadd_eq (by omega)]
    rw [lget_i (by omega)]
    conv => lhs; whnf
    rw [drw (by kernel_rfl)]; conv => lhs; whnf
    rw [iadd_eq (by omega)]
    rw [ev_r3ruint_loop b n p e hb hp h hn k _ _ (by omega) (by omega)]
    conv => lhs; whnf
    rw [show ((b.drop p.toNat).take n.toNat).drop j.toNat = ((b.drop p.toNat).take n.toNat)[j.toNat] :: ((b.drop p.toNat).take n.toNat).drop (j + 1).toNat from by rw [List.drop_eq_getElem_cons hlt, show (j + 1).toNat = j.toNat + 1 from by omega], List.foldl_cons, u64or_eq, u8u64_eq, u64shl_eq (by decide)]; simp only [List.getElem_take, List.getElem_drop, show (p + j).toNat = p.toNat + j.toNat from by omega]; rfl
theorem ev_r3ruint (b : List UInt8) (p : Nat) (e n : Int) (hb : b.length ≤ 4294967296) (hp : p ≤ b.length) : Y E0 (.call 30 [.pa 0 0, .i n] [.var [.sl .u8 b, .i p, .i e]]) = some (.ret (.i (rdU b p e n).1) [some (.var [.sl .u8 b, .i (rdU b p e n).2.1, .i (rdU b p e n).2.2])]) := by
  have hv : ∀ l : List UInt8, (l.drop (0 : Int).toNat).foldl (fun (n : UInt64) (x : UInt8) => n <<< 8 ||| x.toUInt64) (UInt64.ofNat 0) = beN l := fun _ => rfl
  by_cases h4 : (b.length : Int) < (p : Int) + n
  · rw [Y_go]; conv => lhs; whnf
    rcases Bool.eq_false_or_eq_true (ieq e 0) with hc0 | hc0
    · rw [hc0]; replace hc0 := of_ieq_t hc0; try simp only [llen_eq] at hc0
      subst hc0
      conv => lhs; whnf
      rw [ilt_f (by omega)]
      conv => lhs; whnf
      rcases Bool.eq_false_or_eq_true (ilt 8 n) with hc1 | hc1
      · rw [hc1]; replace hc1 := of_ilt_t hc1; try simp only [llen_eq] at hc1
        conv => lhs; whnf
        rw [ine_t (by omega)]
        conv => lhs; whnf
        unfold rdU; (repeat (first | rw [if_pos (by first | omega | decide | assumption | (simp only [llen_eq, lapp_eq, lrep_eq, lcpy_eq, lset_eq, List.length_append, List.length_take, List.length_drop, List.length_cons, List.length_nil, List.length_replicate, List.length_set, Int.toNat_natCast] at *; omega) | (simp; omega))] | rw [if_neg (by first | omega | decide | assumption | (simp only [llen_eq, lapp_eq, lrep_eq, lcpy_eq, lset_eq, List.length_append, List.length_take, List.length_drop, List.length_cons, List.length_nil, List.length_replicate, List.length_set, Int.toNat_natCast] at *; omega) | (simp; omega))])); try simp only [llen_eq, lapp_eq, lrep_eq, lcpy_eq, lset_eq, List.nil_append, List.append_nil, List.append_assoc, List.cons_append]
      · rw [hc1]; replace hc1 := of_ilt_f hc1; try simp only [llen_eq] at hc1
        conv => lhs; whnf
        rw [ine_f (by omega)]
        conv => lhs; whnf
        rw [toReq_call]
        rw [ev_r3need_f _ _ _ _ (by omega) (by omega) (by omega) (by omega)]
        conv => lhs; whnf
        rw [bnot_eq]; conv => lhs; whnf
        unfold rdU; (repeat (first | rw [if_pos (by first | omega | decide | assumption | (simp only [llen_eq, lapp_eq, lrep_eq, lcpy_eq, lset_eq, List.length_append, List.length_take, List.length_drop, List.length_cons, List.length_nil, List.length_replicate, List.length_set, Int.toNat_natCast] at *; omega) | (simp; omega))] | rw [if_neg (by first | omega | decide | assumption | (simp only [llen_eq, lapp_eq, lrep_eq, lcpy_eq, lset_eq, List.length_append, List.length_take, List.length_drop, List.length_cons, List.length_nil, List.length_replicate, List.length_set, Int.toNat_natCast] at *; omega) | (simp; omega))])); try simp only [llen_eq, lapp_eq, lrep_eq, lcpy_eq, lset_eq, List.nil_append, List.append_nil, List.append_assoc, List.cons_append]
    · rw [hc0]; replace hc0 := of_ieq_f hc0; try simp only [llen_eq] at hc0
      conv => lhs; whnf
      rw [ine_t (by omega)]
      conv => lhs; whnf
      unfold rdU; (repeat (first | rw [if_pos (by first | omega | decide | assumption | (simp only [llen_eq, lapp_eq, lrep_eq, lcpy_eq, lset_eq, List.length_append, List.length_take, List.length_drop, List.length_cons, List.length_nil, List.length_replicate, List.length_set, Int.toNat_natCast] at *; omega) | (simp; omega))] | rw [if_neg (by first | omega | decide | assumption | (simp only [llen_eq, lapp_eq, lrep_eq, lcpy_eq, lset_eq, List.length_append, List.length_take, List.length_drop, List.length_cons, List.length_nil, List.length_replicate, List.length_set, Int.toNat_natCast] at *; omega) | (simp; omega))])); try simp only [llen_eq, lapp_eq, lrep_eq, lcpy_eq, lset_eq, List.nil_append, List.append_nil, List.append_assoc, List.cons_append]
  · by_cases h5 : 9223372036854775807 < (beN ((b.drop p).take n.toNat)).toNat
    · have hg : u64cmp .geq (beN ((b.drop p).take n.toNat)) (UInt64.ofNat 9223372036854775808) = true := by rw [u64cmp_geq, ile_t (by rw [show (UInt64.ofNat 9223372036854775808).toNat = 9223372036854775808 from by decide]; omega)]
      rw [Y_go]; conv => lhs; whnf
      rcases Bool.eq_false_or_eq_true (ieq e 0) with hc0 | hc0
      · rw [hc0]; replace hc0 := of_ieq_t hc0; try simp only [llen_eq] at hc0
        subst hc0
        conv => lhs; whnf
        rcases Bool.eq_false_or_eq_true (ilt n 1) with hc1 | hc1
        · rw [hc1]; replace hc1 := of_ilt_t hc1; try simp only [llen_eq] at hc1
          conv => lhs; whnf
          rw [ine_t (by omega)]
          conv => lhs; whnf
          unfold rdU; (repeat (first | rw [if_pos (by first | omega | decide | assumption | (simp only [llen_eq, lapp_eq, lrep_eq, lcpy_eq, lset_eq, List.length_append, List.length_take, List.length_drop, List.length_cons, List.length_nil, List.length_replicate, List.length_set, Int.toNat_natCast] at *; omega) | (simp; omega))] | rw [if_neg (by first | omega | decide | assumption | (simp only [llen_eq, lapp_eq, lrep_eq, lcpy_eq, lset_eq, List.length_append, List.length_take, List.length_drop, List.length_cons, List.length_nil, List.length_replicate, List.length_set, Int.toNat_natCast] at *; omega) | (simp; omega))])); try simp only [llen_eq, lapp_eq, lrep_eq, lcpy_eq, lset_eq, List.nil_append, List.append_nil, List.append_assoc, List.cons_append]
        · rw [hc1]; replace hc1 := of_ilt_f hc1; try simp only [llen_eq] at hc1
          conv => lhs; whnf
          rcases Bool.eq_false_or_eq_true (ilt 8 n) with hc2 | hc2
          · rw [hc2]; replace hc2 := of_ilt_t hc2; try simp only [llen_eq] at hc2
            conv => lhs; whnf
            rw [ine_t (by omega)]
            conv => lhs; whnf
            unfold rdU; (repeat (first | rw [if_pos (by first | omega | decide | assumption | (simp only [llen_eq, lapp_eq, lrep_eq, lcpy_eq, lset_eq, List.length_append, List.length_take, List.length_drop, List.length_cons, List.length_nil, List.length_replicate, List.length_set, Int.toNat_natCast] at *; omega) | (simp; omega))] | rw [if_neg (by first | omega | decide | assumption | (simp only [llen_eq, lapp_eq, lrep_eq, lcpy_eq, lset_eq, List.length_append, List.length_take, List.length_drop, List.length_cons, List.length_nil, List.length_replicate, List.length_set, Int.toNat_natCast] at *; omega) | (simp; omega))])); try simp only [llen_eq, lapp_eq, lrep_eq, lcpy_eq, lset_eq, List.nil_append, List.append_nil, List.append_assoc, List.cons_append]
          · rw [hc2]; replace hc2 := of_ilt_f hc2; try simp only [llen_eq] at hc2
            conv => lhs; whnf
            rw [ine_f (by omega)]
            conv => lhs; whnf
            rw [toReq_call]
            rw [ev_r3need_t _ _ _ _ (by omega) (by omega) (by omega) (by omega)]
            conv => lhs; whnf
            rw [bnot_eq]; conv => lhs; whnf
            rw [toReq_loop]
            rw [ev_r3ruint_loop b n p 0 hb (by omega) (by omega) (by omega) n.toNat _ 0 (by omega) (by omega), hv, Int.toNat_natCast]
            conv => lhs; whnf
            rw [hg]; conv => lhs; whnf
            unfold rdU; (repeat (first | rw [if_pos (by first | omega | decide | assumption | (simp only [llen_eq, lapp_eq, lrep_eq, lcpy_eq, lset_eq, List.length_append, List.length_take, List.length_drop, List.length_cons, List.length_nil, List.length_replicate, List.length_set, Int.toNat_natCast] at *; omega) | (simp; omega))] | rw [if_neg (by first | omega | decide | assumption | (simp only [llen_eq, lapp_eq, lrep_eq, lcpy_eq, lset_eq, List.length_append, List.length_take, List.length_drop, List.length_cons, List.length_nil, List.length_replicate, List.length_set, Int.toNat_natCast] at *; omega) | (simp; omega))])); try simp only [llen_eq, lapp_eq, lrep_eq, lcpy_eq, lset_eq, List.nil_append, List.append_nil, List.append_assoc, List.cons_append]
      · rw [hc0]; replace hc0 := of_ieq_f hc0; try simp only [llen_eq] at hc0
        conv => lhs; whnf
        rw [ine_t (by omega)]
        conv => lhs; whnf
        unfold rdU; (repeat (first | rw [if_pos (by first | omega | decide | assumption | (simp only [llen_eq, lapp_eq, lrep_eq, lcpy_eq, lset_eq, List.length_append, List.length_take, List.length_drop, List.length_cons, List.length_nil, List.length_replicate, List.length_set, Int.toNat_natCast] at *; omega) | (simp; omega))] | rw [if_neg (by first | omega | decide | assumption | (simp only [llen_eq, lapp_eq, lrep_eq, lcpy_eq, lset_eq, List.length_append, List.length_take, List.length_drop, List.length_cons, List.length_nil, List.length_replicate, List.length_set, Int.toNat_natCast] at *; omega) | (simp; omega))])); try simp only [llen_eq, lapp_eq, lrep_eq, lcpy_eq, lset_eq, List.nil_append, List.append_nil, List.append_assoc, List.cons_append]
    · have hg : u64cmp .geq (beN ((b.drop p).take n.toNat)) (UInt64.ofNat 9223372036854775808) = false := by rw [u64cmp_geq, ile_f (by rw [show (UInt64.ofNat 9223372036854775808).toNat = 9223372036854775808 from by decide]; omega)]
      rw [Y_go]; conv => lhs; whnf
      rcases Bool.eq_false_or_eq_true (ieq e 0) with hc0 | hc0
      · rw [hc0]; replace hc0 := of_ieq_t hc0; try simp only [llen_eq] at hc0
        subst hc0
        conv => lhs; whnf
        rcases Bool.eq_false_or_eq_true (ilt n 1) with hc1 | hc1
        · rw [hc1]; replace hc1 := of_ilt_t hc1; try simp only [llen_eq] at hc1
          conv => lhs; whnf
          rw [ine_t (by omega)]
          conv => lhs; whnf
          unfold rdU; (repeat (first | rw [if_pos (by first | omega | decide | assumption | (simp only [llen_eq, lapp_eq, lrep_eq, lcpy_eq, lset_eq, List.length_append, List.length_take, List.length_drop, List.length_cons, List.length_nil, List.length_replicate, List.length_set, Int.toNat_natCast] at *; omega) | (simp; omega))] | rw [if_neg (by first | omega | decide | assumption | (simp only [llen_eq, lapp_eq, lrep_eq, lcpy_eq, lset_eq, List.length_append, List.length_take, List.length_drop, List.length_cons, List.length_nil, List.length_replicate, List.length_set, Int.toNat_natCast] at *; omega) | (simp; omega))])); try simp only [llen_eq, lapp_eq, lrep_eq, lcpy_eq, lset_eq, List.nil_append, List.append_nil, List.append_assoc, List.cons_append]
        · rw [hc1]; replace hc1 := of_ilt_f hc1; try simp only [llen_eq] at hc1
          conv => lhs; whnf
          rcases Bool.eq_false_or_eq_true (ilt 8 n) with hc2 | hc2
          · rw [hc2]; replace hc2 := of_ilt_t hc2; try simp only [llen_eq] at hc2
            conv => lhs; whnf
            rw [ine_t (by omega)]
            conv => lhs; whnf
            unfold rdU; (repeat (first | rw [if_pos (by first | omega | decide | assumption | (simp only [llen_eq, lapp_eq, lrep_eq, lcpy_eq, lset_eq, List.length_append, List.length_take, List.length_drop, List.length_cons, List.length_nil, List.length_replicate, List.length_set, Int.toNat_natCast] at *; omega) | (simp; omega))] | rw [if_neg (by first | omega | decide | assumption | (simp only [llen_eq, lapp_eq, lrep_eq, lcpy_eq, lset_eq, List.length_append, List.length_take, List.length_drop, List.length_cons, List.length_nil, List.length_replicate, List.length_set, Int.toNat_natCast] at *; omega) | (simp; omega))])); try simp only [llen_eq, lapp_eq, lrep_eq, lcpy_eq, lset_eq, List.nil_append, List.append_nil, List.append_assoc, List.cons_append]
          · rw [hc2]; replace hc2 := of_ilt_f hc2; try simp only [llen_eq] at hc2
            conv => lhs; whnf
            rw [ine_f (by omega)]
            conv => lhs; whnf
            rw [toReq_call]
            rw [ev_r3need_t _ _ _ _ (by omega) (by omega) (by omega) (by omega)]
            conv => lhs; whnf
            rw [bnot_eq]; conv => lhs; whnf
            rw [toReq_loop]
            rw [ev_r3ruint_loop b n p 0 hb (by omega) (by omega) (by omega) n.toNat _ 0 (by omega) (by omega), hv, Int.toNat_natCast]
            conv => lhs; whnf
            rw [hg]; conv => lhs; whnf
            rw [u64i_eq (by omega)]
            rw [iadd_eq (by omega)]
            rw [show (p : Int) + n = ((p + n.toNat : Nat) : Int) from by omega]; unfold rdU; (repeat (first | rw [if_pos (by first | omega | decide | assumption | (simp only [llen_eq, lapp_eq, lrep_eq, lcpy_eq, lset_eq, List.length_append, List.length_take, List.length_drop, List.length_cons, List.length_nil, List.length_replicate, List.length_set, Int.toNat_natCast] at *; omega) | (simp; omega))] | rw [if_neg (by first | omega | decide | assumption | (simp only [llen_eq, lapp_eq, lrep_eq, lcpy_eq, lset_eq, List.length_append, List.length_take, List.length_drop, List.length_cons, List.length_nil, List.length_replicate, List.length_set, Int.toNat_natCast] at *; omega) | (simp; omega))]))
      · rw [hc0]; replace hc0 := of_ieq_f hc0; try simp only [llen_eq] at hc0
        conv => lhs; whnf
        rw [ine_t (by omega)]
        conv => lhs; whnf
        unfold rdU; (repeat (first | rw [if_pos (by first | omega | decide | assumption | (simp only [llen_eq, lapp_eq, lrep_eq, lcpy_eq, lset_eq, List.length_append, List.length_take, List.length_drop, List.length_cons, List.length_nil, List.length_replicate, List.length_set, Int.toNat_natCast] at *; omega) | (simp; omega))] | rw [if_neg (by first | omega | decide | assumption | (simp only [llen_eq, lapp_eq, lrep_eq, lcpy_eq, lset_eq, List.length_append, List.length_take, List.length_drop, List.length_cons, List.length_nil, List.length_replicate, List.length_set, Int.toNat_natCast] at *; omega) | (simp; omega))])); try simp only [llen_eq, lapp_eq, lrep_eq, lcpy_eq, lset_eq, List.nil_append, List.append_nil, List.append_assoc, List.cons_append]
theorem ev_r3rblob (b : List UInt8) (p : Nat) (e n : Int) (hb : b.length ≤ 4294967296) (hp : p ≤ b.length) : Y E0 (.call 29 [.pa 0 0, .i n] [.var [.sl .u8 b, .i p, .i e]]) = some (.ret (.sl .u8 (rdB b p e n).1) [some (.var [.sl .u8 b, .i (rdB b p e n).2.1, .i (rdB b p e n).2.2])]) := by
  by_cases h2 : (b.length : Int) < (p : Int) + 2
  · rw [Y_go]; conv => lhs; whnf
    rcases Bool.eq_false_or_eq_true (ine e 0) with hc0 | hc0
    · rw [hc0]; replace hc0 := of_ine_t hc0; try simp only [llen_eq] at hc0
      conv => lhs; whnf
      unfold rdB; (repeat (first | rw [if_pos (by first | omega | decide | assumption | (simp only [llen_eq, lapp_eq, lrep_eq, lcpy_eq, lset_eq, List.length_append, List.length_take, List.length_drop, List.length_cons, List.length_nil, List.length_replicate, List.length_set, Int.toNat_natCast] at *; omega) | (simp; omega))] | rw [if_neg (by first | omega | decide | assumption | (simp only [llen_eq, lapp_eq, lrep_eq, lcpy_eq, lset_eq, List.length_append, List.length_take, List.length_drop, List.length_cons, List.length_nil, List.length_replicate, List.length_set, Int.toNat_natCast] at *; omega) | (simp; omega))])); try simp only [llen_eq, lapp_eq, lrep_eq, lcpy_eq, lset_eq, List.nil_append, List.append_nil, List.append_assoc, List.cons_append]
    · rw [hc0]; replace hc0 := of_ine_f hc0; try simp only [llen_eq] at hc0
      subst hc0
      conv => lhs; whnf
      rw [toReq_call]
      rw [ev_r3need_f _ _ _ _ (by omega) (by omega) (by omega) (by omega)]
      conv => lhs; whnf
      rw [bnot_eq]; conv => lhs; whnf
      unfold rdB; (repeat (first | rw [if_pos (by first | omega | decide | assumption | (simp only [llen_eq, lapp_eq, lrep_eq, lcpy_eq, lset_eq, List.length_append, List.length_take, List.length_drop, List.length_cons, List.length_nil, List.length_replicate, List.length_set, Int.toNat_natCast] at *; omega) | (simp; omega))] | rw [if_neg (by first | omega | decide | assumption | (simp only [llen_eq, lapp_eq, lrep_eq, lcpy_eq, lset_eq, List.length_append, List.length_take, List.length_drop, List.length_cons, List.length_nil, List.length_replicate, List.length_set, Int.toNat_natCast] at *; omega) | (simp; omega))])); try simp only [llen_eq, lapp_eq, lrep_eq, lcpy_eq, lset_eq, List.nil_append, List.append_nil, List.append_assoc, List.cons_append]
  · have hv : ibit .or (ishl (u8i (b[p]'(by omega))) (UInt64.ofNat 8).toNat) (u8i (b[((p : Int) + 1).toNat]'(by omega))) = (lenAt b p : Int) := by
      rw [show (UInt64.ofNat 8).toNat = 8 from rfl, u8i_eq, u8i_eq, ishl8, ior_eq, or_bytes, lenAt]
      simp only [List.getD, List.getElem?_eq_getElem (show p < b.length by omega), List.getElem?_eq_getElem (show p + 1 < b.length by omega), show ((p : Int) + 1).toNat = p + 1 from by omega, Option.getD_some]
    have hx := (b.getD p 0).toNat_lt
    have hy := (b.getD (p + 1) 0).toNat_lt
    have hl : lenAt b p ≤ 65535 := by rw [lenAt]; omega
    by_cases h4 : (b.length : Int) < (p : Int) + 2 + lenAt b p
    · rw [Y_go]; conv => lhs; whnf
      rcases Bool.eq_false_or_eq_true (ine e 0) with hc0 | hc0
      · rw [hc0]; replace hc0 := of_ine_t hc0; try simp only [llen_eq] at hc0
        conv => lhs; whnf
        unfold rdB; (repeat (first | rw [if_pos (by first | omega | decide | assumption | (simp only [llen_eq, lapp_eq, lrep_eq, lcpy_eq, lset_eq, List.length_append, List.length_take, List.length_drop, List.length_cons, List.length_nil, List.length_replicate, List.length_set, Int.toNat_natCast] at *; omega) | (simp; omega))] | rw [if_neg (by first | omega | decide | assumption | (simp only [llen_eq, lapp_eq, lrep_eq, lcpy_eq, lset_eq, List.length_append, List.length_take, List.length_drop, List.length_cons, List.length_nil, List.length_replicate, List.length_set, Int.toNat_natCast] at *; omega) | (simp; omega))])); try simp only [llen_eq, lapp_eq, lrep_eq, lcpy_eq, lset_eq, List.nil_append, List.append_nil, List.append_assoc, List.cons_append]
      · rw [hc0]; replace hc0 := of_ine_f hc0; try simp only [llen_eq] at hc0
        subst hc0
        conv => lhs; whnf
        rw [toReq_call]
        rw [ev_r3need_t _ _ _ _ (by omega) (by omega) (by omega) (by omega)]
        conv => lhs; whnf
        rw [bnot_eq]; conv => lhs; whnf
        rw [lget_n (by omega)]
        conv => lhs; whnf
        rw [iadd_eq (by omega)]
        rw [lget_i (by omega)]
        conv => lhs; whnf
        rw [hv]; conv => lhs; whnf
        rw [drw (by kernel_rfl)]; conv => lhs; whnf
        rcases Bool.eq_false_or_eq_true (ilt n ↑(lenAt b p)) with hc1 | hc1
        · rw [hc1]; replace hc1 := of_ilt_t hc1; try simp only [llen_eq] at hc1
          conv => lhs; whnf
          unfold rdB; (repeat (first | rw [if_pos (by first | omega | decide | assumption | (simp only [llen_eq, lapp_eq, lrep_eq, lcpy_eq, lset_eq, List.length_append, List.length_take, List.length_drop, List.length_cons, List.length_nil, List.length_replicate, List.length_set, Int.toNat_natCast] at *; omega) | (simp; omega))] | rw [if_neg (by first | omega | decide | assumption | (simp only [llen_eq, lapp_eq, lrep_eq, lcpy_eq, lset_eq, List.length_append, List.length_take, List.length_drop, List.length_cons, List.length_nil, List.length_replicate, List.length_set, Int.toNat_natCast] at *; omega) | (simp; omega))])); try simp only [llen_eq, lapp_eq, lrep_eq, lcpy_eq, lset_eq, List.nil_append, List.append_nil, List.append_assoc, List.cons_append]
        · rw [hc1]; replace hc1 := of_ilt_f hc1; try simp only [llen_eq] at hc1
          conv => lhs; whnf
          rw [iadd_eq (by omega)]
          rw [toReq_call]
          rw [ev_r3need_f _ _ _ _ (by omega) (by omega) (by omega) (by omega)]
          conv => lhs; whnf
          rw [bnot_eq]; conv => lhs; whnf
          unfold rdB; (repeat (first | rw [if_pos (by first | omega | decide | assumption | (simp only [llen_eq, lapp_eq, lrep_eq, lcpy_eq, lset_eq, List.length_append, List.length_take, List.length_drop, List.length_cons, List.length_nil, List.length_replicate, List.length_set, Int.toNat_natCast] at *; omega) | (simp; omega))] | rw [if_neg (by first | omega | decide | assumption | (simp only [llen_eq, lapp_eq, lrep_eq, lcpy_eq, lset_eq, List.length_append, List.length_take, List.length_drop, List.length_cons, List.length_nil, List.length_replicate, List.length_set, Int.toNat_natCast] at *; omega) | (simp; omega))])); try simp only [llen_eq, lapp_eq, lrep_eq, lcpy_eq, lset_eq, List.nil_append, List.append_nil, List.append_assoc, List.cons_append]
    · rw [Y_go]; conv => lhs; whnf
      rcases Bool.eq_false_or_eq_true (ine e 0) with hc0 | hc0
      · rw [hc0]; replace hc0 := of_ine_t hc0; try simp only [llen_eq] at hc0
        conv => lhs; whnf
        unfold rdB; (repeat (first | rw [if_pos (by first | omega | decide | assumption | (simp only [llen_eq, lapp_eq, lrep_eq, lcpy_eq, lset_eq, List.length_append, List.length_take, List.length_drop, List.length_cons, List.length_nil, List.length_replicate, List.length_set, Int.toNat_natCast] at *; omega) | (simp; omega))] | rw [if_neg (by first | omega | decide | assumption | (simp only [llen_eq, lapp_eq, lrep_eq, lcpy_eq, lset_eq, List.length_append, List.length_take, List.length_drop, List.length_cons, List.length_nil, List.length_replicate, List.length_set, Int.toNat_natCast] at *; omega) | (simp; omega))])); try simp only [llen_eq, lapp_eq, lrep_eq, lcpy_eq, lset_eq, List.nil_append, List.append_nil, List.append_assoc, List.cons_append]
      · rw [hc0]; replace hc0 := of_ine_f hc0; try simp only [llen_eq] at hc0
        subst hc0
        conv => lhs; whnf
        rw [toReq_call]
        rw [ev_r3need_t _ _ _ _ (by omega) (by omega) (by omega) (by omega)]
        conv => lhs; whnf
        rw [bnot_eq]; conv => lhs; whnf
        rw [lget_n (by omega)]
        conv => lhs; whnf
        rw [iadd_eq (by omega)]
        rw [lget_i (by omega)]
        conv => lhs; whnf
        rw [hv]; conv => lhs; whnf
        rw [drw (by kernel_rfl)]; conv => lhs; whnf
        rcases Bool.eq_false_or_eq_true (ilt n ↑(lenAt b p)) with hc1 | hc1
        · rw [hc1]; replace hc1 := of_ilt_t hc1; try simp only [llen_eq] at hc1
          conv => lhs; whnf
          unfold rdB; (repeat (first | rw [if_pos (by first | omega | decide | assumption | (simp only [llen_eq, lapp_eq, lrep_eq, lcpy_eq, lset_eq, List.length_append, List.length_take, List.length_drop, List.length_cons, List.length_nil, List.length_replicate, List.length_set, Int.toNat_natCast] at *; omega) | (simp; omega))] | rw [if_neg (by first | omega | decide | assumption | (simp only [llen_eq, lapp_eq, lrep_eq, lcpy_eq, lset_eq, List.length_append, List.length_take, List.length_drop, List.length_cons, List.length_nil, List.length_replicate, List.length_set, Int.toNat_natCast] at *; omega) | (simp; omega))])); try simp only [llen_eq, lapp_eq, lrep_eq, lcpy_eq, lset_eq, List.nil_append, List.append_nil, List.append_assoc, List.cons_append]
        · rw [hc1]; replace hc1 := of_ilt_f hc1; try simp only [llen_eq] at hc1
          conv => lhs; whnf
          rw [iadd_eq (by omega)]
          rw [toReq_call]
          rw [ev_r3need_t _ _ _ _ (by omega) (by omega) (by omega) (by omega)]
          conv => lhs; whnf
          rw [bnot_eq]; conv => lhs; whnf
          rw [iadd_eq (a := 2) (b := ↑(lenAt b p)) (by omega)]
          rw [iadd_eq (by omega)]
          rw [isub_eq (by omega)]
          rw [lcut_s (by omega)]
          conv => lhs; whnf
          rw [fits_t (by (simp only [llen_eq, lapp_eq, lrep_eq, lcpy_eq, lset_eq, List.length_append, List.length_take, List.length_drop, List.length_cons, List.length_nil, List.length_replicate, List.length_set, Int.toNat_natCast] at *; omega))]
          conv => lhs; whnf
          rw [drw (by kernel_rfl)]; conv => lhs; whnf
          unfold rdB; (repeat (first | rw [if_pos (by first | omega | decide | assumption | (simp only [llen_eq, lapp_eq, lrep_eq, lcpy_eq, lset_eq, List.length_append, List.length_take, List.length_drop, List.length_cons, List.length_nil, List.length_replicate, List.length_set, Int.toNat_natCast] at *; omega) | (simp; omega))] | rw [if_neg (by first | omega | decide | assumption | (simp only [llen_eq, lapp_eq, lrep_eq, lcpy_eq, lset_eq, List.length_append, List.length_take, List.length_drop, List.length_cons, List.length_nil, List.length_replicate, List.length_set, Int.toNat_natCast] at *; omega) | (simp; omega))])); simp only [lapp_eq, List.nil_append, show (p : Int) + (2 + (lenAt b p : Int)) - (lenAt b p : Int) = ((p + 2 : Nat) : Int) from by omega, show (p : Int) + (2 + (lenAt b p : Int)) - ((p + 2 : Nat) : Int) = lenAt b p from by omega, Int.toNat_natCast]; rw [show (p : Int) + (2 + (lenAt b p : Int)) = ((p + 2 + lenAt b p : Nat) : Int) from by omega]
end Go.Proofs.Ytlaglaehkhmklaa
