/-
  Own texts, laid together for this claim: contracts of functions of the program and its references, used by the statements of this seat.
-/
import Derived.Test.YtchdeeghccdphaaDoorMsa
/-
  Own text: writers and readers of byte forms.
-/
namespace Go.Proofs.YtchdeeghccdphaaDoor
open Go Go.Ax
set_option linter.unusedVariables false
set_option linter.unusedSimpArgs false
attribute [local irreducible] iadd isub imul iquo irem ibit ineg ieq ine ilt ile ishl ishr beq' bnot and' seq' u8op u8rem u32op u64op u8shr u8shl u64shr u64shl u32shr u32shl i64w u8i u64i iu8 iu32 iu64 u8u64 u64u8 u32u8 u64cmp u8cmp u32cmp llen lget linb lset lcut lrep lapp lcpy lemp fits fitn sealed drawChk fpSame
set_option maxHeartbeats 1000000
set_option maxRecDepth 100000

theorem ev_uint_loop (n : Int) : ∀ (k : Nat) (i : Int) (acc : List UInt8), i = (k : Int) - 1 → k ≤ 8 → acc.length + k ≤ 5000000000 →
    Y E0 (.loop 63 0 0 1 [(2, .i n), (7, .nm 0), (8, .i i)] [(0, some (.row 5 .u8 acc))]) = some (.fin (.exit 0) 1 [(7, .nm 0)] [(0, some (.row 5 .u8 (acc ++ beB k (UInt64.ofInt n))))])
  | 0, i, acc, hi, _, _ => by
    rw [Y_go]; conv => lhs; whnf
    rw [ile_f (by omega)]
    conv => lhs; whnf
    simp [beB]
  | k + 1, i, acc, hi, hk, hl => by
    rw [Y_go]; conv => lhs; whnf
    rw [ile_t (by omega)]
    conv => lhs; whnf
    rw [imul_eq (by omega)]
    rw [fits_t (by (simp only [LL] at * <;> omega))]
    conv => lhs; whnf
    rw [isub_eq (by omega)]
    rw [ev_uint_loop n k _ _ (by first | omega | decide | assumption | (simp only [LL] at * <;> omega) | (simp; omega)) (by first | omega | decide | assumption | (simp only [LL] at * <;> omega) | (simp; omega)) (by first | omega | decide | assumption | (simp only [LL] at * <;> omega) | (simp; omega))]
    conv => lhs; whnf
    simp only [lapp_eq, u64u8_eq, iu64_eq, beB, List.append_assoc, List.cons_append, List.nil_append]; rw [u64_ofInt (by omega), u64shr_eq (by omega), show (8 * i).toNat = 8 * k from by omega]
theorem ev_uint (b : List UInt8) (size n : Int) (hb : b.length ≤ 4294967296) : Y E0 (.call 63 [.sl .u8 b, .i size, .i n] []) = some (.ret (.nm 0) [some (.row 5 .u8 (uintB b size n))]) := by
  rw [Y_go]; conv => lhs; whnf
  rw [fits_t (by omega)]
  conv => lhs; whnf
  rcases Bool.eq_false_or_eq_true (ilt size 1) with hc0 | hc0
  · rw [hc0]; replace hc0 := of_ilt_t hc0; try simp only [llen_eq] at hc0
    conv => lhs; whnf
    unfold uintB; (repeat (first | rw [if_pos (by first | omega | decide | assumption | (simp only [LL] at * <;> omega) | (simp; omega))] | rw [if_neg (by first | omega | decide | assumption | (simp only [LL] at * <;> omega) | (simp; omega))])); try simp only [NO]
  · rw [hc0]; replace hc0 := of_ilt_f hc0; try simp only [llen_eq] at hc0
    conv => lhs; whnf
    rcases Bool.eq_false_or_eq_true (ilt 8 size) with hc1 | hc1
    · rw [hc1]; replace hc1 := of_ilt_t hc1; try simp only [llen_eq] at hc1
      conv => lhs; whnf
      unfold uintB; (repeat (first | rw [if_pos (by first | omega | decide | assumption | (simp only [LL] at * <;> omega) | (simp; omega))] | rw [if_neg (by first | omega | decide | assumption | (simp only [LL] at * <;> omega) | (simp; omega))])); try simp only [NO]
    · rw [hc1]; replace hc1 := of_ilt_f hc1; try simp only [llen_eq] at hc1
      conv => lhs; whnf
      rw [isub_eq (by omega)]
      rw [toReq_loop]
      rw [ev_uint_loop n size.toNat _ _ (by first | omega | decide | assumption | (simp only [LL] at * <;> omega) | (simp; omega)) (by first | omega | decide | assumption | (simp only [LL] at * <;> omega) | (simp; omega)) (by first | omega | decide | assumption | (simp only [LL] at * <;> omega) | (simp; omega))]
      conv => lhs; whnf
      unfold uintB; (repeat (first | rw [if_pos (by first | omega | decide | assumption | (simp only [LL] at * <;> omega) | (simp; omega))] | rw [if_neg (by first | omega | decide | assumption | (simp only [LL] at * <;> omega) | (simp; omega))])); try simp only [NO]
theorem ev_blob (b x : List UInt8) (hb : b.length ≤ 4294900000) : Y E0 (.call 68 [.sl .u8 b, .sl .u8 x] []) = some (.ret (.nm 0) [some (.row 5 .u8 (blobB b x))]) := by
  have hx : lcut x 0 (min (llen x) 65535) = some (x.take 65535) := by
    rw [lcut_s (by rw [llen_eq]; omega)]
    congr 1
    simp only [llen_eq, Int.toNat_zero, List.drop_zero]
    rw [List.take_eq_take_iff]; omega
  have h2 : (x.take 65535).length ≤ 65535 := by rw [List.length_take]; omega
  have := uintB_len b 2 (llen (x.take 65535))
  rw [Y_go]; conv => lhs; whnf
  rw [hx]; conv => lhs; whnf
  rw [toReq_call]
  rw [ev_uint _ _ _ (by omega)]
  conv => lhs; whnf
  rw [fits_t (by (simp only [LL] at * <;> omega))]
  conv => lhs; whnf
  rw [lapp_eq, blobB, llen_eq]
theorem ev_new (b : List UInt8) (hb : b.length ≤ 4294967296) : Y E0 (.call 70 [.sl .u8 b] []) = some (.ret (.pa 0 0) [some (.var [.sl .u8 b, .i 0, .i 0])]) := by
  rw [Y_go]; conv => lhs; whnf
  rw [fits_t (by omega)]
  conv => lhs; whnf
theorem ev_fail (b : List UInt8) (p e f : Int) : Y E0 (.call 97 [.pa 0 0, .i f] [.var [.sl .u8 b, .i p, .i e]]) = some (.ret (.tup []) [some (.var [.sl .u8 b, .i p, .i f])]) := by
  rw [Y_go]; conv => lhs; whnf
theorem ev_take_f (b : List UInt8) (p n : Int) (q e : Int) (hb : b.length ≤ 4294967296) (hp : 0 ≤ p ∧ p ≤ b.length) (hn : 0 ≤ n) (h : b.length < p + n) : Y E0 (.call 98 [.pa 0 0, .i p, .i n] [.var [.sl .u8 b, .i q, .i e]]) = some (.ret (.tup [.sl .u8 [], .i 2]) [some (.var [.sl .u8 b, .i q, .i e])]) := by
  rw [Y_go]; conv => lhs; whnf
  rw [isub_eq (by (simp only [LL] at * <;> omega))]
  rw [ilt_t (by (simp only [LL] at * <;> omega))]
  conv => lhs; whnf
theorem ev_take (b : List UInt8) (p n : Int) (q e : Int) (hb : b.length ≤ 4294967296) (hp : 0 ≤ p ∧ p ≤ b.length) (hn : 0 ≤ n) (h : ¬ b.length < p + n) : Y E0 (.call 98 [.pa 0 0, .i p, .i n] [.var [.sl .u8 b, .i q, .i e]]) = some (.ret (.tup [.sl .u8 ((b.drop p.toNat).take n.toNat), .i 0]) [some (.var [.sl .u8 b, .i q, .i e])]) := by
  rw [Y_go]; conv => lhs; whnf
  rw [isub_eq (by (simp only [LL] at * <;> omega))]
  rw [ilt_f (by (simp only [LL] at * <;> omega))]
  conv => lhs; whnf
  rw [iadd_eq (by omega)]
  rw [lcut_s (by omega)]
  conv => lhs; whnf
  rw [show p + n - p = n from by omega]
theorem ev_left (b : List UInt8) (p : Nat) (e : Int) (hb : b.length ≤ 4294967296) (hp : p ≤ b.length) : Y E0 (.call 99 [.pa 0 0] [.var [.sl .u8 b, .i p, .i e]]) = some (.ret (.i ((b.length - p : Nat) : Int)) [some (.var [.sl .u8 b, .i p, .i e])]) := by
  rw [Y_go]; conv => lhs; whnf
  rw [isub_eq (by (simp only [LL] at * <;> omega))]
  rw [drw (by kernel_rfl)]; conv => lhs; whnf
  simp only [llen_eq]; congr 4; omega
theorem ev_raw (b : List UInt8) (p : Nat) (e n : Int) (hb : b.length ≤ 4294967296) (hp : p ≤ b.length) (hn : n ≤ 4294967296) : Y E0 (.call 85 [.pa 0 0, .i n] [.var [.sl .u8 b, .i p, .i e]]) = some (.ret (.sl .u8 (rdR b p e n).1) [some (.var [.sl .u8 b, .i (rdR b p e n).2.1, .i (rdR b p e n).2.2])]) := by
  by_cases h : b.length < (p : Int) + n
  · rw [Y_go]; conv => lhs; whnf
    rcases Bool.eq_false_or_eq_true (ine e 0) with hc0 | hc0
    · rw [hc0]; replace hc0 := of_ine_t hc0; try simp only [llen_eq] at hc0
      conv => lhs; whnf
      unfold rdR; (repeat (first | rw [if_pos (by first | omega | decide | assumption | (simp only [LL] at * <;> omega) | (simp; omega))] | rw [if_neg (by first | omega | decide | assumption | (simp only [LL] at * <;> omega) | (simp; omega))])); try simp only [NO]
    · rw [hc0]; replace hc0 := of_ine_f hc0; try simp only [llen_eq] at hc0
      subst hc0
      conv => lhs; whnf
      rw [ilt_f (by omega)]
      conv => lhs; whnf
      rw [toReq_call]
      rw [ev_take_f _ _ _ _ _ (by omega) (by omega) (by omega) (by omega)]
      conv => lhs; whnf
      rw [ine_t (by omega)]
      conv => lhs; whnf
      rw [toReq_call]
      rw [ev_fail _ _ _ _]
      conv => lhs; whnf
      unfold rdR; (repeat (first | rw [if_pos (by first | omega | decide | assumption | (simp only [LL] at * <;> omega) | (simp; omega))] | rw [if_neg (by first | omega | decide | assumption | (simp only [LL] at * <;> omega) | (simp; omega))])); try simp only [NO]
  · rw [Y_go]; conv => lhs; whnf
    rcases Bool.eq_false_or_eq_true (ine e 0) with hc0 | hc0
    · rw [hc0]; replace hc0 := of_ine_t hc0; try simp only [llen_eq] at hc0
      conv => lhs; whnf
      unfold rdR; (repeat (first | rw [if_pos (by first | omega | decide | assumption | (simp only [LL] at * <;> omega) | (simp; omega))] | rw [if_neg (by first | omega | decide | assumption | (simp only [LL] at * <;> omega) | (simp; omega))])); try simp only [NO]
    · rw [hc0]; replace hc0 := of_ine_f hc0; try simp only [llen_eq] at hc0
      subst hc0
      conv => lhs; whnf
      rcases Bool.eq_false_or_eq_true (ilt n 0) with hc1 | hc1
      · rw [hc1]; replace hc1 := of_ilt_t hc1; try simp only [llen_eq] at hc1
        conv => lhs; whnf
        rw [toReq_call]
        rw [ev_fail _ _ _ _]
        conv => lhs; whnf
        unfold rdR; (repeat (first | rw [if_pos (by first | omega | decide | assumption | (simp only [LL] at * <;> omega) | (simp; omega))] | rw [if_neg (by first | omega | decide | assumption | (simp only [LL] at * <;> omega) | (simp; omega))])); try simp only [NO]
      · rw [hc1]; replace hc1 := of_ilt_f hc1; try simp only [llen_eq] at hc1
        conv => lhs; whnf
        rw [toReq_call]
        rw [ev_take _ _ _ _ _ (by omega) (by omega) (by omega) (by omega)]
        conv => lhs; whnf
        rw [ine_f (by omega)]
        conv => lhs; whnf
        rw [fits_t (by (simp only [LL] at * <;> omega))]
        conv => lhs; whnf
        rw [iadd_eq (by omega)]
        rw [show (p : Int) + n = ((p + n.toNat : Nat) : Int) from by omega]; unfold rdR; (repeat (first | rw [if_pos (by first | omega | decide | assumption | (simp only [LL] at * <;> omega) | (simp; omega))] | rw [if_neg (by first | omega | decide | assumption | (simp only [LL] at * <;> omega) | (simp; omega))])); rfl
theorem ev_rend (b : List UInt8) (p : Nat) (e : Int) (hb : b.length ≤ 4294967296) (hp : p ≤ b.length) : Y E0 (.call 73 [.pa 0 0] [.var [.sl .u8 b, .i p, .i e]]) = some (.ret (.i (rdE b p e)) [some (.var [.sl .u8 b, .i p, .i e])]) := by
  rw [Y_go]; conv => lhs; whnf
  rcases Bool.eq_false_or_eq_true (ieq e 0) with hc0 | hc0
  · rw [hc0]; replace hc0 := of_ieq_t hc0; try simp only [llen_eq] at hc0
    subst hc0
    conv => lhs; whnf
    rw [toReq_call]
    rw [ev_left _ _ _ (by omega) (by omega)]
    conv => lhs; whnf
    rcases Bool.eq_false_or_eq_true (ilt 0 ↑(b.length - p)) with hc1 | hc1
    · rw [hc1]; replace hc1 := of_ilt_t hc1; try simp only [llen_eq] at hc1
      conv => lhs; whnf
      unfold rdE; (repeat (first | rw [if_pos (by first | omega | decide | assumption | (simp only [LL] at * <;> omega) | (simp; omega))] | rw [if_neg (by first | omega | decide | assumption | (simp only [LL] at * <;> omega) | (simp; omega))])); try simp only [NO]
    · rw [hc1]; replace hc1 := of_ilt_f hc1; try simp only [llen_eq] at hc1
      conv => lhs; whnf
      unfold rdE; (repeat (first | rw [if_pos (by first | omega | decide | assumption | (simp only [LL] at * <;> omega) | (simp; omega))] | rw [if_neg (by first | omega | decide | assumption | (simp only [LL] at * <;> omega) | (simp; omega))])); try simp only [NO]
  · rw [hc0]; replace hc0 := of_ieq_f hc0; try simp only [llen_eq] at hc0
    conv => lhs; whnf
    unfold rdE; (repeat (first | rw [if_pos (by first | omega | decide | assumption | (simp only [LL] at * <;> omega) | (simp; omega))] | rw [if_neg (by first | omega | decide | assumption | (simp only [LL] at * <;> omega) | (simp; omega))])); try simp only [NO]
end Go.Proofs.YtchdeeghccdphaaDoor
/-
  Own text: readers of byte forms, continued.
-/
namespace Go.Proofs.YtchdeeghccdphaaDoor
open Go Go.Ax
set_option linter.unusedVariables false
set_option linter.unusedSimpArgs false
attribute [local irreducible] iadd isub imul iquo irem ibit ineg ieq ine ilt ile ishl ishr beq' bnot and' seq' u8op u8rem u32op u64op u8shr u8shl u64shr u64shl u32shr u32shl i64w u8i u64i iu8 iu32 iu64 u8u64 u64u8 u32u8 u64cmp u8cmp u32cmp llen lget linb lset lcut lrep lapp lcpy lemp fits fitn sealed drawChk fpSame
set_option maxHeartbeats 1000000
set_option maxRecDepth 100000

theorem ev_ruint_loop (l b : List UInt8) (n p e : Int) (hl : l.length ≤ 8) : ∀ (k : Nat) (acc : UInt64) (j : Int), j = (l.length : Int) - k → k ≤ l.length →
    Y E0 (.loop 71 0 1 1 [(0, .pa 0 0), (1, .i n), (7, .u64 acc), (38, .sl .u8 l), (39, .i (llen l)), (40, .i j)] [(0, some (.var [.sl .u8 b, .i p, .i e]))]) = some (.fin (.exit 0) 1 [(0, .pa 0 0), (1, .i n), (7, .u64 ((l.drop j.toNat).foldl (fun n x => n <<< 8 ||| x.toUInt64) acc))] [(0, some (.var [.sl .u8 b, .i p, .i e]))])
  | 0, acc, j, hj, hk => by
    rw [Y_go]; conv => lhs; whnf
    rw [ilt_f (by (simp only [LL] at * <;> omega))]
    conv => lhs; whnf
    rw [List.drop_eq_nil_of_le (by omega)]; rfl
  | k + 1, acc, j, hj, hk => by
    have hlt : j.toNat < l.length := by omega
    rw [Y_go]; conv => lhs; whnf
    rw [ilt_t (by (simp only [LL] at * <;> omega))]
    conv => lhs; whnf
    rw [lget_i (by omega)]
    conv => lhs; whnf
    rw [iadd_eq (by omega)]
    rw [ev_ruint_loop l b n p e hl k _ _ (by omega) (by omega)]
    conv => lhs; whnf
    rw [show l.drop j.toNat = l[j.toNat] :: l.drop (j + 1).toNat from by rw [List.drop_eq_getElem_cons hlt, show (j + 1).toNat = j.toNat + 1 from by omega], List.foldl_cons, u64or_eq, u8u64_eq, u64shl_eq (by decide)]; rfl
theorem ev_ruint (b : List UInt8) (p : Nat) (e n : Int) (hb : b.length ≤ 4294967296) (hp : p ≤ b.length) : Y E0 (.call 71 [.pa 0 0, .i n] [.var [.sl .u8 b, .i p, .i e]]) = some (.ret (.i (rdU b p e n).1) [some (.var [.sl .u8 b, .i (rdU b p e n).2.1, .i (rdU b p e n).2.2])]) := by
  have hv : ∀ l : List UInt8, (l.drop (0 : Int).toNat).foldl (fun (n : UInt64) (x : UInt8) => n <<< 8 ||| x.toUInt64) (UInt64.ofNat 0) = beN l := fun _ => rfl
  by_cases h4 : (b.length : Int) < (p : Int) + n
  · rw [Y_go]; conv => lhs; whnf
    rcases Bool.eq_false_or_eq_true (ine e 0) with hc0 | hc0
    · rw [hc0]; replace hc0 := of_ine_t hc0; try simp only [llen_eq] at hc0
      conv => lhs; whnf
      unfold rdU; (repeat (first | rw [if_pos (by first | omega | decide | assumption | (simp only [LL] at * <;> omega) | (simp; omega))] | rw [if_neg (by first | omega | decide | assumption | (simp only [LL] at * <;> omega) | (simp; omega))])); try simp only [NO]
    · rw [hc0]; replace hc0 := of_ine_f hc0; try simp only [llen_eq] at hc0
      subst hc0
      conv => lhs; whnf
      rw [ilt_f (by omega)]
      conv => lhs; whnf
      rcases Bool.eq_false_or_eq_true (ilt 8 n) with hc1 | hc1
      · rw [hc1]; replace hc1 := of_ilt_t hc1; try simp only [llen_eq] at hc1
        conv => lhs; whnf
        rw [toReq_call]
        rw [ev_fail _ _ _ _]
        conv => lhs; whnf
        unfold rdU; (repeat (first | rw [if_pos (by first | omega | decide | assumption | (simp only [LL] at * <;> omega) | (simp; omega))] | rw [if_neg (by first | omega | decide | assumption | (simp only [LL] at * <;> omega) | (simp; omega))])); try simp only [NO]
      · rw [hc1]; replace hc1 := of_ilt_f hc1; try simp only [llen_eq] at hc1
        conv => lhs; whnf
        rw [toReq_call]
        rw [ev_take_f _ _ _ _ _ (by omega) (by omega) (by omega) (by omega)]
        conv => lhs; whnf
        rw [ine_t (by omega)]
        conv => lhs; whnf
        rw [toReq_call]
        rw [ev_fail _ _ _ _]
        conv => lhs; whnf
        unfold rdU; (repeat (first | rw [if_pos (by first | omega | decide | assumption | (simp only [LL] at * <;> omega) | (simp; omega))] | rw [if_neg (by first | omega | decide | assumption | (simp only [LL] at * <;> omega) | (simp; omega))])); try simp only [NO]
  · by_cases h5 : 9223372036854775807 < (beN ((b.drop p).take n.toNat)).toNat
    · rw [Y_go]; conv => lhs; whnf
      rcases Bool.eq_false_or_eq_true (ine e 0) with hc0 | hc0
      · rw [hc0]; replace hc0 := of_ine_t hc0; try simp only [llen_eq] at hc0
        conv => lhs; whnf
        unfold rdU; (repeat (first | rw [if_pos (by first | omega | decide | assumption | (simp only [LL] at * <;> omega) | (simp; omega))] | rw [if_neg (by first | omega | decide | assumption | (simp only [LL] at * <;> omega) | (simp; omega))])); try simp only [NO]
      · rw [hc0]; replace hc0 := of_ine_f hc0; try simp only [llen_eq] at hc0
        subst hc0
        conv => lhs; whnf
        rcases Bool.eq_false_or_eq_true (ilt n 1) with hc1 | hc1
        · rw [hc1]; replace hc1 := of_ilt_t hc1; try simp only [llen_eq] at hc1
          conv => lhs; whnf
          rw [toReq_call]
          rw [ev_fail _ _ _ _]
          conv => lhs; whnf
          unfold rdU; (repeat (first | rw [if_pos (by first | omega | decide | assumption | (simp only [LL] at * <;> omega) | (simp; omega))] | rw [if_neg (by first | omega | decide | assumption | (simp only [LL] at * <;> omega) | (simp; omega))])); try simp only [NO]
        · rw [hc1]; replace hc1 := of_ilt_f hc1; try simp only [llen_eq] at hc1
          conv => lhs; whnf
          rcases Bool.eq_false_or_eq_true (ilt 8 n) with hc2 | hc2
          · rw [hc2]; replace hc2 := of_ilt_t hc2; try simp only [llen_eq] at hc2
            conv => lhs; whnf
            rw [toReq_call]
            rw [ev_fail _ _ _ _]
            conv => lhs; whnf
            unfold rdU; (repeat (first | rw [if_pos (by first | omega | decide | assumption | (simp only [LL] at * <;> omega) | (simp; omega))] | rw [if_neg (by first | omega | decide | assumption | (simp only [LL] at * <;> omega) | (simp; omega))])); try simp only [NO]
          · rw [hc2]; replace hc2 := of_ilt_f hc2; try simp only [llen_eq] at hc2
            conv => lhs; whnf
            rw [toReq_call]
            rw [ev_take _ _ _ _ _ (by omega) (by omega) (by omega) (by omega)]
            conv => lhs; whnf
            rw [ine_f (by omega)]
            conv => lhs; whnf
            rw [toReq_loop]
            rw [ev_ruint_loop _ b n p 0 (by simp; omega) ((b.drop (p : Int).toNat).take n.toNat).length _ 0 (by omega) (by omega), hv, Int.toNat_natCast]
            conv => lhs; whnf
            rw [u64gt_t (by simpa using h5)]; conv => lhs; whnf
            rw [toReq_call]
            rw [ev_fail _ _ _ _]
            conv => lhs; whnf
            unfold rdU; (repeat (first | rw [if_pos (by first | omega | decide | assumption | (simp only [LL] at * <;> omega) | (simp; omega))] | rw [if_neg (by first | omega | decide | assumption | (simp only [LL] at * <;> omega) | (simp; omega))])); try simp only [NO]
    · rw [Y_go]; conv => lhs; whnf
      rcases Bool.eq_false_or_eq_true (ine e 0) with hc0 | hc0
      · rw [hc0]; replace hc0 := of_ine_t hc0; try simp only [llen_eq] at hc0
        conv => lhs; whnf
        unfold rdU; (repeat (first | rw [if_pos (by first | omega | decide | assumption | (simp only [LL] at * <;> omega) | (simp; omega))] | rw [if_neg (by first | omega | decide | assumption | (simp only [LL] at * <;> omega) | (simp; omega))])); try simp only [NO]
      · rw [hc0]; replace hc0 := of_ine_f hc0; try simp only [llen_eq] at hc0
        subst hc0
        conv => lhs; whnf
        rcases Bool.eq_false_or_eq_true (ilt n 1) with hc1 | hc1
        · rw [hc1]; replace hc1 := of_ilt_t hc1; try simp only [llen_eq] at hc1
          conv => lhs; whnf
          rw [toReq_call]
          rw [ev_fail _ _ _ _]
          conv => lhs; whnf
          unfold rdU; (repeat (first | rw [if_pos (by first | omega | decide | assumption | (simp only [LL] at * <;> omega) | (simp; omega))] | rw [if_neg (by first | omega | decide | assumption | (simp only [LL] at * <;> omega) | (simp; omega))])); try simp only [NO]
        · rw [hc1]; replace hc1 := of_ilt_f hc1; try simp only [llen_eq] at hc1
          conv => lhs; whnf
          rcases Bool.eq_false_or_eq_true (ilt 8 n) with hc2 | hc2
          · rw [hc2]; replace hc2 := of_ilt_t hc2; try simp only [llen_eq] at hc2
            conv => lhs; whnf
            rw [toReq_call]
            rw [ev_fail _ _ _ _]
            conv => lhs; whnf
            unfold rdU; (repeat (first | rw [if_pos (by first | omega | decide | assumption | (simp only [LL] at * <;> omega) | (simp; omega))] | rw [if_neg (by first | omega | decide | assumption | (simp only [LL] at * <;> omega) | (simp; omega))])); try simp only [NO]
          · rw [hc2]; replace hc2 := of_ilt_f hc2; try simp only [llen_eq] at hc2
            conv => lhs; whnf
            rw [toReq_call]
            rw [ev_take _ _ _ _ _ (by omega) (by omega) (by omega) (by omega)]
            conv => lhs; whnf
            rw [ine_f (by omega)]
            conv => lhs; whnf
            rw [toReq_loop]
            rw [ev_ruint_loop _ b n p 0 (by simp; omega) ((b.drop (p : Int).toNat).take n.toNat).length _ 0 (by omega) (by omega), hv, Int.toNat_natCast]
            conv => lhs; whnf
            rw [u64gt_f (by simpa using h5)]; conv => lhs; whnf
            rw [u64i_eq (by omega)]
            rw [iadd_eq (by omega)]
            rw [show (p : Int) + n = ((p + n.toNat : Nat) : Int) from by omega]; unfold rdU; (repeat (first | rw [if_pos (by first | omega | decide | assumption | (simp only [LL] at * <;> omega) | (simp; omega))] | rw [if_neg (by first | omega | decide | assumption | (simp only [LL] at * <;> omega) | (simp; omega))]))
theorem ev_rblob (b : List UInt8) (p : Nat) (e n : Int) (hb : b.length ≤ 4294967296) (hp : p ≤ b.length) : Y E0 (.call 72 [.pa 0 0, .i n] [.var [.sl .u8 b, .i p, .i e]]) = some (.ret (.sl .u8 (rdB b p e n).1) [some (.var [.sl .u8 b, .i (rdB b p e n).2.1, .i (rdB b p e n).2.2])]) := by
  by_cases h2 : (b.length : Int) < (p : Int) + 2
  · rw [Y_go]; conv => lhs; whnf
    rcases Bool.eq_false_or_eq_true (ine e 0) with hc0 | hc0
    · rw [hc0]; replace hc0 := of_ine_t hc0; try simp only [llen_eq] at hc0
      conv => lhs; whnf
      unfold rdB; (repeat (first | rw [if_pos (by first | omega | decide | assumption | (simp only [LL] at * <;> omega) | (simp; omega))] | rw [if_neg (by first | omega | decide | assumption | (simp only [LL] at * <;> omega) | (simp; omega))])); try simp only [NO]
    · rw [hc0]; replace hc0 := of_ine_f hc0; try simp only [llen_eq] at hc0
      subst hc0
      conv => lhs; whnf
      rw [toReq_call]
      rw [ev_take_f _ _ _ _ _ (by omega) (by omega) (by omega) (by omega)]
      conv => lhs; whnf
      rw [ine_t (by omega)]
      conv => lhs; whnf
      rw [toReq_call]
      rw [ev_fail _ _ _ _]
      conv => lhs; whnf
      unfold rdB; (repeat (first | rw [if_pos (by first | omega | decide | assumption | (simp only [LL] at * <;> omega) | (simp; omega))] | rw [if_neg (by first | omega | decide | assumption | (simp only [LL] at * <;> omega) | (simp; omega))])); try simp only [NO]
  · have g0 : lget ((b.drop (p : Int).toNat).take (2 : Int).toNat) 0 = some (b.getD p 0) := lget_s (by omega) (by simp [List.getElem?_take, List.getElem?_drop, List.getD]; rw [List.getElem?_eq_getElem (by omega)]; rfl)
    have g1 : lget ((b.drop (p : Int).toNat).take (2 : Int).toNat) 1 = some (b.getD (p + 1) 0) := lget_s (by omega) (by simp [List.getElem?_take, List.getElem?_drop, List.getD]; rw [List.getElem?_eq_getElem (by omega)]; rfl)
    have hv : ibit .or (ishl (u8i (b.getD p 0)) (UInt64.ofNat 8).toNat) (u8i (b.getD (p + 1) 0)) = (lenAt b p : Int) := by
      rw [show (UInt64.ofNat 8).toNat = 8 from rfl, u8i_eq, u8i_eq, ishl8, ior_eq, or_bytes, lenAt]
    have hx := (b.getD p 0).toNat_lt
    have hy := (b.getD (p + 1) 0).toNat_lt
    have hl : lenAt b p ≤ 65535 := by rw [lenAt]; omega
    by_cases h4 : (b.length : Int) < (p : Int) + 2 + lenAt b p
    · rw [Y_go]; conv => lhs; whnf
      rcases Bool.eq_false_or_eq_true (ine e 0) with hc0 | hc0
      · rw [hc0]; replace hc0 := of_ine_t hc0; try simp only [llen_eq] at hc0
        conv => lhs; whnf
        unfold rdB; (repeat (first | rw [if_pos (by first | omega | decide | assumption | (simp only [LL] at * <;> omega) | (simp; omega))] | rw [if_neg (by first | omega | decide | assumption | (simp only [LL] at * <;> omega) | (simp; omega))])); try simp only [NO]
      · rw [hc0]; replace hc0 := of_ine_f hc0; try simp only [llen_eq] at hc0
        subst hc0
        conv => lhs; whnf
        rw [toReq_call]
        rw [ev_take _ _ _ _ _ (by omega) (by omega) (by omega) (by omega)]
        conv => lhs; whnf
        rw [ine_f (by omega)]
        conv => lhs; whnf
        rw [g0]; conv => lhs; whnf
        rw [g1]; conv => lhs; whnf
        rw [hv]; conv => lhs; whnf
        rw [drw (by kernel_rfl)]; conv => lhs; whnf
        rcases Bool.eq_false_or_eq_true (ilt n ↑(lenAt b p)) with hc1 | hc1
        · rw [hc1]; replace hc1 := of_ilt_t hc1; try simp only [llen_eq] at hc1
          conv => lhs; whnf
          rw [toReq_call]
          rw [ev_fail _ _ _ _]
          conv => lhs; whnf
          unfold rdB; (repeat (first | rw [if_pos (by first | omega | decide | assumption | (simp only [LL] at * <;> omega) | (simp; omega))] | rw [if_neg (by first | omega | decide | assumption | (simp only [LL] at * <;> omega) | (simp; omega))])); try simp only [NO]
        · rw [hc1]; replace hc1 := of_ilt_f hc1; try simp only [llen_eq] at hc1
          conv => lhs; whnf
          rw [iadd_eq (by omega)]
          rw [toReq_call]
          rw [ev_take_f _ _ _ _ _ (by omega) (by omega) (by omega) (by omega)]
          conv => lhs; whnf
          rw [ine_t (by omega)]
          conv => lhs; whnf
          rw [toReq_call]
          rw [ev_fail _ _ _ _]
          conv => lhs; whnf
          unfold rdB; (repeat (first | rw [if_pos (by first | omega | decide | assumption | (simp only [LL] at * <;> omega) | (simp; omega))] | rw [if_neg (by first | omega | decide | assumption | (simp only [LL] at * <;> omega) | (simp; omega))])); try simp only [NO]
    · rw [Y_go]; conv => lhs; whnf
      rcases Bool.eq_false_or_eq_true (ine e 0) with hc0 | hc0
      · rw [hc0]; replace hc0 := of_ine_t hc0; try simp only [llen_eq] at hc0
        conv => lhs; whnf
        unfold rdB; (repeat (first | rw [if_pos (by first | omega | decide | assumption | (simp only [LL] at * <;> omega) | (simp; omega))] | rw [if_neg (by first | omega | decide | assumption | (simp only [LL] at * <;> omega) | (simp; omega))])); try simp only [NO]
      · rw [hc0]; replace hc0 := of_ine_f hc0; try simp only [llen_eq] at hc0
        subst hc0
        conv => lhs; whnf
        rw [toReq_call]
        rw [ev_take _ _ _ _ _ (by omega) (by omega) (by omega) (by omega)]
        conv => lhs; whnf
        rw [ine_f (by omega)]
        conv => lhs; whnf
        rw [g0]; conv => lhs; whnf
        rw [g1]; conv => lhs; whnf
        rw [hv]; conv => lhs; whnf
        rw [drw (by kernel_rfl)]; conv => lhs; whnf
        rcases Bool.eq_false_or_eq_true (ilt n ↑(lenAt b p)) with hc1 | hc1
        · rw [hc1]; replace hc1 := of_ilt_t hc1; try simp only [llen_eq] at hc1
          conv => lhs; whnf
          rw [toReq_call]
          rw [ev_fail _ _ _ _]
          conv => lhs; whnf
          unfold rdB; (repeat (first | rw [if_pos (by first | omega | decide | assumption | (simp only [LL] at * <;> omega) | (simp; omega))] | rw [if_neg (by first | omega | decide | assumption | (simp only [LL] at * <;> omega) | (simp; omega))])); try simp only [NO]
        · rw [hc1]; replace hc1 := of_ilt_f hc1; try simp only [llen_eq] at hc1
          conv => lhs; whnf
          rw [iadd_eq (by omega)]
          rw [toReq_call]
          rw [ev_take _ _ _ _ _ (by omega) (by omega) (by omega) (by omega)]
          conv => lhs; whnf
          rw [ine_f (by omega)]
          conv => lhs; whnf
          rw [fits_t (by (simp only [LL] at * <;> omega))]
          conv => lhs; whnf
          rw [iadd_eq (a := 2) (b := ↑(lenAt b p)) (by omega)]
          rw [iadd_eq (by omega)]
          unfold rdB; (repeat (first | rw [if_pos (by first | omega | decide | assumption | (simp only [LL] at * <;> omega) | (simp; omega))] | rw [if_neg (by first | omega | decide | assumption | (simp only [LL] at * <;> omega) | (simp; omega))])); simp only [show ((p : Int) + 2).toNat = p + 2 from by omega, show ((lenAt b p : Nat) : Int).toNat = lenAt b p from by omega]; rw [show (p : Int) + (2 + (lenAt b p : Int)) = ((p + 2 + lenAt b p : Nat) : Int) from by omega]
end Go.Proofs.YtchdeeghccdphaaDoor
/-
  Own text: boxes in plain terms. No program is named here.
-/
namespace Go.Ax
open Go Go.Eng Go.RowKit
set_option linter.unusedVariables false
set_option linter.unusedSimpArgs false
def xorB (a b : List UInt8) : List UInt8 := List.zipWith (· ^^^ ·) a b
def encryptL : List UInt8 := [101, 110, 99, 114, 121, 112, 116]
def authL : List UInt8 := [97, 117, 116, 104, 101, 110, 116, 105, 99, 97, 116, 101]
def strB (key nonce b : List UInt8) : List UInt8 := xorB b (derB key encryptL nonce (b.length : Int))
def tagB (key nonce ad c : List UInt8) : List UInt8 := macB (derB key authL nonce 32) (frameB 0 [ad, nonce, c])
def formB (nonce c t : List UInt8) : List UInt8 := blobB (blobB [] nonce) c ++ t
def sealB (key nonce ad plain : List UInt8) : List UInt8 :=
  if 64 < nonce.length ∨ 1024 < plain.length then [] else formB nonce (strB key nonce plain) (tagB key nonce ad (strB key nonce plain))
def openB (key ad b : List UInt8) : List UInt8 × Int :=
  let n := rdB b 0 0 64
  let c := rdB b n.2.1 n.2.2 1024
  let t := rdR b c.2.1 c.2.2 32
  let e := rdE b t.2.1 t.2.2
  if e ≠ 0 then ([], e) else if t.1 ≠ tagB key n.1 ad c.1 then ([], 18) else (strB key n.1 c.1, 0)
theorem xorB_xorB : ∀ (a b : List UInt8), a.length ≤ b.length → xorB (xorB a b) b = a
  | [], _, _ => by simp [xorB]
  | x :: a, [], h => by simp at h
  | x :: a, y :: b, h => by
    have := xorB_xorB a b (by simpa using h)
    simp only [xorB, List.zipWith_cons_cons] at this ⊢
    rw [this, UInt8.xor_assoc, UInt8.xor_self, UInt8.xor_zero]
theorem derB_len0 {key label ctx : List UInt8} {n : Nat} (h : n ≤ 1024) : (derB key label ctx (n : Int)).length = n := by
  rcases Nat.eq_zero_or_pos n with rfl | hp
  · rfl
  · rw [derB_len (by omega)]; simp
theorem strB_len {key nonce b : List UInt8} (h : b.length ≤ 1024) : (strB key nonce b).length = b.length := by
  rw [strB, xorB, List.length_zipWith, derB_len0 h, Nat.min_self]
theorem strB_strB {key nonce b : List UInt8} (h : b.length ≤ 1024) : strB key nonce (strB key nonce b) = b := by
  have hl := strB_len (key := key) (nonce := nonce) h
  unfold strB at hl ⊢
  rw [hl]
  exact xorB_xorB _ _ (by rw [derB_len0 h]; exact Nat.le_refl _)
theorem strB_get {key nonce b : List UInt8} (h : b.length ≤ 1024) {i : Nat} (hi : i < b.length) :
    (strB key nonce b).getD i 0 = b.getD i 0 ^^^ (derB key encryptL nonce (b.length : Int)).getD i 0 := by
  have hd := derB_len0 (key := key) (label := encryptL) (ctx := nonce) h
  have hs := strB_len (key := key) (nonce := nonce) h
  unfold strB xorB at hs ⊢
  simp only [List.getD, List.getElem?_eq_getElem hi, List.getElem?_eq_getElem (show i < (derB key encryptL nonce (b.length : Int)).length by omega), List.getElem?_eq_getElem (hs ▸ hi), Option.getD_some, List.getElem_zipWith]
theorem tagB_len (key nonce ad c : List UInt8) : (tagB key nonce ad c).length = 32 := macB_len _ _
theorem formB_eq {nonce c t : List UInt8} (hn : nonce.length ≤ 65535) (hc : c.length ≤ 65535) : formB nonce c t = len2 nonce.length ++ nonce ++ (len2 c.length ++ c ++ (t ++ [])) := by
  rw [formB, blobB_eq hn, blobB_eq hc]
  simp only [List.append_assoc, List.append_nil, List.nil_append]
theorem formB_len {nonce c t : List UInt8} (hn : nonce.length ≤ 65535) (hc : c.length ≤ 65535) : (formB nonce c t).length = 4 + nonce.length + c.length + t.length := by
  rw [formB_eq hn hc]
  simp only [List.length_append, len2_len, List.length_nil]; omega
theorem sealB_len {key nonce ad plain : List UInt8} (hn : nonce.length ≤ 64) (hp : plain.length ≤ 1024) : (sealB key nonce ad plain).length = 36 + nonce.length + plain.length := by
  have hs := strB_len (key := key) (nonce := nonce) hp
  rw [sealB, if_neg (by omega), formB_len (by omega) (by omega), tagB_len, hs]; omega
/-- what a box opens to -/
theorem open_form {key ad nonce c t : List UInt8} (hn : nonce.length ≤ 64) (hc : c.length ≤ 1024) (ht : t.length = 32) :
    openB key ad (formB nonce c t) = if t = tagB key nonce ad c then (strB key nonce c, 0) else ([], 18) := by
  rw [formB_eq (by omega) (by omega)]
  generalize hb : len2 nonce.length ++ nonce ++ (len2 c.length ++ c ++ (t ++ [])) = b
  obtain ⟨q0, l0, d0⟩ := rdB_app (b := b) (p := 0) (most := 64) (x := nonce) (Nat.zero_le _) (by rw [← hb]; exact rfl) (by omega) (by omega)
  obtain ⟨q1, l1, d1⟩ := rdB_app (most := 1024) l0 d0 (by omega) (by omega)
  obtain ⟨q2, l2, d2⟩ := rdR_app l1 d1 ht
  have qe := rdE_ok l2 d2
  replace q2 : rdR b _ 0 32 = _ := q2
  unfold openB
  simp only [q0, q1, q2, qe, ne_eq, not_true_eq_false, if_false]
  by_cases h : t = tagB key nonce ad c
  · rw [if_neg (by simpa using h), if_pos h]
  · rw [if_pos h, if_neg h]
theorem open_seal {key nonce ad plain : List UInt8} (hn : nonce.length ≤ 64) (hp : plain.length ≤ 1024) : openB key ad (sealB key nonce ad plain) = (plain, 0) := by
  have hs := strB_len (key := key) (nonce := nonce) hp
  rw [sealB, if_neg (by omega), open_form hn (by omega) (tagB_len _ _ _ _), if_pos rfl, strB_strB hp]
theorem openB_of {b key ad v0 v1 v2 : List UInt8} {er0 er1 er2 : Int} {p0 p1 p2 : Nat}
    (g0 : rdB b 0 0 64 = (v0, p0, er0)) (g1 : rdB b p0 er0 1024 = (v1, p1, er1)) (g2 : rdR b p1 er1 32 = (v2, p2, er2)) :
    openB key ad b = if rdE b p2 er2 ≠ 0 then ([], rdE b p2 er2) else if v2 ≠ tagB key v0 ad v1 then ([], 18) else (strB key v0 v1, 0) := by
  simp only [openB, g0, g1, g2]
theorem openB_len {key ad b : List UInt8} : (openB key ad b).1.length ≤ b.length := by
  unfold openB; dsimp only
  split
  · simp
  · split
    · simp
    · simp only [strB, xorB, List.length_zipWith]
      have := rdB_len (b := b) (at' := (rdB b 0 0 64).2.1) (e := (rdB b 0 0 64).2.2) (most := 1024)
      omega
/-- the tag lies at the end -/
theorem formB_drop {nonce c t : List UInt8} (hn : nonce.length ≤ 65535) (hc : c.length ≤ 65535) : (formB nonce c t).drop (4 + nonce.length + c.length) = t := by
  rw [formB]
  apply List.drop_left'
  rw [blobB_l, blobB_l]; simp; omega
theorem formB_mid {nonce c t : List UInt8} (hn : nonce.length ≤ 65535) (hc : c.length ≤ 65535) : ((formB nonce c t).drop (4 + nonce.length)).take c.length = c := by
  rw [formB_eq hn hc]
  have e : len2 nonce.length ++ nonce ++ (len2 c.length ++ c ++ (t ++ [])) = (len2 nonce.length ++ nonce ++ len2 c.length) ++ (c ++ t) := by simp
  rw [e, List.drop_left' (by simp [len2_len]; omega), List.take_left]
/-- a changed byte of the nonce -/
theorem formB_setN {nonce c t : List UInt8} {k : Nat} {x : UInt8} (hn : nonce.length ≤ 65535) (hc : c.length ≤ 65535) (hk : k < nonce.length) : (formB nonce c t).set (2 + k) x = formB (nonce.set k x) c t := by
  rw [formB_eq hn hc, formB_eq (by simpa using hn) hc, List.length_set]
  simp only [List.append_assoc]
  rw [List.set_append, if_neg (by rw [len2_len]; omega), len2_len, show 2 + k - 2 = k by omega, List.set_append, if_pos hk]
/-- a changed byte of the cipher -/
theorem formB_setC {nonce c t : List UInt8} {k : Nat} {x : UInt8} (hn : nonce.length ≤ 65535) (hc : c.length ≤ 65535) (hk : k < c.length) : (formB nonce c t).set (4 + nonce.length + k) x = formB nonce (c.set k x) t := by
  rw [formB_eq hn hc, formB_eq hn (by simpa using hc), List.length_set]
  simp only [List.append_assoc]
  rw [List.set_append, if_neg (by rw [len2_len]; omega), len2_len, show 4 + nonce.length + k - 2 = 2 + nonce.length + k by omega,
    List.set_append, if_neg (by omega), show 2 + nonce.length + k - nonce.length = 2 + k by omega,
    List.set_append, if_neg (by rw [len2_len]; omega), len2_len, show 2 + k - 2 = k by omega, List.set_append, if_pos hk]
end Go.Ax
/-
  Own text: public areas and evidence, their byte forms, in plain terms. No program is named here.
-/
namespace Go.Ax
open Go Go.Eng Go.RowKit
set_option linter.unusedVariables false
set_option linter.unusedSimpArgs false
theorem ibit_eq (op : BinOp) (a b : Int) : ibit op a b = bits op .i64 a b := by rw [ibit_d]; rfl
theorem fr1_len (tag : Int) (a : List UInt8) : (frameB tag [a]).length = 5 + a.length := by
  simp [frameB, fieldsB, len4_len]; omega
theorem fr2_len (tag : Int) (a b : List UInt8) : (frameB tag [a, b]).length = 9 + a.length + b.length := by
  simp [frameB, fieldsB, len4_len]; omega
theorem fr3_len (tag : Int) (a b c : List UInt8) : (frameB tag [a, b, c]).length = 13 + a.length + b.length + c.length := by
  simp [frameB, fieldsB, len4_len]; omega
theorem irem_bd (n : Int) {m : Int} (h : 1 ≤ m) : -m < irem n m ∧ irem n m < m := by
  rw [irem_d]
  exact ⟨Int.lt_tmod_of_pos n (by omega), Int.tmod_lt_of_pos n (by omega)⟩
theorem irem_mod (n : Int) {m : Int} (h : 1 ≤ m) : n % m = irem n m % m := by
  rw [irem_d]
  show n % m = n.tmod m % m
  rw [Int.tmod_def, Int.sub_mul_emod_self_left]
theorem irem_pos {n m : Int} (h : 1 ≤ m) (h0 : 0 ≤ irem n m) : irem n m = n % m := by
  rw [irem_mod n h, Int.emod_eq_of_lt h0 (irem_bd n h).2]
theorem irem_neg {n m : Int} (h : 1 ≤ m) (h0 : irem n m < 0) : irem n m + m = n % m := by
  have hb := irem_bd n h
  rw [irem_mod n h, ← Int.add_emod_right, Int.emod_eq_of_lt (by omega) (by omega)]
theorem beB_one (x : Int) : beB 1 (UInt64.ofInt x) = [UInt8.ofInt x] := by
  have h : (UInt64.ofInt x).toUInt8 = UInt8.ofInt x := by
    apply UInt8.toNat_inj.1
    rw [UInt64.toNat_toUInt8, UInt64.ofInt, UInt8.ofInt, UInt64.toNat_ofNat', UInt8.toNat_ofNat']
    omega
  have h2 : (UInt64.ofInt x) >>> UInt64.ofNat (8 * 0) = UInt64.ofInt x := by
    apply UInt64.toNat_inj.1
    rw [UInt64.toNat_shiftRight]; simp
  rw [beB, h2, h]; rfl
theorem uintB_one (b : List UInt8) (x : Int) : uintB b 1 x = b ++ [UInt8.ofInt x] := by
  rw [show (1 : Int) = ((1 : Nat) : Int) from rfl, uintB_eq (by omega), beB_one]
/-! ### Public areas -/
structure Pub where
  kind : Int
  attr : Int
  height : Int
  policy : List UInt8
  unique : List UInt8
deriving DecidableEq
def pub0 : Pub := ⟨0, 0, 0, [], []⟩
def uniq (k : Int) : Int := if k = 2 then 17 else 32
theorem uniq_bd (k : Int) : 17 ≤ uniq k ∧ uniq k ≤ 32 := by unfold uniq; split <;> omega
def chkP (p : Pub) : Int :=
  if p.kind < 1 ∨ 3 < p.kind then 19
  else if p.attr < 0 ∨ 7 < p.attr ∨ (bits .and .i64 p.attr 4 ≠ 0 ∧ p.kind ≠ 2) ∨ (bits .and .i64 p.attr 1 = 0 ∧ p.policy.length = 0) then 20
  else if p.height < 0 ∨ 3 < p.height ∨ (p.height ≠ 0 ∧ p.kind ≠ 2) ∨ (p.policy.length ≠ 0 ∧ p.policy.length ≠ 32) ∨ (p.unique.length : Int) ≠ uniq p.kind then 1 else 0
def encP (p : Pub) : List UInt8 := blobB (blobB [UInt8.ofInt p.kind, UInt8.ofInt p.attr, UInt8.ofInt p.height] p.policy) p.unique
def decP (b : List UInt8) : Pub × Int :=
  let k := rdU b 0 0 1
  let a := rdU b k.2.1 k.2.2 1
  let h := rdU b a.2.1 a.2.2 1
  let o := rdB b h.2.1 h.2.2 32
  let u := rdB b o.2.1 o.2.2 32
  let e := rdE b u.2.1 u.2.2
  if e ≠ 0 then (pub0, e) else if chkP ⟨k.1, a.1, h.1, o.1, u.1⟩ ≠ 0 then (pub0, chkP ⟨k.1, a.1, h.1, o.1, u.1⟩) else (⟨k.1, a.1, h.1, o.1, u.1⟩, 0)
structure OkP (p : Pub) : Prop where
  kind : 1 ≤ p.kind ∧ p.kind ≤ 3
  attr : 0 ≤ p.attr ∧ p.attr ≤ 7
  height : 0 ≤ p.height ∧ p.height ≤ 3
  policy : p.policy.length ≤ 32
  unique : p.unique.length ≤ 32
theorem okP_of {p : Pub} (h : chkP p = 0) : OkP p := by
  unfold chkP at h
  split at h
  · simp at h
  rename_i h1
  split at h
  · simp at h
  rename_i h2
  split at h
  · simp at h
  rename_i h3
  have hu : uniq p.kind = 17 ∨ uniq p.kind = 32 := by unfold uniq; split; exact .inl rfl; exact .inr rfl
  refine ⟨by omega, by omega, by omega, by omega, by omega⟩
def flatP (p : Pub) : List UInt8 :=
  beB 1 (UInt64.ofInt p.kind) ++ (beB 1 (UInt64.ofInt p.attr) ++ (beB 1 (UInt64.ofInt p.height) ++ (len2 p.policy.length ++ p.policy ++ (len2 p.unique.length ++ p.unique ++ []))))
theorem encP_flat {p : Pub} (hp : p.policy.length ≤ 65535) (hu : p.unique.length ≤ 65535) : encP p = flatP p := by
  unfold encP flatP
  rw [blobB_eq hp, blobB_eq hu, beB_one, beB_one, beB_one]
  simp only [List.append_assoc, List.append_nil, List.cons_append, List.nil_append]
theorem encP_len {p : Pub} (hp : p.policy.length ≤ 65535) (hu : p.unique.length ≤ 65535) : (encP p).length = 7 + p.policy.length + p.unique.length := by
  rw [encP_flat hp hu]
  simp only [flatP, List.length_append, beB_len, len2_len, List.length_nil]; omega
theorem dec_encP {p : Pub} (h : chkP p = 0) : decP (encP p) = (p, 0) := by
  have hok := okP_of h
  obtain ⟨hk, ha, hh, hp, hu⟩ := hok
  rw [encP_flat (by omega) (by omega)]
  generalize hb : flatP p = b
  have e1 : (256 : Nat) ^ 1 = 256 := by decide
  obtain ⟨q0, l0, d0⟩ := rdU_app (b := b) (p := 0) (n := 1) (x := p.kind) (Nat.zero_le _) (by omega) (by rw [← hb]; exact rfl) (by omega) (by omega) (by omega)
  obtain ⟨q1, l1, d1⟩ := rdU_app l0 (by omega) d0 ha.1 (by omega) (by omega)
  obtain ⟨q2, l2, d2⟩ := rdU_app l1 (by omega) d1 hh.1 (by omega) (by omega)
  obtain ⟨q3, l3, d3⟩ := rdB_app (most := 32) l2 d2 (by omega) (by omega)
  obtain ⟨q4, l4, d4⟩ := rdB_app (most := 32) l3 d3 (by omega) (by omega)
  have qe := rdE_ok l4 d4
  replace q0 : rdU b 0 0 1 = _ := q0
  replace q1 : rdU b _ 0 1 = _ := q1
  replace q2 : rdU b _ 0 1 = _ := q2
  unfold decP
  simp only [q0, q1, q2, q3, q4, qe, ne_eq, not_true_eq_false, if_false]
  cases p
  rw [if_neg (by simpa using h)]
theorem enc_decP {b : List UInt8} {p : Pub} (h : decP b = (p, 0)) : encP p = b ∧ chkP p = 0 := by
  unfold decP at h
  dsimp only at h
  split at h
  · rename_i he; simp only [Prod.mk.injEq] at h; exact absurd h.2 he
  rename_i heE
  split at h
  · rename_i he; simp only [Prod.mk.injEq] at h; exact absurd h.2 he
  rename_i hc
  simp only [Prod.mk.injEq, and_true] at h
  have heE := Classical.not_not.1 heE
  have hc := Classical.not_not.1 hc
  generalize g0 : rdU b 0 0 1 = x0 at *
  generalize g1 : rdU b x0.2.1 x0.2.2 1 = x1 at *
  generalize g2 : rdU b x1.2.1 x1.2.2 1 = x2 at *
  generalize g3 : rdB b x2.2.1 x2.2.2 32 = x3 at *
  generalize g4 : rdB b x3.2.1 x3.2.2 32 = x4 at *
  obtain ⟨k, p0, e0⟩ := x0; obtain ⟨a, p1, e1⟩ := x1; obtain ⟨t, p2, e2⟩ := x2; obtain ⟨o, p3, e3⟩ := x3; obtain ⟨u, p4, e4⟩ := x4
  simp only at *
  have k0 := (rdU_le (b := b) (at' := 0) (e := 0) (size := 1) (Nat.zero_le _)); rw [g0] at k0
  have k1 := (rdU_le (b := b) (at' := p0) (e := e0) (size := 1) k0); rw [g1] at k1
  have k2 := (rdU_le (b := b) (at' := p1) (e := e1) (size := 1) k1); rw [g2] at k2
  have k3 := (rdB_le (b := b) (at' := p2) (e := e2) (most := 32) k2); rw [g3] at k3
  have k4 := (rdB_le (b := b) (at' := p3) (e := e3) (most := 32) k3); rw [g4] at k4
  obtain ⟨rfl, z5⟩ := rdE_inv k4 heE
  obtain ⟨rfl, _, _, i4, _, j4⟩ := rdB_inv k3 g4
  obtain ⟨rfl, _, _, i3, _, j3⟩ := rdB_inv k2 g3
  obtain ⟨rfl, _, _, i2, _⟩ := rdU_inv (n := 1) k1 (by omega) g2
  obtain ⟨rfl, _, _, i1, _⟩ := rdU_inv (n := 1) k0 (by omega) g1
  obtain ⟨_, _, _, i0, _⟩ := rdU_inv (n := 1) (Nat.zero_le _) (by omega) g0
  subst h
  refine ⟨?_, hc⟩
  rw [encP_flat (by simpa using j3) (by simpa using j4)]
  simp only [flatP]
  rw [z5] at i4
  rw [← i4, ← i3, ← i2, ← i1, ← i0]
  rfl
theorem encP_inj {p q : Pub} (hp : chkP p = 0) (hq : chkP q = 0) (h : encP p = encP q) : p = q := by
  have := dec_encP hp
  rw [h, dec_encP hq] at this
  simpa using this.symm
theorem decP_of {b v3 v4 : List UInt8} {v0 v1 v2 er0 er1 er2 er3 er4 : Int} {p0 p1 p2 p3 p4 : Nat}
    (g0 : rdU b 0 0 1 = (v0, p0, er0)) (g1 : rdU b p0 er0 1 = (v1, p1, er1)) (g2 : rdU b p1 er1 1 = (v2, p2, er2)) (g3 : rdB b p2 er2 32 = (v3, p3, er3)) (g4 : rdB b p3 er3 32 = (v4, p4, er4)) :
    decP b = if rdE b p4 er4 ≠ 0 then (pub0, rdE b p4 er4) else if chkP ⟨v0, v1, v2, v3, v4⟩ ≠ 0 then (pub0, chkP ⟨v0, v1, v2, v3, v4⟩) else (⟨v0, v1, v2, v3, v4⟩, 0) := by
  simp only [decP, g0, g1, g2, g3, g4]
theorem decP_err (b : List UInt8) : (decP b).2 ≠ 0 → (decP b).1 = pub0 := by
  unfold decP; dsimp only
  split
  · intro _; rfl
  · split
    · intro _; rfl
    · intro h; exact absurd rfl h
/-! ### Evidence -/
structure Evi where
  machine : Int
  attest : List UInt8
  sig : List UInt8
  log : List UInt8
deriving DecidableEq
def evi0 : Evi := ⟨0, [], [], []⟩
def CanE (x : Evi) : Prop := 1 ≤ x.machine ∧ x.machine ≤ 4 ∧ x.attest.length ≤ 1024 ∧ x.sig.length ≤ 1024 ∧ x.log.length ≤ 8192
instance (x : Evi) : Decidable (CanE x) := by unfold CanE; infer_instance
def formE (x : Evi) : List UInt8 := blobB (blobB (blobB [UInt8.ofInt x.machine] x.attest) x.sig) x.log
def encE (x : Evi) : List UInt8 := if CanE x then formE x else []
def decE (b : List UInt8) : Evi × Int :=
  let m := rdU b 0 0 1
  let a := rdB b m.2.1 m.2.2 1024
  let s := rdB b a.2.1 a.2.2 1024
  let l := rdB b s.2.1 s.2.2 8192
  if rdE b l.2.1 l.2.2 ≠ 0 ∨ m.1 < 1 ∨ 4 < m.1 then (evi0, 30) else (⟨m.1, a.1, s.1, l.1⟩, 0)
def flatE (x : Evi) : List UInt8 := beB 1 (UInt64.ofInt x.machine) ++ (len2 x.attest.length ++ x.attest ++ (len2 x.sig.length ++ x.sig ++ (len2 x.log.length ++ x.log ++ [])))
theorem formE_flat {x : Evi} (ha : x.attest.length ≤ 65535) (hs : x.sig.length ≤ 65535) (hl : x.log.length ≤ 65535) : formE x = flatE x := by
  unfold formE flatE
  rw [blobB_eq ha, blobB_eq hs, blobB_eq hl, beB_one]
  simp only [List.append_assoc, List.append_nil, List.cons_append, List.nil_append]
theorem formE_len {x : Evi} (ha : x.attest.length ≤ 65535) (hs : x.sig.length ≤ 65535) (hl : x.log.length ≤ 65535) : (formE x).length = 7 + x.attest.length + x.sig.length + x.log.length := by
  rw [formE_flat ha hs hl]
  simp only [flatE, List.length_append, beB_len, len2_len, List.length_nil]; omega
theorem encE_len {x : Evi} (h : CanE x) : (encE x).length = 7 + x.attest.length + x.sig.length + x.log.length := by
  rw [encE, if_pos h]
  obtain ⟨_, _, ha, hs, hl⟩ := h
  exact formE_len (by omega) (by omega) (by omega)
theorem dec_encE {x : Evi} (h : CanE x) : decE (encE x) = (x, 0) := by
  have hc := h
  obtain ⟨h1, h2, ha, hs, hl⟩ := h
  rw [encE, if_pos hc, formE_flat (by omega) (by omega) (by omega)]
  generalize hb : flatE x = b
  have e1 : (256 : Nat) ^ 1 = 256 := by decide
  obtain ⟨q0, l0, d0⟩ := rdU_app (b := b) (p := 0) (n := 1) (x := x.machine) (Nat.zero_le _) (by omega) (by rw [← hb]; exact rfl) (by omega) (by omega) (by omega)
  obtain ⟨q1, l1, d1⟩ := rdB_app (most := 1024) l0 d0 (by omega) (by omega)
  obtain ⟨q2, l2, d2⟩ := rdB_app (most := 1024) l1 d1 (by omega) (by omega)
  obtain ⟨q3, l3, d3⟩ := rdB_app (most := 8192) l2 d2 (by omega) (by omega)
  have qe := rdE_ok l3 d3
  replace q0 : rdU b 0 0 1 = _ := q0
  unfold decE
  simp only [q0, q1, q2, q3, qe, ne_eq, not_true_eq_false, false_or]
  rw [if_neg (by omega)]
theorem decE_nil : decE [] = (evi0, 30) := by
  have : rdE [] (rdB [] (rdB [] (rdB [] (rdU [] 0 0 1).2.1 (rdU [] 0 0 1).2.2 1024).2.1 (rdB [] (rdU [] 0 0 1).2.1 (rdU [] 0 0 1).2.2 1024).2.2 1024).2.1 (rdB [] (rdB [] (rdU [] 0 0 1).2.1 (rdU [] 0 0 1).2.2 1024).2.1 (rdB [] (rdU [] 0 0 1).2.1 (rdU [] 0 0 1).2.2 1024).2.2 1024).2.2 8192).2.1 2 = 2 := by
    unfold rdE; simp
  have h0 : rdU [] 0 0 1 = (0, 0, 2) := by unfold rdU; simp
  have h1 : ∀ m, rdB [] 0 2 m = ([], 0, 2) := by intro m; unfold rdB; simp
  unfold decE
  simp only [h0, h1]
  rw [if_pos (.inr (.inl (by omega)))]
theorem enc_decE {b : List UInt8} {x : Evi} (h : decE b = (x, 0)) : encE x = b ∧ CanE x := by
  unfold decE at h
  dsimp only at h
  split at h
  · simp at h
  rename_i heE
  simp only [Prod.mk.injEq, and_true] at h
  rw [not_or, not_or] at heE
  obtain ⟨heE, hm1, hm2⟩ := heE
  have heE := Classical.not_not.1 heE
  generalize g0 : rdU b 0 0 1 = x0 at *
  generalize g1 : rdB b x0.2.1 x0.2.2 1024 = x1 at *
  generalize g2 : rdB b x1.2.1 x1.2.2 1024 = x2 at *
  generalize g3 : rdB b x2.2.1 x2.2.2 8192 = x3 at *
  obtain ⟨m, p0, e0⟩ := x0; obtain ⟨a, p1, e1⟩ := x1; obtain ⟨s, p2, e2⟩ := x2; obtain ⟨l, p3, e3⟩ := x3
  simp only at *
  have k0 := (rdU_le (b := b) (at' := 0) (e := 0) (size := 1) (Nat.zero_le _)); rw [g0] at k0
  have k1 := (rdB_le (b := b) (at' := p0) (e := e0) (most := 1024) k0); rw [g1] at k1
  have k2 := (rdB_le (b := b) (at' := p1) (e := e1) (most := 1024) k1); rw [g2] at k2
  have k3 := (rdB_le (b := b) (at' := p2) (e := e2) (most := 8192) k2); rw [g3] at k3
  obtain ⟨rfl, z4⟩ := rdE_inv k3 heE
  obtain ⟨rfl, _, _, i3, w3, j3⟩ := rdB_inv k2 g3
  obtain ⟨rfl, _, _, i2, w2, j2⟩ := rdB_inv k1 g2
  obtain ⟨rfl, _, _, i1, w1, j1⟩ := rdB_inv k0 g1
  obtain ⟨_, _, _, i0, _⟩ := rdU_inv (n := 1) (Nat.zero_le _) (by omega) g0
  subst h
  have hc : CanE ⟨m, a, s, l⟩ := ⟨by simp only; omega, by simp only; omega, by simp only; omega, by simp only; omega, by simp only; omega⟩
  refine ⟨?_, hc⟩
  rw [encE, if_pos hc, formE_flat j1 j2 j3]
  simp only [flatE]
  rw [z4] at i3
  rw [← i3, ← i2, ← i1, ← i0]
  rfl
theorem decE_of {b v1 v2 v3 : List UInt8} {v0 er0 er1 er2 er3 : Int} {p0 p1 p2 p3 : Nat}
    (g0 : rdU b 0 0 1 = (v0, p0, er0)) (g1 : rdB b p0 er0 1024 = (v1, p1, er1)) (g2 : rdB b p1 er1 1024 = (v2, p2, er2)) (g3 : rdB b p2 er2 8192 = (v3, p3, er3)) :
    decE b = if rdE b p3 er3 ≠ 0 ∨ v0 < 1 ∨ 4 < v0 then (evi0, 30) else (⟨v0, v1, v2, v3⟩, 0) := by
  simp only [decE, g0, g1, g2, g3]
end Go.Ax
/-
  Own text: boxes.
-/
namespace Go.Ax
def orx (d : UInt8) : List UInt8 → List UInt8 → UInt8
  | a :: x, b :: y => orx (d ||| (a ^^^ b)) x y
  | _, _ => d
theorem orx_zero : ∀ (a b : List UInt8) (d : UInt8), a.length = b.length → (orx d a b = 0 ↔ d = 0 ∧ a = b)
  | [], [], d, _ => by simp [orx]
  | x :: a, y :: b, d, h => by
    rw [orx, orx_zero a b _ (by simpa using h), UInt8.or_eq_zero_iff, UInt8.xor_eq_zero_iff, List.cons.injEq, and_assoc]
  | [], y :: b, d, h => by simp at h
  | x :: a, [], d, h => by simp at h
theorem orx_drop (d : UInt8) (a b : List UInt8) (h : a.length = b.length) (j : Nat) (hj : j < a.length) : orx d (a.drop j) (b.drop j) = orx (d ||| (a[j] ^^^ b[j])) (a.drop (j + 1)) (b.drop (j + 1)) := by
  rw [List.drop_eq_getElem_cons hj, List.drop_eq_getElem_cons (show j < b.length by omega), orx]
theorem xorB_len (b k : List UInt8) (h : k.length = b.length) : (xorB b k).length = b.length := by rw [xorB, List.length_zipWith, h, Nat.min_self]
theorem fill_set (b k : List UInt8) (h : k.length = b.length) (j : Nat) (hj : j < b.length) :
    ((xorB b k).take j ++ List.replicate (b.length - j) 0).set j (b[j] ^^^ k[j]) = (xorB b k).take (j + 1) ++ List.replicate (b.length - (j + 1)) 0 := by
  have hl := xorB_len b k h
  have hx : (xorB b k)[j]'(by omega) = b[j] ^^^ k[j] := by simp [xorB]
  rw [List.take_succ_eq_append_getElem (by omega), hx, List.set_append, if_neg (by rw [List.length_take]; omega), List.length_take, show j - min j (xorB b k).length = 0 from by omega,
    show b.length - j = (b.length - (j + 1)) + 1 from by omega, List.replicate_succ, List.set_cons_zero, List.append_assoc]
  rfl
theorem fill_len (b k : List UInt8) (h : k.length = b.length) (j : Nat) (hj : j ≤ b.length) : ((xorB b k).take j ++ List.replicate (b.length - j) (0 : UInt8)).length = b.length := by
  have hl := xorB_len b k h
  simp; omega
end Go.Ax
namespace Go.Proofs.YtchdeeghccdphaaDoor
open Go Go.Ax Go.Eng
set_option linter.unusedVariables false
set_option linter.unusedSimpArgs false
attribute [local irreducible] iadd isub imul iquo irem ibit ineg ieq ine ilt ile ishl ishr beq' bnot and' seq' u8op u8rem u32op u64op u8shr u8shl u64shr u64shl u32shr u32shl i64w u8i u64i iu8 iu32 iu64 u8u64 u64u8 u32u8 u64cmp u8cmp u32cmp llen lget linb lset lcut lrep lapp lcpy lemp fits fitn sealed drawChk fpSame
set_option maxHeartbeats 4000000
set_option maxRecDepth 100000
theorem ev_equal_loop (a b : List UInt8) (h : a.length = b.length) (ha : a.length ≤ 4294967296) : ∀ (n j : Nat) (d : UInt8), j + n = a.length → Y E0 (.loop 86 0 0 0 [(0, .sl .u8 a), (1, .sl .u8 b), (5, .u8 d), (13, .i a.length), (14, .i (j : Int))] []) = some (.fin (.exit 0) 0 [(5, .u8 (orx d (a.drop j) (b.drop j)))] [])
  | 0, j, d, hj => by
    rw [List.drop_eq_nil_of_le (by omega), List.drop_eq_nil_of_le (by omega), orx]
    rw [Y_go]; conv => lhs; whnf
    rw [ilt_f (by omega)]
    conv => lhs; whnf
    all_goals intros; simp_all
  | n + 1, j, d, hj => by
    have ih := ev_equal_loop a b h ha n (j + 1) (d ||| (a[j]'(by omega) ^^^ b[j]'(by omega))) (by omega)
    rw [← orx_drop d a b h j (by omega)] at ih
    rw [Y_go]; conv => lhs; whnf
    rw [ilt_t (by omega)]
    conv => lhs; whnf
    rw [lget_n (by omega)]
    conv => lhs; whnf
    rw [lget_n (by omega)]
    conv => lhs; whnf
    rw [drw (by kernel_rfl)]; conv => lhs; whnf
    rw [iadd_eq (by omega)]
    refine (congrArg (Y E0) ?_).trans ih; (try simp only [Rq.loop.injEq, Rq.call.injEq, Rq.ops.injEq, List.cons.injEq, Prod.mk.injEq, AV.i.injEq, AV.sl.injEq, AV.st.injEq, AV.b.injEq, AV.u8.injEq, AV.nm.injEq, Option.some.injEq, Rs.row.injEq, Rs.var.injEq, heq_eq_eq, true_and, and_true]); (try (repeat' apply And.intro)); all_goals first | (with_reducible rfl) | omega | (rw [iadd_eq (by omega)]; omega) | (rw [isub_eq (by omega)]; omega) | (rw [u8xor_eq, u8or_eq])
theorem ev_equal (a b : List UInt8) (ha : a.length ≤ 4294967296) : Y E0 (.call 86 [.sl .u8 a, .sl .u8 b] []) = some (.ret (.b (decide (a = b))) []) := by
  by_cases hab : a.length = b.length
  · have hl := ev_equal_loop a b hab ha a.length 0 (UInt8.ofNat 0) (by omega)
    rw [List.drop_zero, List.drop_zero, show ((0 : Nat) : Int) = 0 from rfl] at hl
    have hz := orx_zero a b (UInt8.ofNat 0) hab
    rw [Y_go]; conv => lhs; whnf
    rw [ine_f (by (simp only [uintB_l2, uintB_l1, blobB_l, tagB_len, macB_len, fr1_len, fr2_len, fr3_len, LL] at * <;> omega))]
    conv => lhs; whnf
    rw [toReq_loop]
    rw [llen_eq, hl]
    conv => lhs; whnf
    exact congrArg (fun b => some (Rsp.ret (AV.b b) [])) (by rw [u8cmp_eql, ieq_eq]; apply decide_eq_decide.2; rw [Int.ofNat_inj, UInt8.toNat_inj]; exact hz.trans (by simp))
  · rw [decide_eq_false (fun e => hab (by rw [e]))]
    rw [Y_go]; conv => lhs; whnf
    rw [ine_t (by (simp only [uintB_l2, uintB_l1, blobB_l, tagB_len, macB_len, fr1_len, fr2_len, fr3_len, LL] at * <;> omega))]
    conv => lhs; whnf
theorem ev_bmask1 (b k : List UInt8) (j : Nat) (h : k.length = b.length) (hj : j < b.length) : Y E0 (.call 103 [.i (j : Int), .pa 0 0, .pa 1 0] [.var [.sl .u8 b], .var [.sl .u8 k]]) = some (.ret (.u8 (b[j] ^^^ k[j])) [some (.var [.sl .u8 b]), some (.var [.sl .u8 k])]) := by
  rw [Y_go]; conv => lhs; whnf
  rw [lget_n (by omega)]
  conv => lhs; whnf
  rw [lget_n (by omega)]
  conv => lhs; whnf
  rw [drw (by kernel_rfl)]; conv => lhs; whnf
  rw [u8xor_eq]
theorem ev_bmask_loop (b k : List UInt8) (h : k.length = b.length) (hb : b.length ≤ 1024) : ∀ (n j : Nat), j + n = b.length → Y E0 (.loop 82 0 0 3 [(8, .fn 103 [] [.pa 0 0, .pa 1 0]), (9, .nm 2), (21, .i b.length), (22, .i (j : Int))] [(0, some (.var [.sl .u8 b])), (1, some (.var [.sl .u8 k])), (2, some (.row 5 .u8 ((xorB b k).take j ++ List.replicate (b.length - j) 0)))]) = some (.fin (.exit 0) 0 [(9, .sl .u8 (xorB b k))] [])
  | 0, j, hj => by
    have hl := xorB_len b k h
    rw [List.take_of_length_le (by omega), show b.length - j = 0 from by omega, List.replicate_zero, List.append_nil]
    rw [Y_go]; conv => lhs; whnf
    rw [ilt_f (by omega)]
    conv => lhs; whnf
  | n + 1, j, hj => by
    have ih := ev_bmask_loop b k h hb n (j + 1) (by omega)
    have hs := fill_set b k h j (by omega)
    have hl2 := fill_len b k h j (by omega)
    rw [Y_go]; conv => lhs; whnf
    rw [ilt_t (by omega)]
    conv => lhs; whnf
    rw [toReq_call]
    rw [ev_bmask1 b k j h (by omega)]
    conv => lhs; whnf
    rw [linb_t (by omega)]
    conv => lhs; whnf
    rw [lget_n (by omega)]
    conv => lhs; whnf
    rw [iadd_eq (by omega)]
    refine (congrArg (Y E0) ?_).trans ih; (try simp only [Rq.loop.injEq, Rq.call.injEq, Rq.ops.injEq, List.cons.injEq, Prod.mk.injEq, AV.i.injEq, AV.sl.injEq, AV.st.injEq, AV.b.injEq, AV.u8.injEq, AV.nm.injEq, Option.some.injEq, Rs.row.injEq, Rs.var.injEq, heq_eq_eq, true_and, and_true]); (try (repeat' apply And.intro)); all_goals first | (with_reducible rfl) | omega | (rw [iadd_eq (by omega)]; omega) | (rw [isub_eq (by omega)]; omega) | (rw [lset_eq]; exact hs)
theorem ev_bmask (key nonce b : List UInt8) (hk : key.length ≤ 1000000) (hn : nonce.length ≤ 1000) (hb : b.length ≤ 1024) : Y E0 (.call 82 [.sl .u8 key, .sl .u8 nonce, .sl .u8 b] []) = some (.ret (.sl .u8 (strB key nonce b)) []) := by
  have hd := derB_len0 (key := key) (label := encryptL) (ctx := nonce) hb
  have hl := ev_bmask_loop b _ hd hb b.length 0 (by omega)
  rw [List.take_zero, List.nil_append, Nat.sub_zero, show ((0 : Nat) : Int) = 0 from rfl] at hl
  rw [Y_go]; conv => lhs; whnf
  rw [toReq_call]
  rw [show strOf { data := #[101, 110, 99, 114, 121, 112, 116] } = encryptL from rfl, ev_derive _ _ _ _ (by omega) (by decide) (by omega), llen_eq]
  conv => lhs; whnf
  rw [fitn_t (by (simp only [uintB_l2, uintB_l1, blobB_l, tagB_len, macB_len, fr1_len, fr2_len, fr3_len, LL] at * <;> omega))]
  conv => lhs; whnf
  rw [ieq_t (by omega)]
  conv => lhs; whnf
  rw [toReq_loop]
  rw [llen_eq, llen_eq, lrep_eq, Int.toNat_natCast, List.length_replicate, hl]
  conv => lhs; whnf
  rfl
theorem ev_stream_loop (b k : List UInt8) (h : k.length = b.length) (hb : b.length ≤ 1024) : ∀ (n j : Nat), j + n = b.length → Y E0 (.loop 84 0 0 1 [(2, .sl .u8 b), (7, .sl .u8 k), (8, .nm 0), (9, .i (j : Int))] [(0, some (.row 5 .u8 ((xorB b k).take j ++ List.replicate (b.length - j) 0)))]) = some (.fin (.exit 0) 0 [(8, .sl .u8 (xorB b k))] [])
  | 0, j, hj => by
    have hl := xorB_len b k h
    rw [List.take_of_length_le (by omega), show b.length - j = 0 from by omega, List.replicate_zero, List.append_nil]
    rw [Y_go]; conv => lhs; whnf
    rw [ilt_f (by (simp only [uintB_l2, uintB_l1, blobB_l, tagB_len, macB_len, fr1_len, fr2_len, fr3_len, LL] at * <;> omega))]
    conv => lhs; whnf
  | n + 1, j, hj => by
    have ih := ev_stream_loop b k h hb n (j + 1) (by omega)
    have hs := fill_set b k h j (by omega)
    have hl2 := fill_len b k h j (by omega)
    rw [Y_go]; conv => lhs; whnf
    rw [ilt_t (by (simp only [uintB_l2, uintB_l1, blobB_l, tagB_len, macB_len, fr1_len, fr2_len, fr3_len, LL] at * <;> omega))]
    conv => lhs; whnf
    rw [lget_n (by omega)]
    conv => lhs; whnf
    rw [lget_n (by omega)]
    conv => lhs; whnf
    rw [linb_t (by omega)]
    conv => lhs; whnf
    rw [lget_n (by omega)]
    conv => lhs; whnf
    rw [drw (by kernel_rfl)]; conv => lhs; whnf
    rw [iadd_eq (by omega)]
    refine (congrArg (Y E0) ?_).trans ih; (try simp only [Rq.loop.injEq, Rq.call.injEq, Rq.ops.injEq, List.cons.injEq, Prod.mk.injEq, AV.i.injEq, AV.sl.injEq, AV.st.injEq, AV.b.injEq, AV.u8.injEq, AV.nm.injEq, Option.some.injEq, Rs.row.injEq, Rs.var.injEq, heq_eq_eq, true_and, and_true]); (try (repeat' apply And.intro)); all_goals first | (with_reducible rfl) | omega | (rw [iadd_eq (by omega)]; omega) | (rw [isub_eq (by omega)]; omega) | (rw [lset_eq, u8xor_eq]; exact hs)
theorem ev_stream (key nonce b : List UInt8) (hk : key.length ≤ 1000000) (hn : nonce.length ≤ 1000) (hb : b.length ≤ 1024) : Y E0 (.call 84 [.sl .u8 key, .sl .u8 nonce, .sl .u8 b] []) = some (.ret (.sl .u8 (strB key nonce b)) []) := by
  have hd := derB_len0 (key := key) (label := encryptL) (ctx := nonce) hb
  have hl := ev_stream_loop b _ hd hb b.length 0 (by omega)
  rw [List.take_zero, List.nil_append, Nat.sub_zero, show ((0 : Nat) : Int) = 0 from rfl] at hl
  rw [Y_go]; conv => lhs; whnf
  rw [toReq_call]
  rw [show strOf { data := #[101, 110, 99, 114, 121, 112, 116] } = encryptL from rfl, ev_rderive _ _ _ _ (by omega) (by decide) (by omega), llen_eq]
  conv => lhs; whnf
  rw [fitn_t (by (simp only [uintB_l2, uintB_l1, blobB_l, tagB_len, macB_len, fr1_len, fr2_len, fr3_len, LL] at * <;> omega))]
  conv => lhs; whnf
  rw [ieq_t (by omega)]
  conv => lhs; whnf
  rw [toReq_loop]
  rw [llen_eq, lrep_eq, Int.toNat_natCast, hl]
  conv => lhs; whnf
  rfl
theorem ev_btag (key nonce ad c : List UInt8) (hk : key.length ≤ 1000000) (hn : nonce.length ≤ 1000) (ha : ad.length ≤ 1000000) (hc : c.length ≤ 1024) : Y E0 (.call 83 [.sl .u8 key, .sl .u8 nonce, .sl .u8 ad, .sl .u8 c] []) = some (.ret (.sl .u8 (tagB key nonce ad c)) []) := by
  have hd := derB_len (key := key) (label := authL) (ctx := nonce) (n := 32) (by omega)
  rw [Y_go]; conv => lhs; whnf
  rw [toReq_call]
  rw [show strOf { data := #[97, 117, 116, 104, 101, 110, 116, 105, 99, 97, 116, 101] } = authL from rfl, ev_derive _ _ _ _ (by omega) (by decide) (by omega)]
  conv => lhs; whnf
  rw [toReq_call]
  rw [ev_dig_frame _ _ (by (simp only [uintB_l2, uintB_l1, blobB_l, tagB_len, macB_len, fr1_len, fr2_len, fr3_len, LL] at * <;> omega)) (by (simp only [uintB_l2, uintB_l1, blobB_l, tagB_len, macB_len, fr1_len, fr2_len, fr3_len, LL] at * <;> omega))]
  conv => lhs; whnf
  rw [toReq_call]
  rw [ev_mac _ _ (by omega) (by (simp only [uintB_l2, uintB_l1, blobB_l, tagB_len, macB_len, fr1_len, fr2_len, fr3_len, LL] at * <;> omega))]
  conv => lhs; whnf
  rfl
theorem ev_r4tag (key nonce ad c : List UInt8) (hk : key.length ≤ 1000000) (hn : nonce.length ≤ 1000) (ha : ad.length ≤ 1000000) (hc : c.length ≤ 1024) : Y E0 (.call 60 [.sl .u8 key, .sl .u8 nonce, .sl .u8 ad, .sl .u8 c] []) = some (.ret (.sl .u8 (tagB key nonce ad c)) []) := by
  have hd := derB_len (key := key) (label := authL) (ctx := nonce) (n := 32) (by omega)
  rw [Y_go]; conv => lhs; whnf
  rw [toReq_call]
  rw [show strOf { data := #[97, 117, 116, 104, 101, 110, 116, 105, 99, 97, 116, 101] } = authL from rfl, ev_rderive _ _ _ _ (by omega) (by decide) (by omega)]
  conv => lhs; whnf
  rw [toReq_call]
  rw [ev_ref_frame _ _ (by (simp only [uintB_l2, uintB_l1, blobB_l, tagB_len, macB_len, fr1_len, fr2_len, fr3_len, LL] at * <;> omega)) (by (simp only [uintB_l2, uintB_l1, blobB_l, tagB_len, macB_len, fr1_len, fr2_len, fr3_len, LL] at * <;> omega))]
  conv => lhs; whnf
  rw [toReq_call]
  rw [ev_rmac _ _ (by omega) (by (simp only [uintB_l2, uintB_l1, blobB_l, tagB_len, macB_len, fr1_len, fr2_len, fr3_len, LL] at * <;> omega))]
  conv => lhs; whnf
  rfl
theorem ev_seal (key nonce ad plain : List UInt8) (hk : key.length ≤ 1000000) (ha : ad.length ≤ 1000000) : Y E0 (.call 55 [.sl .u8 key, .sl .u8 nonce, .sl .u8 ad, .sl .u8 plain] []) = some (.ret (.sl .u8 (sealB key nonce ad plain)) []) := by
  rw [Y_go]; conv => lhs; whnf
  rcases Bool.eq_false_or_eq_true (ilt 64 (llen nonce)) with hc0 | hc0
  · rw [hc0]; replace hc0 := of_ilt_t hc0; try simp only [llen_eq] at hc0
    conv => lhs; whnf
    unfold sealB; (repeat (first | rw [if_pos (by first | omega | decide | assumption | (simp only [uintB_l2, uintB_l1, blobB_l, tagB_len, macB_len, fr1_len, fr2_len, fr3_len, LL] at * <;> omega) | (simp; omega))] | rw [if_neg (by first | omega | decide | assumption | (simp only [uintB_l2, uintB_l1, blobB_l, tagB_len, macB_len, fr1_len, fr2_len, fr3_len, LL] at * <;> omega) | (simp; omega))])); try simp only [NO]
  · rw [hc0]; replace hc0 := of_ilt_f hc0; try simp only [llen_eq] at hc0
    conv => lhs; whnf
    rcases Bool.eq_false_or_eq_true (ilt 1024 (llen plain)) with hc1 | hc1
    · rw [hc1]; replace hc1 := of_ilt_t hc1; try simp only [llen_eq] at hc1
      conv => lhs; whnf
      unfold sealB; (repeat (first | rw [if_pos (by first | omega | decide | assumption | (simp only [uintB_l2, uintB_l1, blobB_l, tagB_len, macB_len, fr1_len, fr2_len, fr3_len, LL] at * <;> omega) | (simp; omega))] | rw [if_neg (by first | omega | decide | assumption | (simp only [uintB_l2, uintB_l1, blobB_l, tagB_len, macB_len, fr1_len, fr2_len, fr3_len, LL] at * <;> omega) | (simp; omega))])); try simp only [NO]
    · rw [hc1]; replace hc1 := of_ilt_f hc1; try simp only [llen_eq] at hc1
      conv => lhs; whnf
      rw [toReq_call]
      have hs := strB_len (key := key) (nonce := nonce) (b := plain) (by omega); rw [ev_bmask _ _ _ (by omega) (by omega) (by omega)]
      conv => lhs; whnf
      rw [toReq_call]
      rw [ev_blob _ _ (by (simp only [uintB_l2, uintB_l1, blobB_l, tagB_len, macB_len, fr1_len, fr2_len, fr3_len, LL] at * <;> omega))]
      conv => lhs; whnf
      rw [toReq_call]
      rw [ev_blob _ _ (by (simp only [uintB_l2, uintB_l1, blobB_l, tagB_len, macB_len, fr1_len, fr2_len, fr3_len, LL] at * <;> omega))]
      conv => lhs; whnf
      rw [toReq_call]
      rw [ev_btag _ _ _ _ (by omega) (by omega) (by omega) (by omega)]
      conv => lhs; whnf
      rw [fits_t (by (simp only [uintB_l2, uintB_l1, blobB_l, tagB_len, macB_len, fr1_len, fr2_len, fr3_len, LL] at * <;> omega))]
      conv => lhs; whnf
      (rw [sealB, if_neg (by omega), formB, lapp_eq])
theorem ev_r4seal (key nonce ad plain : List UInt8) (hk : key.length ≤ 1000000) (ha : ad.length ≤ 1000000) : Y E0 (.call 56 [.sl .u8 key, .sl .u8 nonce, .sl .u8 ad, .sl .u8 plain] []) = some (.ret (.nm 0) [some (.row 5 .u8 (sealB key nonce ad plain))]) := by
  rw [Y_go]; conv => lhs; whnf
  rcases Bool.eq_false_or_eq_true (ilt 64 (llen nonce)) with hc0 | hc0
  · rw [hc0]; replace hc0 := of_ilt_t hc0; try simp only [llen_eq] at hc0
    conv => lhs; whnf
    unfold sealB; (repeat (first | rw [if_pos (by first | omega | decide | assumption | (simp only [uintB_l2, uintB_l1, blobB_l, tagB_len, macB_len, fr1_len, fr2_len, fr3_len, LL] at * <;> omega) | (simp; omega))] | rw [if_neg (by first | omega | decide | assumption | (simp only [uintB_l2, uintB_l1, blobB_l, tagB_len, macB_len, fr1_len, fr2_len, fr3_len, LL] at * <;> omega) | (simp; omega))])); try simp only [NO]
  · rw [hc0]; replace hc0 := of_ilt_f hc0; try simp only [llen_eq] at hc0
    conv => lhs; whnf
    rcases Bool.eq_false_or_eq_true (ilt 1024 (llen plain)) with hc1 | hc1
    · rw [hc1]; replace hc1 := of_ilt_t hc1; try simp only [llen_eq] at hc1
      conv => lhs; whnf
      unfold sealB; (repeat (first | rw [if_pos (by first | omega | decide | assumption | (simp only [uintB_l2, uintB_l1, blobB_l, tagB_len, macB_len, fr1_len, fr2_len, fr3_len, LL] at * <;> omega) | (simp; omega))] | rw [if_neg (by first | omega | decide | assumption | (simp only [uintB_l2, uintB_l1, blobB_l, tagB_len, macB_len, fr1_len, fr2_len, fr3_len, LL] at * <;> omega) | (simp; omega))])); try simp only [NO]
    · rw [hc1]; replace hc1 := of_ilt_f hc1; try simp only [llen_eq] at hc1
      conv => lhs; whnf
      rw [toReq_call]
      have hs := strB_len (key := key) (nonce := nonce) (b := plain) (by omega); rw [ev_stream _ _ _ (by omega) (by omega) (by omega)]
      conv => lhs; whnf
      rw [toReq_call]
      rw [ev_r3blob _ _ (by (simp only [uintB_l2, uintB_l1, blobB_l, tagB_len, macB_len, fr1_len, fr2_len, fr3_len, LL] at * <;> omega))]
      conv => lhs; whnf
      rw [toReq_call]
      rw [ev_r3blob _ _ (by (simp only [uintB_l2, uintB_l1, blobB_l, tagB_len, macB_len, fr1_len, fr2_len, fr3_len, LL] at * <;> omega))]
      conv => lhs; whnf
      rw [toReq_call]
      rw [ev_r4tag _ _ _ _ (by omega) (by omega) (by omega) (by omega)]
      conv => lhs; whnf
      rw [fits_t (by (simp only [uintB_l2, uintB_l1, blobB_l, tagB_len, macB_len, fr1_len, fr2_len, fr3_len, LL] at * <;> omega))]
      conv => lhs; whnf
      (rw [sealB, if_neg (by omega), formB, lapp_eq])
theorem ev_open (key ad b : List UInt8) (hk : key.length ≤ 1000000) (ha : ad.length ≤ 1000000) (hb : b.length ≤ 4294967296) : Y E0 (.call 57 [.sl .u8 key, .sl .u8 ad, .sl .u8 b] []) = some (.ret (.tup [.sl .u8 (openB key ad b).1, .i (openB key ad b).2]) []) := by
  rw [Y_go]; conv => lhs; whnf
  rw [toReq_call]
  rw [ev_new _ (by omega)]
  conv => lhs; whnf
  rw [toReq_call]
  rw [show Y E0 (.call 72 [.pa 0 0, .i 64] [.var [.sl .u8 b, .i 0, .i 0]]) = _ from ev_rblob b 0 0 64 hb (Nat.zero_le _)]; generalize g0 : rdB b 0 0 64 = x0; obtain ⟨v0, p0, er0⟩ := x0; have k0 : p0 ≤ b.length := (by have := rdB_le (b := b) (at' := 0) (e := 0) (most := 64) (Nat.zero_le _); rw [g0] at this; exact this); have l0 : v0.length ≤ b.length := (by have := rdB_len (b := b) (at' := 0) (e := 0) (most := 64); rw [g0] at this; exact this); have m0 : v0.length ≤ 64 := (by have := rdB_most (b := b) (at' := 0) (e := 0) (most := 64) (by decide); rw [g0] at this; simp only at this; omega)
  conv => lhs; whnf
  rw [toReq_call]
  rw [ev_rblob b p0 er0 1024 hb k0]; generalize g1 : rdB b p0 er0 1024 = x1; obtain ⟨v1, p1, er1⟩ := x1; have k1 : p1 ≤ b.length := (by have := rdB_le (b := b) (at' := p0) (e := er0) (most := 1024) k0; rw [g1] at this; exact this); have l1 : v1.length ≤ b.length := (by have := rdB_len (b := b) (at' := p0) (e := er0) (most := 1024); rw [g1] at this; exact this); have m1 : v1.length ≤ 1024 := (by have := rdB_most (b := b) (at' := p0) (e := er0) (most := 1024) (by decide); rw [g1] at this; simp only at this; omega)
  conv => lhs; whnf
  rw [toReq_call]
  rw [ev_raw b p1 er1 32 hb k1 (by decide)]; generalize g2 : rdR b p1 er1 32 = x2; obtain ⟨v2, p2, er2⟩ := x2; have k2 : p2 ≤ b.length := (by have := rdR_le (b := b) (at' := p1) (e := er1) (n := 32) k1; rw [g2] at this; exact this); have l2 : v2.length ≤ b.length := (by have := rdR_len (b := b) (at' := p1) (e := er1) (n := 32); rw [g2] at this; exact this)
  conv => lhs; whnf
  rw [toReq_call]
  rw [ev_rend _ _ _ (by omega) (by omega)]
  conv => lhs; whnf
  rcases Bool.eq_false_or_eq_true (ine (rdE b (v2, p2, er2).snd.fst (v2, p2, er2).snd.snd) 0) with hc0 | hc0
  · rw [hc0]; replace hc0 := of_ine_t hc0; try simp only [llen_eq] at hc0
    conv => lhs; whnf
    (rw [openB_of g0 g1 g2, if_pos (by omega)]; try rfl)
  · rw [hc0]; replace hc0 := of_ine_f hc0; try simp only [llen_eq] at hc0
    conv => lhs; whnf
    rw [toReq_call]
    rw [ev_btag _ _ _ _ (by omega) (by (simp only [uintB_l2, uintB_l1, blobB_l, tagB_len, macB_len, fr1_len, fr2_len, fr3_len, LL] at * <;> omega)) (by omega) (by omega)]
    conv => lhs; whnf
    rw [toReq_call]
    rw [ev_equal _ _ (by (simp only [uintB_l2, uintB_l1, blobB_l, tagB_len, macB_len, fr1_len, fr2_len, fr3_len, LL] at * <;> omega))]
    conv => lhs; whnf
    rw [bnot_eq]; conv => lhs; whnf
    rcases Bool.eq_false_or_eq_true (decide ((v2, p2, er2).fst = tagB key (v0, p0, er0).fst ad (v1, p1, er1).fst)) with hc1 | hc1
    · rw [hc1]; replace hc1 := of_decide_eq_true hc1; try simp only at hc1
      conv => lhs; whnf
      rw [toReq_call]
      rw [ev_bmask _ _ _ (by omega) (by (simp only [uintB_l2, uintB_l1, blobB_l, tagB_len, macB_len, fr1_len, fr2_len, fr3_len, LL] at * <;> omega)) (by omega)]
      conv => lhs; whnf
      (rw [openB_of g0 g1 g2, if_neg (by omega), if_neg (by simp_all)]; try rfl)
    · rw [hc1]; replace hc1 := of_decide_eq_false hc1; try simp only at hc1
      conv => lhs; whnf
      (rw [openB_of g0 g1 g2, if_neg (by omega), if_pos (by assumption)]; try rfl)
theorem ev_r4open (key ad b : List UInt8) (hk : key.length ≤ 1000000) (ha : ad.length ≤ 1000000) (hb : b.length ≤ 4294967296) : Y E0 (.call 58 [.sl .u8 key, .sl .u8 ad, .sl .u8 b] []) = some (.ret (.tup [.sl .u8 (openB key ad b).1, .i (openB key ad b).2]) []) := by
  rw [Y_go]; conv => lhs; whnf
  rw [toReq_call]
  rw [ev_r3new _]
  conv => lhs; whnf
  rw [toReq_call]
  rw [show Y E0 (.call 76 [.pa 0 0, .i 64] [.var [.sl .u8 b, .i 0, .i 0]]) = _ from ev_r3rblob b 0 0 64 hb (Nat.zero_le _)]; generalize g0 : rdB b 0 0 64 = x0; obtain ⟨v0, p0, er0⟩ := x0; have k0 : p0 ≤ b.length := (by have := rdB_le (b := b) (at' := 0) (e := 0) (most := 64) (Nat.zero_le _); rw [g0] at this; exact this); have l0 : v0.length ≤ b.length := (by have := rdB_len (b := b) (at' := 0) (e := 0) (most := 64); rw [g0] at this; exact this); have m0 : v0.length ≤ 64 := (by have := rdB_most (b := b) (at' := 0) (e := 0) (most := 64) (by decide); rw [g0] at this; simp only at this; omega)
  conv => lhs; whnf
  rw [toReq_call]
  rw [ev_r3rblob b p0 er0 1024 hb k0]; generalize g1 : rdB b p0 er0 1024 = x1; obtain ⟨v1, p1, er1⟩ := x1; have k1 : p1 ≤ b.length := (by have := rdB_le (b := b) (at' := p0) (e := er0) (most := 1024) k0; rw [g1] at this; exact this); have l1 : v1.length ≤ b.length := (by have := rdB_len (b := b) (at' := p0) (e := er0) (most := 1024); rw [g1] at this; exact this); have m1 : v1.length ≤ 1024 := (by have := rdB_most (b := b) (at' := p0) (e := er0) (most := 1024) (by decide); rw [g1] at this; simp only at this; omega)
  conv => lhs; whnf
  rw [toReq_call]
  rw [ev_r3raw b p1 er1 32 hb k1 (by decide)]; generalize g2 : rdR b p1 er1 32 = x2; obtain ⟨v2, p2, er2⟩ := x2; have k2 : p2 ≤ b.length := (by have := rdR_le (b := b) (at' := p1) (e := er1) (n := 32) k1; rw [g2] at this; exact this); have l2 : v2.length ≤ b.length := (by have := rdR_len (b := b) (at' := p1) (e := er1) (n := 32); rw [g2] at this; exact this)
  conv => lhs; whnf
  rw [toReq_call]
  rw [ev_r3end _ _ _ (by omega) (by omega)]
  conv => lhs; whnf
  rcases Bool.eq_false_or_eq_true (ine (rdE b (v2, p2, er2).snd.fst (v2, p2, er2).snd.snd) 0) with hc0 | hc0
  · rw [hc0]; replace hc0 := of_ine_t hc0; try simp only [llen_eq] at hc0
    conv => lhs; whnf
    (rw [openB_of g0 g1 g2, if_pos (by omega)]; try rfl)
  · rw [hc0]; replace hc0 := of_ine_f hc0; try simp only [llen_eq] at hc0
    conv => lhs; whnf
    rw [toReq_call]
    rw [ev_r4tag _ _ _ _ (by omega) (by (simp only [uintB_l2, uintB_l1, blobB_l, tagB_len, macB_len, fr1_len, fr2_len, fr3_len, LL] at * <;> omega)) (by omega) (by omega)]
    conv => lhs; whnf
    rw [toReq_call]
    rw [ev_same _ _ (by (simp only [uintB_l2, uintB_l1, blobB_l, tagB_len, macB_len, fr1_len, fr2_len, fr3_len, LL] at * <;> omega))]
    conv => lhs; whnf
    rw [bnot_eq]; conv => lhs; whnf
    rcases Bool.eq_false_or_eq_true (decide ((v2, p2, er2).fst = tagB key (v0, p0, er0).fst ad (v1, p1, er1).fst)) with hc1 | hc1
    · rw [hc1]; replace hc1 := of_decide_eq_true hc1; try simp only at hc1
      conv => lhs; whnf
      rw [toReq_call]
      rw [ev_stream _ _ _ (by omega) (by (simp only [uintB_l2, uintB_l1, blobB_l, tagB_len, macB_len, fr1_len, fr2_len, fr3_len, LL] at * <;> omega)) (by omega)]
      conv => lhs; whnf
      (rw [openB_of g0 g1 g2, if_neg (by omega), if_neg (by simp_all)]; try rfl)
    · rw [hc1]; replace hc1 := of_decide_eq_false hc1; try simp only at hc1
      conv => lhs; whnf
      (rw [openB_of g0 g1 g2, if_neg (by omega), if_pos (by assumption)]; try rfl)
end Go.Proofs.YtchdeeghccdphaaDoor
/-
  Own text: the laws on boxes, walked.
-/
namespace Go.Ax
open Go.Eng
theorem sealB_le (key nonce ad plain : List UInt8) : (sealB key nonce ad plain).length ≤ 1200 := by
  by_cases h : 64 < nonce.length ∨ 1024 < plain.length
  · rw [sealB, if_pos h]; simp
  · rw [sealB_len (by omega) (by omega)]; omega
theorem sealB_get {key nonce ad plain : List UInt8} (hn : nonce.length ≤ 64) (hp : plain.length ≤ 1024) {i : Nat} (hi : i < plain.length) :
    (sealB key nonce ad plain)[4 + nonce.length + i]? = some (plain.getD i 0 ^^^ (derB key encryptL nonce (plain.length : Int)).getD i 0) := by
  have hs := strB_len (key := key) (nonce := nonce) hp
  have hf : sealB key nonce ad plain = formB nonce (strB key nonce plain) (tagB key nonce ad (strB key nonce plain)) := by rw [sealB, if_neg (by omega)]
  have hm := formB_mid (nonce := nonce) (c := strB key nonce plain) (t := tagB key nonce ad (strB key nonce plain)) (by omega) (by omega)
  rw [← hf] at hm
  have hg := strB_get (key := key) (nonce := nonce) hp hi
  have h1 : (strB key nonce plain)[i]? = some ((strB key nonce plain).getD i 0) := by simp [List.getD, List.getElem?_eq_getElem (show i < (strB key nonce plain).length by omega)]
  rw [← hg, ← h1, ← List.getElem?_drop]
  conv => rhs; rw [← hm]
  rw [List.getElem?_take, if_pos (by omega)]
end Go.Ax
namespace Go.Proofs.YtchdeeghccdphaaDoor
open Go Go.Ax Go.Eng
set_option linter.unusedVariables false
set_option linter.unusedSimpArgs false
attribute [local irreducible] iadd isub imul iquo irem ibit ineg ieq ine ilt ile ishl ishr beq' bnot and' seq' u8op u8rem u32op u64op u8shr u8shl u64shr u64shl u32shr u32shl i64w u8i u64i iu8 iu32 iu64 u8u64 u64u8 u32u8 u64cmp u8cmp u32cmp llen lget linb lset lcut lrep lapp lcpy lemp fits fitn sealed drawChk fpSame
attribute [local irreducible] sealB openB tagB strB
set_option maxHeartbeats 4000000
set_option maxRecDepth 100000
theorem ev_awake4 : Y E0 (.call 53 [] []) = some (.ret (.b true) []) := by
  have hl := sealB_len (key := [UInt8.ofNat 1]) (nonce := [UInt8.ofNat 2]) (ad := []) (plain := [UInt8.ofNat 3]) (by decide) (by decide)
  have ho := open_seal (key := [UInt8.ofNat 1]) (nonce := [UInt8.ofNat 2]) (ad := []) (plain := [UInt8.ofNat 3]) (by decide) (by decide)
  simp only [List.length_cons, List.length_nil] at hl
  rw [Y_go]; conv => lhs; whnf
  dsimp (config := { iota := false, beta := false, eta := false, zeta := false }) only
  rw [toReq_call]
  rw [ev_seal _ _ _ _ (by (simp only [uintB_l2, uintB_l1, blobB_l, tagB_len, macB_len, fr1_len, fr2_len, fr3_len, LL] at * <;> omega)) (by (simp only [uintB_l2, uintB_l1, blobB_l, tagB_len, macB_len, fr1_len, fr2_len, fr3_len, LL] at * <;> omega))]
  conv => lhs; whnf
  dsimp (config := { iota := false, beta := false, eta := false, zeta := false }) only
  rw [toReq_call]
  rw [ev_open _ _ _ (by simp) (by simp) (by omega), ho]
  conv => lhs; whnf
  dsimp (config := { iota := false, beta := false, eta := false, zeta := false }) only
  rw [ieq_t (by (simp only [uintB_l2, uintB_l1, blobB_l, tagB_len, macB_len, fr1_len, fr2_len, fr3_len, LL] at * <;> omega))]
  conv => lhs; whnf
  rw [ieq_t (by omega)]
  conv => lhs; whnf
  rw [ieq_t (by (simp only [uintB_l2, uintB_l1, blobB_l, tagB_len, macB_len, fr1_len, fr2_len, fr3_len, LL] at * <;> omega))]
  conv => lhs; whnf
  rw [lget_i (by decide)]
  conv => lhs; whnf
  rw [u8cmp_eql, ieq_t (by rfl)]
theorem sm4_loop (ls : List (List UInt8)) (hn : ls.length ≤ 1000) : ∀ (n j : Nat), j + n = ls.length → Y E0 (.loop 54 0 0 0 [(0, .sl (.sl .u8) ls), (3, .i (j : Int))] []) = if ∀ l ∈ ls.drop j, l.length ≤ 120 then some (.fin (.exit 0) 0 [] []) else some (.fin .ret 0 [(2, .b false)] [])
  | 0, j, hj => by
    rw [if_pos (by rw [List.drop_eq_nil_of_le (by omega)]; simp)]
    rw [Y_go]; conv => lhs; whnf
    rw [ilt_f (by (simp only [uintB_l2, uintB_l1, blobB_l, tagB_len, macB_len, fr1_len, fr2_len, fr3_len, LL] at * <;> omega))]
    conv => lhs; whnf
  | n + 1, j, hj => by
    have ih := sm4_loop ls hn n (j + 1) (by omega)
    have hd := List.drop_eq_getElem_cons (l := ls) (i := j) (by omega)
    rw [hd]
    have hg : lget ls (j : Int) = some (ls[j]'(by omega)) := lget_n (by omega)
    generalize ls[j]'(by omega) = x at *
    clear hd
    have hj2 : (j : Int) < llen ls := by rw [llen_eq]; omega
    by_cases hx : x.length ≤ 120
    · by_cases ht : ∀ l ∈ ls.drop (j + 1), l.length ≤ 120
      · rw [if_pos ht] at ih
        rw [if_pos (by simpa [hx] using ht)]
        rw [Y_go]; conv => lhs; whnf
        rw [ilt_t (by omega)]
        conv => lhs; whnf
        rw [hg]; conv => lhs; whnf
        rw [ilt_f (by (simp only [uintB_l2, uintB_l1, blobB_l, tagB_len, macB_len, fr1_len, fr2_len, fr3_len, LL] at * <;> omega))]
        conv => lhs; whnf
        dsimp (config := { iota := false, beta := false, eta := false, zeta := false }) only
        rw [iadd_eq (by omega)]
        refine (congrArg (Y E0) ?_).trans ih; (try simp only [Rq.loop.injEq, Rq.call.injEq, Rq.ops.injEq, List.cons.injEq, Prod.mk.injEq, AV.i.injEq, AV.sl.injEq, AV.st.injEq, AV.b.injEq, AV.u8.injEq, AV.nm.injEq, Option.some.injEq, Rs.row.injEq, Rs.var.injEq, heq_eq_eq, true_and, and_true]); (try (repeat' apply And.intro)); all_goals first | (with_reducible rfl) | omega | (rw [iadd_eq (by omega)]; omega) | (rw [isub_eq (by omega)]; omega)
      · rw [if_neg ht] at ih
        rw [if_neg (by simpa [hx] using ht)]
        rw [Y_go]; conv => lhs; whnf
        rw [ilt_t (by omega)]
        conv => lhs; whnf
        rw [hg]; conv => lhs; whnf
        rw [ilt_f (by (simp only [uintB_l2, uintB_l1, blobB_l, tagB_len, macB_len, fr1_len, fr2_len, fr3_len, LL] at * <;> omega))]
        conv => lhs; whnf
        dsimp (config := { iota := false, beta := false, eta := false, zeta := false }) only
        rw [iadd_eq (by omega)]
        refine (congrArg (Y E0) ?_).trans ih; (try simp only [Rq.loop.injEq, Rq.call.injEq, Rq.ops.injEq, List.cons.injEq, Prod.mk.injEq, AV.i.injEq, AV.sl.injEq, AV.st.injEq, AV.b.injEq, AV.u8.injEq, AV.nm.injEq, Option.some.injEq, Rs.row.injEq, Rs.var.injEq, heq_eq_eq, true_and, and_true]); (try (repeat' apply And.intro)); all_goals first | (with_reducible rfl) | omega | (rw [iadd_eq (by omega)]; omega) | (rw [isub_eq (by omega)]; omega)
    · rw [if_neg (by intro h; exact hx (h x (by simp)))]
      clear ih
      rw [Y_go]; conv => lhs; whnf
      rw [ilt_t (by omega)]
      conv => lhs; whnf
      rw [hg]; conv => lhs; whnf
      rw [ilt_t (by (simp only [uintB_l2, uintB_l1, blobB_l, tagB_len, macB_len, fr1_len, fr2_len, fr3_len, LL] at * <;> omega))]
      conv => lhs; whnf
theorem sm4_all (ls : List (List UInt8)) (hn : ls.length ≤ 1000) : Y E0 (.call 54 [.sl (.sl .u8) ls] []) = some (.ret (.b (decide (∀ l ∈ ls, l.length ≤ 120))) []) := by
  have hl := sm4_loop ls hn ls.length 0 (by omega)
  rw [List.drop_zero, show ((0 : Nat) : Int) = 0 from rfl] at hl
  by_cases h : ∀ l ∈ ls, l.length ≤ 120
  · rw [if_pos h] at hl
    rw [decide_eq_true h]
    rw [Y_go]; conv => lhs; whnf
    dsimp (config := { iota := false, beta := false, eta := false, zeta := false }) only
    rw [toReq_loop]
    rw [hl]
    conv => lhs; whnf
  · rw [if_neg h] at hl
    rw [decide_eq_false h]
    rw [Y_go]; conv => lhs; whnf
    dsimp (config := { iota := false, beta := false, eta := false, zeta := false }) only
    rw [toReq_loop]
    rw [hl]
    conv => lhs; whnf
theorem ev_small4_1 (a : List UInt8) : Y E0 (.call 54 [.sl (.sl .u8) [a]] []) = some (.ret (.b (decide (a.length ≤ 120))) []) := by
  rw [sm4_all _ (by simp)]
  exact congrArg (fun b => some (Rsp.ret (AV.b b) [])) (decide_eq_decide.2 (by simp))
theorem ev_small4_3 (a b c : List UInt8) : Y E0 (.call 54 [.sl (.sl .u8) [a, b, c]] []) = some (.ret (.b (decide (a.length ≤ 120 ∧ b.length ≤ 120 ∧ c.length ≤ 120))) []) := by
  rw [sm4_all _ (by simp)]
  exact congrArg (fun b => some (Rsp.ret (AV.b b) [])) (decide_eq_decide.2 (by simp))
theorem ev_small4_4 (a b c d : List UInt8) : Y E0 (.call 54 [.sl (.sl .u8) [a, b, c, d]] []) = some (.ret (.b (decide (a.length ≤ 120 ∧ b.length ≤ 120 ∧ c.length ≤ 120 ∧ d.length ≤ 120))) []) := by
  rw [sm4_all _ (by simp)]
  exact congrArg (fun b => some (Rsp.ret (AV.b b) [])) (decide_eq_decide.2 (by simp))
theorem ev_small4_5 (a b c d e : List UInt8) : Y E0 (.call 54 [.sl (.sl .u8) [a, b, c, d, e]] []) = some (.ret (.b (decide (a.length ≤ 120 ∧ b.length ≤ 120 ∧ c.length ≤ 120 ∧ d.length ≤ 120 ∧ e.length ≤ 120))) []) := by
  rw [sm4_all _ (by simp)]
  exact congrArg (fun b => some (Rsp.ret (AV.b b) [])) (decide_eq_decide.2 (by simp))
theorem ev_small4_6 (a b c d e f : List UInt8) : Y E0 (.call 54 [.sl (.sl .u8) [a, b, c, d, e, f]] []) = some (.ret (.b (decide (a.length ≤ 120 ∧ b.length ≤ 120 ∧ c.length ≤ 120 ∧ d.length ≤ 120 ∧ e.length ≤ 120 ∧ f.length ≤ 120))) []) := by
  rw [sm4_all _ (by simp)]
  exact congrArg (fun b => some (Rsp.ret (AV.b b) [])) (decide_eq_decide.2 (by simp))
theorem ev_BoxSeal (key nonce ad plain : List UInt8) : Y E0 (.call 13 [.sl .u8 key, .sl .u8 nonce, .sl .u8 ad, .sl .u8 plain] []) = some (.ret (.b true) []) := by
  rw [Y_go]; conv => lhs; whnf
  dsimp (config := { iota := false, beta := false, eta := false, zeta := false }) only
  rw [toReq_call]
  rw [ev_awake4]
  conv => lhs; whnf
  rw [bnot_eq]; conv => lhs; whnf
  dsimp (config := { iota := false, beta := false, eta := false, zeta := false }) only
  rw [toReq_call]
  rw [ev_small4_4 _ _ _ _]
  conv => lhs; whnf
  rw [bnot_eq]; conv => lhs; whnf
  rcases Bool.eq_false_or_eq_true (decide (key.length ≤ 120 ∧ nonce.length ≤ 120 ∧ ad.length ≤ 120 ∧ plain.length ≤ 120)) with hc0 | hc0
  · rw [hc0]; replace hc0 := of_decide_eq_true hc0; try simp only at hc0
    conv => lhs; whnf
    dsimp (config := { iota := false, beta := false, eta := false, zeta := false }) only
    rw [toReq_call]
    rw [ev_seal _ _ _ _ (by omega) (by omega)]
    conv => lhs; whnf
    dsimp (config := { iota := false, beta := false, eta := false, zeta := false }) only
    rw [toReq_call]
    rw [ev_r4seal _ _ _ _ (by omega) (by omega)]
    conv => lhs; whnf
    dsimp (config := { iota := false, beta := false, eta := false, zeta := false }) only
    rw [toReq_call]
    rw [ev_same _ _ (Nat.le_trans (sealB_le _ _ _ _) (by omega)), decide_eq_true rfl]
    conv => lhs; whnf
  · rw [hc0]; replace hc0 := of_decide_eq_false hc0; try simp only at hc0
    conv => lhs; whnf
theorem ev_BoxTrip (key nonce ad plain : List UInt8) : Y E0 (.call 14 [.sl .u8 key, .sl .u8 nonce, .sl .u8 ad, .sl .u8 plain] []) = some (.ret (.b true) []) := by
  rw [Y_go]; conv => lhs; whnf
  dsimp (config := { iota := false, beta := false, eta := false, zeta := false }) only
  rw [toReq_call]
  rw [ev_awake4]
  conv => lhs; whnf
  rw [bnot_eq]; conv => lhs; whnf
  dsimp (config := { iota := false, beta := false, eta := false, zeta := false }) only
  rw [toReq_call]
  rw [ev_small4_4 _ _ _ _]
  conv => lhs; whnf
  rw [bnot_eq]; conv => lhs; whnf
  rcases Bool.eq_false_or_eq_true (decide (key.length ≤ 120 ∧ nonce.length ≤ 120 ∧ ad.length ≤ 120 ∧ plain.length ≤ 120)) with hc0 | hc0
  · rw [hc0]; replace hc0 := of_decide_eq_true hc0; try simp only at hc0
    conv => lhs; whnf
    rcases Bool.eq_false_or_eq_true (ilt 64 (llen nonce)) with hc1 | hc1
    · rw [hc1]; replace hc1 := of_ilt_t hc1; try simp only [llen_eq] at hc1
      conv => lhs; whnf
    · rw [hc1]; replace hc1 := of_ilt_f hc1; try simp only [llen_eq] at hc1
      conv => lhs; whnf
      dsimp (config := { iota := false, beta := false, eta := false, zeta := false }) only
      rw [toReq_call]
      rw [ev_seal _ _ _ _ (by omega) (by omega)]
      conv => lhs; whnf
      dsimp (config := { iota := false, beta := false, eta := false, zeta := false }) only
      rw [toReq_call]
      rw [ev_open _ _ _ (by omega) (by omega) (Nat.le_trans (sealB_le _ _ _ _) (by omega)), open_seal (by omega) (by omega)]
      conv => lhs; whnf
      dsimp (config := { iota := false, beta := false, eta := false, zeta := false }) only
      rw [ieq_t (by omega)]
      conv => lhs; whnf
      dsimp (config := { iota := false, beta := false, eta := false, zeta := false }) only
      rw [toReq_call]
      rw [ev_same _ _ (by omega)]
      conv => lhs; whnf
      simp
  · rw [hc0]; replace hc0 := of_decide_eq_false hc0; try simp only at hc0
    conv => lhs; whnf
theorem ev_BoxOpen_m2 (key ad raw b : List UInt8) (v : AV) (hv : v = .sl .u8 b ∨ v = .st .u8 b) (hk : key.length ≤ 120) (ha : ad.length ≤ 120) (hr : raw.length ≤ 120) (hb : b.length ≤ 50200) : Y E0 (.ops ⟨125, 15, 0⟩ [true, true, true, true, true, true, false] 0 [Fr.seq [true, true, true, true, true, true, true] 0, Fr.ret] 0 [(0, AV.sl Ty.u8 key), (2, AV.sl Ty.u8 ad), (4, AV.sl Ty.u8 raw), (17, v)] []) = some (.ret (.b true) []) := by
  rcases hv with rfl | rfl
  · rw [Y_go]; conv => lhs; whnf
    dsimp (config := { iota := false, beta := false, eta := false, zeta := false }) only
    rw [toReq_call]
    rw [ev_open key ad b (by omega) (by omega) (by omega)]
    conv => lhs; whnf
    dsimp (config := { iota := false, beta := false, eta := false, zeta := false }) only
    rw [toReq_call]
    rw [ev_r4open key ad b (by omega) (by omega) (by omega)]
    conv => lhs; whnf
    dsimp (config := { iota := false, beta := false, eta := false, zeta := false }) only
    rw [toReq_call]
    rw [ev_open key ad raw (by omega) (by omega) (by omega)]
    conv => lhs; whnf
    dsimp (config := { iota := false, beta := false, eta := false, zeta := false }) only
    rw [toReq_call]
    rw [ev_r4open key ad raw (by omega) (by omega) (by omega)]
    conv => lhs; whnf
    rw [ieq_t (by omega)]
    conv => lhs; whnf
    rw [ieq_t (by omega)]
    conv => lhs; whnf
    dsimp (config := { iota := false, beta := false, eta := false, zeta := false }) only
    rw [toReq_call]
    rw [ev_same _ _ (Nat.le_trans openB_len (by omega)), decide_eq_true rfl]
    conv => lhs; whnf
    dsimp (config := { iota := false, beta := false, eta := false, zeta := false }) only
    rw [toReq_call]
    rw [ev_same _ _ (Nat.le_trans openB_len (by omega)), decide_eq_true rfl]
    conv => lhs; whnf
  · rw [Y_go]; conv => lhs; whnf
    dsimp (config := { iota := false, beta := false, eta := false, zeta := false }) only
    rw [toReq_call]
    rw [ev_open key ad b (by omega) (by omega) (by omega)]
    conv => lhs; whnf
    dsimp (config := { iota := false, beta := false, eta := false, zeta := false }) only
    rw [toReq_call]
    rw [ev_r4open key ad b (by omega) (by omega) (by omega)]
    conv => lhs; whnf
    dsimp (config := { iota := false, beta := false, eta := false, zeta := false }) only
    rw [toReq_call]
    rw [ev_open key ad raw (by omega) (by omega) (by omega)]
    conv => lhs; whnf
    dsimp (config := { iota := false, beta := false, eta := false, zeta := false }) only
    rw [toReq_call]
    rw [ev_r4open key ad raw (by omega) (by omega) (by omega)]
    conv => lhs; whnf
    rw [ieq_t (by omega)]
    conv => lhs; whnf
    rw [ieq_t (by omega)]
    conv => lhs; whnf
    dsimp (config := { iota := false, beta := false, eta := false, zeta := false }) only
    rw [toReq_call]
    rw [ev_same _ _ (Nat.le_trans openB_len (by omega)), decide_eq_true rfl]
    conv => lhs; whnf
    dsimp (config := { iota := false, beta := false, eta := false, zeta := false }) only
    rw [toReq_call]
    rw [ev_same _ _ (Nat.le_trans openB_len (by omega)), decide_eq_true rfl]
    conv => lhs; whnf
theorem ev_BoxOpen_m1 (key ad raw b : List UInt8) (at' : Int) (whole : Bool) (hk : key.length ≤ 120) (ha : ad.length ≤ 120) (hr : raw.length ≤ 120) (hb : b.length ≤ 50000) : Y E0 (.ops ⟨125, 15, 0⟩ [true, true, true, true, true, false, false] 0 [Fr.seq [true, true, true, true, true, false, true] 0, Fr.seq [true, true, true, true, true, true] 0, Fr.ret] 0 [(0, AV.sl Ty.u8 key), (2, AV.sl Ty.u8 ad), (4, AV.sl Ty.u8 raw), (5, AV.i at'), (7, AV.b whole), (17, AV.sl Ty.u8 b)] []) = some (.ret (.b true) []) := by
  rw [Y_go]; conv => lhs; whnf
  rcases Bool.eq_false_or_eq_true (ile 0 at') with hc0 | hc0
  · rw [hc0]; replace hc0 := of_ile_t hc0; try simp only [llen_eq] at hc0
    conv => lhs; whnf
    rcases Bool.eq_false_or_eq_true (ile at' (llen b)) with hc1 | hc1
    · rw [hc1]; replace hc1 := of_ile_t hc1; try simp only [llen_eq] at hc1
      conv => lhs; whnf
      rw [bnot_eq]; conv => lhs; whnf
      rcases Bool.eq_false_or_eq_true (whole) with hc2 | hc2
      · rw [hc2]
        conv => lhs; whnf
        rw [ev_BoxOpen_m2 key ad raw b _ (.inl rfl) hk ha hr (by omega)]
      · rw [hc2]
        conv => lhs; whnf
        rw [ieq_t (by omega)]
        conv => lhs; whnf
        rw [lcut_0 (by omega)]
        conv => lhs; whnf
        rcases Bool.eq_false_or_eq_true (lemp raw) with hc3 | hc3
        · rw [hc3]; replace hc3 := of_lemp_t hc3; try simp only [llen_eq] at hc3
          conv => lhs; whnf
          rw [ev_BoxOpen_m2 key ad raw (List.take at'.toNat b) _ (.inr rfl) hk ha hr (by rw [List.length_take]; omega)]
        · rw [hc3]; replace hc3 := of_lemp_f hc3; try simp only [llen_eq] at hc3
          conv => lhs; whnf
          rw [fits_t (by (simp only [uintB_l2, uintB_l1, blobB_l, tagB_len, macB_len, fr1_len, fr2_len, fr3_len, LL] at * <;> omega))]
          conv => lhs; whnf
          rw [lapp_eq, ev_BoxOpen_m2 key ad raw (List.take at'.toNat b ++ raw) _ (.inl rfl) hk ha hr (by rw [List.length_append, List.length_take]; omega)]
    · rw [hc1]; replace hc1 := of_ile_f hc1; try simp only [llen_eq] at hc1
      conv => lhs; whnf
      rw [ev_BoxOpen_m2 key ad raw b _ (.inl rfl) hk ha hr (by omega)]
  · rw [hc0]; replace hc0 := of_ile_f hc0; try simp only [llen_eq] at hc0
    conv => lhs; whnf
    rw [ev_BoxOpen_m2 key ad raw b _ (.inl rfl) hk ha hr (by omega)]
theorem ev_BoxOpen (key nonce ad plain raw : List UInt8) (at' : Int) (x : UInt8) (whole : Bool) : Y E0 (.call 15 [.sl .u8 key, .sl .u8 nonce, .sl .u8 ad, .sl .u8 plain, .sl .u8 raw, .i at', .u8 x, .b whole] []) = some (.ret (.b true) []) := by
  have hl := sealB_le key nonce ad plain
  rw [Y_go]; conv => lhs; whnf
  dsimp (config := { iota := false, beta := false, eta := false, zeta := false }) only
  rw [toReq_call]
  rw [ev_awake4]
  conv => lhs; whnf
  rw [bnot_eq]; conv => lhs; whnf
  dsimp (config := { iota := false, beta := false, eta := false, zeta := false }) only
  rw [toReq_call]
  rw [ev_small4_5 _ _ _ _ _]
  conv => lhs; whnf
  rw [bnot_eq]; conv => lhs; whnf
  rcases Bool.eq_false_or_eq_true (decide (key.length ≤ 120 ∧ nonce.length ≤ 120 ∧ ad.length ≤ 120 ∧ plain.length ≤ 120 ∧ raw.length ≤ 120)) with hc0 | hc0
  · rw [hc0]; replace hc0 := of_decide_eq_true hc0; try simp only at hc0
    conv => lhs; whnf
    rcases Bool.eq_false_or_eq_true (ilt 64 (llen nonce)) with hc1 | hc1
    · rw [hc1]; replace hc1 := of_ilt_t hc1; try simp only [llen_eq] at hc1
      conv => lhs; whnf
    · rw [hc1]; replace hc1 := of_ilt_f hc1; try simp only [llen_eq] at hc1
      conv => lhs; whnf
      dsimp (config := { iota := false, beta := false, eta := false, zeta := false }) only
      rw [toReq_call]
      rw [ev_r4seal _ _ _ _ (by omega) (by omega)]
      conv => lhs; whnf
      rcases Bool.eq_false_or_eq_true (ile 0 at') with hc2 | hc2
      · rw [hc2]; replace hc2 := of_ile_t hc2; try simp only [llen_eq] at hc2
        conv => lhs; whnf
        rcases Bool.eq_false_or_eq_true (ilt at' (llen (sealB key nonce ad plain))) with hc3 | hc3
        · rw [hc3]; replace hc3 := of_ilt_t hc3; try simp only [llen_eq] at hc3
          conv => lhs; whnf
          rw [linb_t (by omega)]
          conv => lhs; whnf
          dsimp (config := { iota := false, beta := false, eta := false, zeta := false }) only
          rw [lget_i (by omega)]
          conv => lhs; whnf
          rw [linb_t (by omega)]
          conv => lhs; whnf
          rw [lget_i (by omega)]
          conv => lhs; whnf
          rw [ev_BoxOpen_m1 _ _ _ _ _ _ (by omega) (by omega) (by omega) (by first | omega | (rw [lset_eq, List.length_set]; omega))]
        · rw [hc3]; replace hc3 := of_ilt_f hc3; try simp only [llen_eq] at hc3
          conv => lhs; whnf
          rw [ev_BoxOpen_m1 _ _ _ _ _ _ (by omega) (by omega) (by omega) (by first | omega | (rw [lset_eq, List.length_set]; omega))]
      · rw [hc2]; replace hc2 := of_ile_f hc2; try simp only [llen_eq] at hc2
        conv => lhs; whnf
        rw [ev_BoxOpen_m1 _ _ _ _ _ _ (by omega) (by omega) (by omega) (by first | omega | (rw [lset_eq, List.length_set]; omega))]
  · rw [hc0]; replace hc0 := of_decide_eq_false hc0; try simp only at hc0
    conv => lhs; whnf
theorem ev_BoxKeys (key other nonce ad data plain : List UInt8) : Y E0 (.call 17 [.sl .u8 key, .sl .u8 other, .sl .u8 nonce, .sl .u8 ad, .sl .u8 data, .sl .u8 plain] []) = some (.ret (.b true) []) := by
  have hl := sealB_le key nonce ad plain
  by_cases hc : nonce.length ≤ 64 ∧ plain.length ≤ 120
  · have h1 := sealB_len (key := key) (ad := ad) (nonce := nonce) (plain := plain) (by omega) (by omega)
    have hs := strB_len (key := key) (nonce := nonce) (b := plain) (by omega)
    have hf : sealB key nonce ad plain = formB nonce (strB key nonce plain) (tagB key nonce ad (strB key nonce plain)) := by rw [sealB, if_neg (by omega)]
    have ho := open_form (key := other) (ad := data) (nonce := nonce) (c := strB key nonce plain) (t := tagB key nonce ad (strB key nonce plain)) (by omega) (by omega) (tagB_len _ _ _ _)
    have hmid := formB_mid (nonce := nonce) (c := strB key nonce plain) (t := tagB key nonce ad (strB key nonce plain)) (by omega) (by omega)
    have hdrop := formB_drop (nonce := nonce) (c := strB key nonce plain) (t := tagB key nonce ad (strB key nonce plain)) (by omega) (by omega)
    rw [← hf] at ho hmid hdrop
    have e1 : (4 + llen nonce).toNat = 4 + nonce.length := by rw [llen_eq]; omega
    have e2 : (llen (sealB key nonce ad plain) - 32 - (4 + llen nonce)).toNat = (strB key nonce plain).length := by rw [llen_eq, llen_eq]; omega
    have e3 : (llen (sealB key nonce ad plain) - 32).toNat = 4 + nonce.length + (strB key nonce plain).length := by rw [llen_eq]; omega
    have e4 : List.take (llen (sealB key nonce ad plain) - (llen (sealB key nonce ad plain) - 32)).toNat (List.drop (llen (sealB key nonce ad plain) - 32).toNat (sealB key nonce ad plain)) = tagB key nonce ad (strB key nonce plain) := by
      rw [e3, hdrop]; exact List.take_of_length_le (by rw [tagB_len, llen_eq]; omega)
    by_cases ht : tagB key nonce ad (strB key nonce plain) = tagB other nonce data (strB key nonce plain)
    · rw [if_pos ht] at ho
      rw [Y_go]; conv => lhs; whnf
      dsimp (config := { iota := false, beta := false, eta := false, zeta := false }) only
      rw [toReq_call]
      rw [ev_awake4]
      conv => lhs; whnf
      rw [bnot_eq]; conv => lhs; whnf
      dsimp (config := { iota := false, beta := false, eta := false, zeta := false }) only
      rw [toReq_call]
      rw [ev_small4_6 _ _ _ _ _ _]
      conv => lhs; whnf
      rw [bnot_eq]; conv => lhs; whnf
      rcases Bool.eq_false_or_eq_true (decide (key.length ≤ 120 ∧ other.length ≤ 120 ∧ nonce.length ≤ 120 ∧ ad.length ≤ 120 ∧ data.length ≤ 120 ∧ plain.length ≤ 120)) with hc0 | hc0
      · rw [hc0]; replace hc0 := of_decide_eq_true hc0; try simp only at hc0
        conv => lhs; whnf
        rw [ilt_f (by omega)]
        conv => lhs; whnf
        dsimp (config := { iota := false, beta := false, eta := false, zeta := false }) only
        rw [toReq_call]
        rw [ev_seal _ _ _ _ (by omega) (by omega)]
        conv => lhs; whnf
        rw [iadd_eq (by omega)]
        rw [ilt_f (by omega)]
        conv => lhs; whnf
        dsimp (config := { iota := false, beta := false, eta := false, zeta := false }) only
        rw [toReq_call]
        rw [ev_open _ _ _ (by omega) (by omega) (by omega), ho]
        conv => lhs; whnf
        dsimp (config := { iota := false, beta := false, eta := false, zeta := false }) only
        rw [iadd_eq (by omega)]
        rw [isub_eq (by omega)]
        rw [lcut_s (by omega)]
        conv => lhs; whnf
        dsimp (config := { iota := false, beta := false, eta := false, zeta := false }) only
        rw [toReq_call]
        rw [e1, e2, hmid, ev_r4tag _ _ _ _ (by omega) (by omega) (by omega) (by omega)]
        conv => lhs; whnf
        rw [isub_eq (by omega)]
        rw [lcut_s (by omega)]
        conv => lhs; whnf
        dsimp (config := { iota := false, beta := false, eta := false, zeta := false }) only
        rw [toReq_call]
        rw [e4, ev_same _ _ (by rw [tagB_len]; omega), decide_eq_true ht.symm]
        conv => lhs; whnf
        dsimp (config := { iota := false, beta := false, eta := false, zeta := false }) only
        rw [drw (by kernel_rfl)]; conv => lhs; whnf
        (congr 3; simp only [ieq_eq, ine_eq, ilt_eq, ile_eq, bnot_eq, and_eq, llen_eq]; first | rfl | (rw [decide_eq_decide]; omega) | (simp; omega))
      · rw [hc0]; replace hc0 := of_decide_eq_false hc0; try simp only at hc0
        conv => lhs; whnf
    · rw [if_neg ht] at ho
      rw [Y_go]; conv => lhs; whnf
      dsimp (config := { iota := false, beta := false, eta := false, zeta := false }) only
      rw [toReq_call]
      rw [ev_awake4]
      conv => lhs; whnf
      rw [bnot_eq]; conv => lhs; whnf
      dsimp (config := { iota := false, beta := false, eta := false, zeta := false }) only
      rw [toReq_call]
      rw [ev_small4_6 _ _ _ _ _ _]
      conv => lhs; whnf
      rw [bnot_eq]; conv => lhs; whnf
      rcases Bool.eq_false_or_eq_true (decide (key.length ≤ 120 ∧ other.length ≤ 120 ∧ nonce.length ≤ 120 ∧ ad.length ≤ 120 ∧ data.length ≤ 120 ∧ plain.length ≤ 120)) with hc0 | hc0
      · rw [hc0]; replace hc0 := of_decide_eq_true hc0; try simp only at hc0
        conv => lhs; whnf
        rw [ilt_f (by omega)]
        conv => lhs; whnf
        dsimp (config := { iota := false, beta := false, eta := false, zeta := false }) only
        rw [toReq_call]
        rw [ev_seal _ _ _ _ (by omega) (by omega)]
        conv => lhs; whnf
        rw [iadd_eq (by omega)]
        rw [ilt_f (by omega)]
        conv => lhs; whnf
        dsimp (config := { iota := false, beta := false, eta := false, zeta := false }) only
        rw [toReq_call]
        rw [ev_open _ _ _ (by omega) (by omega) (by omega), ho]
        conv => lhs; whnf
        dsimp (config := { iota := false, beta := false, eta := false, zeta := false }) only
        rw [iadd_eq (by omega)]
        rw [isub_eq (by omega)]
        rw [lcut_s (by omega)]
        conv => lhs; whnf
        dsimp (config := { iota := false, beta := false, eta := false, zeta := false }) only
        rw [toReq_call]
        rw [e1, e2, hmid, ev_r4tag _ _ _ _ (by omega) (by omega) (by omega) (by omega)]
        conv => lhs; whnf
        rw [isub_eq (by omega)]
        rw [lcut_s (by omega)]
        conv => lhs; whnf
        dsimp (config := { iota := false, beta := false, eta := false, zeta := false }) only
        rw [toReq_call]
        rw [e4, ev_same _ _ (by rw [tagB_len]; omega), decide_eq_false (fun e => ht e.symm)]
        conv => lhs; whnf
        dsimp (config := { iota := false, beta := false, eta := false, zeta := false }) only
        rw [drw (by kernel_rfl)]; conv => lhs; whnf
        (congr 3; simp only [ieq_eq, ine_eq, ilt_eq, ile_eq, bnot_eq, and_eq, llen_eq]; first | rfl | (rw [decide_eq_decide]; omega) | (simp; omega))
      · rw [hc0]; replace hc0 := of_decide_eq_false hc0; try simp only at hc0
        conv => lhs; whnf
  · rw [Y_go]; conv => lhs; whnf
    dsimp (config := { iota := false, beta := false, eta := false, zeta := false }) only
    rw [toReq_call]
    rw [ev_awake4]
    conv => lhs; whnf
    rw [bnot_eq]; conv => lhs; whnf
    dsimp (config := { iota := false, beta := false, eta := false, zeta := false }) only
    rw [toReq_call]
    rw [ev_small4_6 _ _ _ _ _ _]
    conv => lhs; whnf
    rw [bnot_eq]; conv => lhs; whnf
    rcases Bool.eq_false_or_eq_true (decide (key.length ≤ 120 ∧ other.length ≤ 120 ∧ nonce.length ≤ 120 ∧ ad.length ≤ 120 ∧ data.length ≤ 120 ∧ plain.length ≤ 120)) with hc0 | hc0
    · rw [hc0]; replace hc0 := of_decide_eq_true hc0; try simp only at hc0
      conv => lhs; whnf
      rw [ilt_t (by (simp only [uintB_l2, uintB_l1, blobB_l, tagB_len, macB_len, fr1_len, fr2_len, fr3_len, LL] at * <;> omega))]
      conv => lhs; whnf
    · rw [hc0]; replace hc0 := of_decide_eq_false hc0; try simp only at hc0
      conv => lhs; whnf
theorem ev_BoxLimits (key : List UInt8) (n m : Int) : Y E0 (.call 18 [.sl .u8 key, .i n, .i m] []) = some (.ret (.b true) []) := by
  by_cases hb : (0 ≤ n ∧ n ≤ 70) ∧ 1015 ≤ m ∧ m ≤ 1030
  · by_cases hc : n ≤ 64 ∧ m ≤ 1024
    · have h1 := sealB_len (key := key) (ad := []) (nonce := lrep n 0) (plain := lrep m 0) (by simp only [lrep_eq, List.length_replicate]; omega) (by simp only [lrep_eq, List.length_replicate]; omega)
      have ho := open_seal (key := key) (ad := []) (nonce := lrep n 0) (plain := lrep m 0) (by simp only [lrep_eq, List.length_replicate]; omega) (by simp only [lrep_eq, List.length_replicate]; omega)
      have l1 : (lrep n (0 : UInt8)).length = n.toNat := by rw [lrep_eq, List.length_replicate]
      have l2 : (lrep m (0 : UInt8)).length = m.toNat := by rw [lrep_eq, List.length_replicate]
      rw [Y_go]; conv => lhs; whnf
      dsimp (config := { iota := false, beta := false, eta := false, zeta := false }) only
      rw [toReq_call]
      rw [ev_awake4]
      conv => lhs; whnf
      rw [bnot_eq]; conv => lhs; whnf
      dsimp (config := { iota := false, beta := false, eta := false, zeta := false }) only
      rw [toReq_call]
      rw [ev_small4_1 _]
      conv => lhs; whnf
      rw [bnot_eq]; conv => lhs; whnf
      rcases Bool.eq_false_or_eq_true (decide (key.length ≤ 120)) with hc0 | hc0
      · rw [hc0]; replace hc0 := of_decide_eq_true hc0; try simp only at hc0
        conv => lhs; whnf
        rw [ilt_f (by omega)]
        conv => lhs; whnf
        rw [ilt_f (by omega)]
        conv => lhs; whnf
        rw [ilt_f (by omega)]
        conv => lhs; whnf
        rw [ilt_f (by omega)]
        conv => lhs; whnf
        rw [fitn_t (by omega)]
        conv => lhs; whnf
        rw [ieq_t (by omega)]
        conv => lhs; whnf
        rw [fitn_t (by omega)]
        conv => lhs; whnf
        rw [ieq_t (by omega)]
        conv => lhs; whnf
        dsimp (config := { iota := false, beta := false, eta := false, zeta := false }) only
        rw [toReq_call]
        rw [ev_seal _ _ _ _ (by omega) (by (simp only [uintB_l2, uintB_l1, blobB_l, tagB_len, macB_len, fr1_len, fr2_len, fr3_len, LL] at * <;> omega))]
        conv => lhs; whnf
        dsimp (config := { iota := false, beta := false, eta := false, zeta := false }) only
        rw [drw (by kernel_rfl)]; conv => lhs; whnf
        rw [ilt_f (by omega)]
        conv => lhs; whnf
        rw [Y_go]; conv => lhs; whnf
        rw [ilt_f (by omega)]
        conv => lhs; whnf
        dsimp (config := { iota := false, beta := false, eta := false, zeta := false }) only
        rw [toReq_call]
        rw [ev_open _ _ _ (by omega) (by simp) (by omega), ho]
        conv => lhs; whnf
        dsimp (config := { iota := false, beta := false, eta := false, zeta := false }) only
        rw [iadd_eq (a := 36) (b := n) (by omega)]
        rw [iadd_eq (by omega)]
        rw [ieq_t (by (simp only [uintB_l2, uintB_l1, blobB_l, tagB_len, macB_len, fr1_len, fr2_len, fr3_len, LL] at * <;> omega))]
        conv => lhs; whnf
        rw [ieq_t (by omega)]
        conv => lhs; whnf
        rw [fitn_t (by omega)]
        conv => lhs; whnf
        rw [ieq_t (by omega)]
        conv => lhs; whnf
        dsimp (config := { iota := false, beta := false, eta := false, zeta := false }) only
        rw [toReq_call]
        rw [ev_same _ _ (by omega), decide_eq_true rfl]
        conv => lhs; whnf
      · rw [hc0]; replace hc0 := of_decide_eq_false hc0; try simp only at hc0
        conv => lhs; whnf
    · have h1 : sealB key (lrep n 0) [] (lrep m 0) = [] := by rw [sealB, if_pos (by simp only [lrep_eq, List.length_replicate]; omega)]
      rw [Y_go]; conv => lhs; whnf
      dsimp (config := { iota := false, beta := false, eta := false, zeta := false }) only
      rw [toReq_call]
      rw [ev_awake4]
      conv => lhs; whnf
      rw [bnot_eq]; conv => lhs; whnf
      dsimp (config := { iota := false, beta := false, eta := false, zeta := false }) only
      rw [toReq_call]
      rw [ev_small4_1 _]
      conv => lhs; whnf
      rw [bnot_eq]; conv => lhs; whnf
      rcases Bool.eq_false_or_eq_true (decide (key.length ≤ 120)) with hc0 | hc0
      · rw [hc0]; replace hc0 := of_decide_eq_true hc0; try simp only at hc0
        conv => lhs; whnf
        rw [ilt_f (by omega)]
        conv => lhs; whnf
        rw [ilt_f (by omega)]
        conv => lhs; whnf
        rw [ilt_f (by omega)]
        conv => lhs; whnf
        rw [ilt_f (by omega)]
        conv => lhs; whnf
        rw [fitn_t (by omega)]
        conv => lhs; whnf
        rw [ieq_t (by omega)]
        conv => lhs; whnf
        rw [fitn_t (by omega)]
        conv => lhs; whnf
        rw [ieq_t (by omega)]
        conv => lhs; whnf
        dsimp (config := { iota := false, beta := false, eta := false, zeta := false }) only
        rw [toReq_call]
        rw [ev_seal _ _ _ _ (by omega) (by (simp only [uintB_l2, uintB_l1, blobB_l, tagB_len, macB_len, fr1_len, fr2_len, fr3_len, LL] at * <;> omega))]
        conv => lhs; whnf
        dsimp (config := { iota := false, beta := false, eta := false, zeta := false }) only
        rw [h1]; conv => lhs; whnf
        rw [drw (by kernel_rfl)]; conv => lhs; whnf
        rcases Bool.eq_false_or_eq_true (ilt 64 n) with hc1 | hc1
        · rw [hc1]; replace hc1 := of_ilt_t hc1; try simp only [llen_eq] at hc1
          conv => lhs; whnf
          rw [Y_go]; conv => lhs; whnf
          (congr 3; simp only [ieq_eq, ine_eq, ilt_eq, ile_eq, bnot_eq, and_eq, llen_eq]; first | rfl | (rw [decide_eq_decide]; omega) | (simp; omega))
        · rw [hc1]; replace hc1 := of_ilt_f hc1; try simp only [llen_eq] at hc1
          conv => lhs; whnf
          rw [Y_go]; conv => lhs; whnf
          rw [ilt_t (by omega)]
          conv => lhs; whnf
          (congr 3; simp only [ieq_eq, ine_eq, ilt_eq, ile_eq, bnot_eq, and_eq, llen_eq]; first | rfl | (rw [decide_eq_decide]; omega) | (simp; omega))
      · rw [hc0]; replace hc0 := of_decide_eq_false hc0; try simp only at hc0
        conv => lhs; whnf
  · rw [Y_go]; conv => lhs; whnf
    dsimp (config := { iota := false, beta := false, eta := false, zeta := false }) only
    rw [toReq_call]
    rw [ev_awake4]
    conv => lhs; whnf
    rw [bnot_eq]; conv => lhs; whnf
    dsimp (config := { iota := false, beta := false, eta := false, zeta := false }) only
    rw [toReq_call]
    rw [ev_small4_1 _]
    conv => lhs; whnf
    rw [bnot_eq]; conv => lhs; whnf
    rcases Bool.eq_false_or_eq_true (decide (key.length ≤ 120)) with hc0 | hc0
    · rw [hc0]; replace hc0 := of_decide_eq_true hc0; try simp only at hc0
      conv => lhs; whnf
      rcases Bool.eq_false_or_eq_true (ilt n 0) with hc1 | hc1
      · rw [hc1]; replace hc1 := of_ilt_t hc1; try simp only [llen_eq] at hc1
        conv => lhs; whnf
      · rw [hc1]; replace hc1 := of_ilt_f hc1; try simp only [llen_eq] at hc1
        conv => lhs; whnf
        rcases Bool.eq_false_or_eq_true (ilt 70 n) with hc2 | hc2
        · rw [hc2]; replace hc2 := of_ilt_t hc2; try simp only [llen_eq] at hc2
          conv => lhs; whnf
        · rw [hc2]; replace hc2 := of_ilt_f hc2; try simp only [llen_eq] at hc2
          conv => lhs; whnf
          rcases Bool.eq_false_or_eq_true (ilt m 1015) with hc3 | hc3
          · rw [hc3]; replace hc3 := of_ilt_t hc3; try simp only [llen_eq] at hc3
            conv => lhs; whnf
          · rw [hc3]; replace hc3 := of_ilt_f hc3; try simp only [llen_eq] at hc3
            conv => lhs; whnf
            rw [ilt_t (by omega)]
            conv => lhs; whnf
    · rw [hc0]; replace hc0 := of_decide_eq_false hc0; try simp only at hc0
      conv => lhs; whnf
theorem ev_BoxStream_loop (nonce a b X Z k : List UInt8) (ha : a.length ≤ 120) (hb : b.length = a.length) (hk : k.length = a.length) (hn : nonce.length ≤ 64)
    (hx : ∀ i, i < a.length → X[4 + nonce.length + i]? = some (a.getD i 0 ^^^ k.getD i 0)) (hz : ∀ i, i < a.length → Z[4 + nonce.length + i]? = some (b.getD i 0 ^^^ k.getD i 0)) :
    ∀ (n j : Nat), j + n = a.length → Y E0 (.loop 19 0 0 0 [(1, .sl .u8 nonce), (2, .sl .u8 a), (3, .sl .u8 b), (9, .sl .u8 X), (10, .sl .u8 Z), (11, .sl .u8 k), (12, .i (j : Int))] []) = some (.fin (.exit 0) 0 [] [])
  | 0, j, hj => by
    rw [Y_go]; conv => lhs; whnf
    rw [ilt_f (by (simp only [uintB_l2, uintB_l1, blobB_l, tagB_len, macB_len, fr1_len, fr2_len, fr3_len, LL] at * <;> omega))]
    conv => lhs; whnf
  | n + 1, j, hj => by
    have ih := ev_BoxStream_loop nonce a b X Z k ha hb hk hn hx hz n (j + 1) (by omega)
    have hgx : lget X (4 + llen nonce + (j : Int)) = some (a[j]'(by omega) ^^^ k[j]'(by omega)) := by
      rw [lget_s (a := a[j]'(by omega) ^^^ k[j]'(by omega)) (by rw [llen_eq]; omega)]
      rw [show (4 + llen nonce + (j : Int)).toNat = 4 + nonce.length + j from by rw [llen_eq]; omega, hx j (by omega)]
      simp [List.getD, List.getElem?_eq_getElem (show j < a.length by omega), List.getElem?_eq_getElem (show j < k.length by omega)]
    have hgz : lget Z (4 + llen nonce + (j : Int)) = some (b[j]'(by omega) ^^^ k[j]'(by omega)) := by
      rw [lget_s (a := b[j]'(by omega) ^^^ k[j]'(by omega)) (by rw [llen_eq]; omega)]
      rw [show (4 + llen nonce + (j : Int)).toNat = 4 + nonce.length + j from by rw [llen_eq]; omega, hz j (by omega)]
      simp [List.getD, List.getElem?_eq_getElem (show j < b.length by omega), List.getElem?_eq_getElem (show j < k.length by omega)]
    rw [Y_go]; conv => lhs; whnf
    rw [ilt_t (by (simp only [uintB_l2, uintB_l1, blobB_l, tagB_len, macB_len, fr1_len, fr2_len, fr3_len, LL] at * <;> omega))]
    conv => lhs; whnf
    rw [iadd_eq (a := 4) (b := llen nonce) (by (simp only [uintB_l2, uintB_l1, blobB_l, tagB_len, macB_len, fr1_len, fr2_len, fr3_len, LL] at * <;> omega))]
    rw [iadd_eq (by (simp only [uintB_l2, uintB_l1, blobB_l, tagB_len, macB_len, fr1_len, fr2_len, fr3_len, LL] at * <;> omega))]
    rw [hgx]; conv => lhs; whnf
    rw [lget_n (by omega)]
    conv => lhs; whnf
    rw [lget_n (by omega)]
    conv => lhs; whnf
    rw [u8cmp_neq, u8xor_eq, ine_f (by rfl)]; conv => lhs; whnf
    rw [iadd_eq (a := 4) (b := llen nonce) (by (simp only [uintB_l2, uintB_l1, blobB_l, tagB_len, macB_len, fr1_len, fr2_len, fr3_len, LL] at * <;> omega))]
    rw [iadd_eq (by (simp only [uintB_l2, uintB_l1, blobB_l, tagB_len, macB_len, fr1_len, fr2_len, fr3_len, LL] at * <;> omega))]
    rw [hgz]; conv => lhs; whnf
    rw [lget_n (by omega)]
    conv => lhs; whnf
    rw [lget_n (by omega)]
    conv => lhs; whnf
    rw [Y_go]; conv => lhs; whnf
    dsimp (config := { iota := false, beta := false, eta := false, zeta := false }) only
    rw [u8cmp_neq, u8xor_eq, ine_f (by rfl)]; conv => lhs; whnf
    rw [drw (by kernel_rfl)]; conv => lhs; whnf
    dsimp (config := { iota := false, beta := false, eta := false, zeta := false }) only
    rw [iadd_eq (by omega)]
    refine (congrArg (Y E0) ?_).trans ih; (try simp only [Rq.loop.injEq, Rq.call.injEq, Rq.ops.injEq, List.cons.injEq, Prod.mk.injEq, AV.i.injEq, AV.sl.injEq, AV.st.injEq, AV.b.injEq, AV.u8.injEq, AV.nm.injEq, Option.some.injEq, Rs.row.injEq, Rs.var.injEq, heq_eq_eq, true_and, and_true]); (try (repeat' apply And.intro)); all_goals first | (with_reducible rfl) | omega | (rw [iadd_eq (by omega)]; omega) | (rw [isub_eq (by omega)]; omega)
theorem ev_BoxStream (key nonce a b : List UInt8) : Y E0 (.call 19 [.sl .u8 key, .sl .u8 nonce, .sl .u8 a, .sl .u8 b] []) = some (.ret (.b true) []) := by
  by_cases hc : nonce.length ≤ 64 ∧ a.length ≤ 120 ∧ b.length = a.length
  · have d1 := derB_len0 (key := key) (label := encryptL) (ctx := nonce) (n := a.length) (by omega)
    have h1 := sealB_len (key := key) (ad := []) (nonce := nonce) (plain := a) (by omega) (by omega)
    have h2 := sealB_len (key := key) (ad := []) (nonce := nonce) (plain := b) (by omega) (by omega)
    have hl := ev_BoxStream_loop nonce a b (sealB key nonce [] a) (sealB key nonce [] b) (derB key encryptL nonce (a.length : Int)) (by omega) (by omega) d1 (by omega)
      (fun i hi => sealB_get (by omega) (by omega) hi) (fun i hi => by rw [sealB_get (by omega) (by omega) (by omega), hc.2.2]) a.length 0 (by omega)
    rw [show ((0 : Nat) : Int) = 0 from rfl] at hl
    rw [Y_go]; conv => lhs; whnf
    dsimp (config := { iota := false, beta := false, eta := false, zeta := false }) only
    rw [toReq_call]
    rw [ev_awake4]
    conv => lhs; whnf
    rw [bnot_eq]; conv => lhs; whnf
    dsimp (config := { iota := false, beta := false, eta := false, zeta := false }) only
    rw [toReq_call]
    rw [ev_small4_4 _ _ _ _]
    conv => lhs; whnf
    rw [bnot_eq]; conv => lhs; whnf
    rcases Bool.eq_false_or_eq_true (decide (key.length ≤ 120 ∧ nonce.length ≤ 120 ∧ a.length ≤ 120 ∧ b.length ≤ 120)) with hc0 | hc0
    · rw [hc0]; replace hc0 := of_decide_eq_true hc0; try simp only at hc0
      conv => lhs; whnf
      rw [ilt_f (by (simp only [uintB_l2, uintB_l1, blobB_l, tagB_len, macB_len, fr1_len, fr2_len, fr3_len, LL] at * <;> omega))]
      conv => lhs; whnf
      rw [ine_f (by (simp only [uintB_l2, uintB_l1, blobB_l, tagB_len, macB_len, fr1_len, fr2_len, fr3_len, LL] at * <;> omega))]
      conv => lhs; whnf
      rcases Bool.eq_false_or_eq_true (ieq (llen a) 0) with hc1 | hc1
      · rw [hc1]; replace hc1 := of_ieq_t hc1; try simp only [llen_eq] at hc1
        conv => lhs; whnf
      · rw [hc1]; replace hc1 := of_ieq_f hc1; try simp only [llen_eq] at hc1
        conv => lhs; whnf
        dsimp (config := { iota := false, beta := false, eta := false, zeta := false }) only
        rw [toReq_call]
        rw [ev_seal _ _ _ _ (by omega) (by (simp only [uintB_l2, uintB_l1, blobB_l, tagB_len, macB_len, fr1_len, fr2_len, fr3_len, LL] at * <;> omega))]
        conv => lhs; whnf
        dsimp (config := { iota := false, beta := false, eta := false, zeta := false }) only
        rw [toReq_call]
        rw [ev_seal _ _ _ _ (by omega) (by (simp only [uintB_l2, uintB_l1, blobB_l, tagB_len, macB_len, fr1_len, fr2_len, fr3_len, LL] at * <;> omega))]
        conv => lhs; whnf
        dsimp (config := { iota := false, beta := false, eta := false, zeta := false }) only
        rw [toReq_call]
        rw [show strOf { data := #[101, 110, 99, 114, 121, 112, 116] } = encryptL from rfl, ev_rderive _ _ _ _ (by omega) (by decide) (by omega), llen_eq]
        conv => lhs; whnf
        rw [Y_go]; conv => lhs; whnf
        rw [iadd_eq (a := 36) (b := llen nonce) (by (simp only [uintB_l2, uintB_l1, blobB_l, tagB_len, macB_len, fr1_len, fr2_len, fr3_len, LL] at * <;> omega))]
        rw [iadd_eq (by (simp only [uintB_l2, uintB_l1, blobB_l, tagB_len, macB_len, fr1_len, fr2_len, fr3_len, LL] at * <;> omega))]
        rw [ine_f (by (simp only [uintB_l2, uintB_l1, blobB_l, tagB_len, macB_len, fr1_len, fr2_len, fr3_len, LL] at * <;> omega))]
        conv => lhs; whnf
        rw [ine_f (by (simp only [uintB_l2, uintB_l1, blobB_l, tagB_len, macB_len, fr1_len, fr2_len, fr3_len, LL] at * <;> omega))]
        conv => lhs; whnf
        dsimp (config := { iota := false, beta := false, eta := false, zeta := false }) only
        rw [toReq_loop]
        rw [hl]
        conv => lhs; whnf
    · rw [hc0]; replace hc0 := of_decide_eq_false hc0; try simp only at hc0
      conv => lhs; whnf
  · rw [Y_go]; conv => lhs; whnf
    dsimp (config := { iota := false, beta := false, eta := false, zeta := false }) only
    rw [toReq_call]
    rw [ev_awake4]
    conv => lhs; whnf
    rw [bnot_eq]; conv => lhs; whnf
    dsimp (config := { iota := false, beta := false, eta := false, zeta := false }) only
    rw [toReq_call]
    rw [ev_small4_4 _ _ _ _]
    conv => lhs; whnf
    rw [bnot_eq]; conv => lhs; whnf
    rcases Bool.eq_false_or_eq_true (decide (key.length ≤ 120 ∧ nonce.length ≤ 120 ∧ a.length ≤ 120 ∧ b.length ≤ 120)) with hc0 | hc0
    · rw [hc0]; replace hc0 := of_decide_eq_true hc0; try simp only at hc0
      conv => lhs; whnf
      rcases Bool.eq_false_or_eq_true (ilt 64 (llen nonce)) with hc1 | hc1
      · rw [hc1]; replace hc1 := of_ilt_t hc1; try simp only [llen_eq] at hc1
        conv => lhs; whnf
      · rw [hc1]; replace hc1 := of_ilt_f hc1; try simp only [llen_eq] at hc1
        conv => lhs; whnf
        rw [ine_t (by (simp only [uintB_l2, uintB_l1, blobB_l, tagB_len, macB_len, fr1_len, fr2_len, fr3_len, LL] at * <;> omega))]
        conv => lhs; whnf
    · rw [hc0]; replace hc0 := of_decide_eq_false hc0; try simp only at hc0
      conv => lhs; whnf
end Go.Proofs.YtchdeeghccdphaaDoor
