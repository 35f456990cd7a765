/-
  Own texts, laid together for this claim: contracts of functions of the program and its references, used by the statements of this seat.
-/
import Derived.Test.YtfjcmolccckhhaaDoorMsa
set_option linter.all false

namespace Go.Proofs.YtfjcmolccckhhaaDoor
open Go Go.Ax Go.Eng
set_option linter.unusedVariables false
set_option linter.unusedSimpArgs false
attribute [local irreducible] iadd isub imul iquo irem ibit ineg ieq ine ilt ile ishl ishr beq' bnot and' seq' u8op u8rem u32op u64op u8shr u8shl u64shr u64shl u32shr u32shl i64w u8i u64i iu8 iu32 iu64 u8u64 u64u8 u32u8 u64cmp u8cmp u32cmp llen lget linb lset lcut lrep lapp lcpy lemp fits fitn ieqs sealed drawChk fpSame
set_option maxHeartbeats 1000000
set_option maxRecDepth 100000
theorem ev_valid (l : Int) : Y E0 (.call 83 [.i l] []) = some (.ret (.b (decide (0 ≤ l ∧ l ≤ 255))) []) := by
  rw [Y_go]; conv => lhs; whnf
  rcases Bool.eq_false_or_eq_true (ile 0 l) with hc0 | hc0
  · rw [hc0]; replace hc0 := of_ile_t hc0; try simp only [llen_eq] at hc0
    conv => lhs; whnf
    (congr 3; simp only [ieq_eq, ine_eq, ilt_eq, ile_eq, bnot_eq, and_eq, llen_eq]; first | rfl | (rw [decide_eq_decide]; omega) | (simp; omega))
  · rw [hc0]; replace hc0 := of_ile_f hc0; try simp only [llen_eq] at hc0
    conv => lhs; whnf
    (rw [decide_eq_false (by omega)])
theorem ev_P_1 (leaf c : Int) (seed : List UInt8) (hx : seed.length ≤ 1000000) : Y E0 (.call 119 [.i c, .pa 0 0, .pa 1 0] [.var [.sl .u8 seed], .var [.i leaf]]) = some (.ret (.sl .u8 (firstB seed leaf c)) [some (.var [.sl .u8 seed]), some (.var [.i leaf])]) := by
  rw [Y_go]; conv => lhs; whnf
  rw [toReq_call]
  rw [ev_first _ _ _ (by omega)]
  conv => lhs; whnf
theorem ev_S_1 (leaf c : Int) (seed : List UInt8) (hx : seed.length ≤ 1000000) : Y E0 (.call 109 [.i c, .pa 0 0, .pa 1 0] [.var [.sl .u8 seed], .var [.i leaf]]) = some (.ret (.sl .u8 (firstB seed leaf c)) [some (.var [.sl .u8 seed]), some (.var [.i leaf])]) := by
  rw [Y_go]; conv => lhs; whnf
  rw [toReq_call]
  rw [ev_first _ _ _ (by omega)]
  conv => lhs; whnf
theorem ev_P_2 (c : Int) : Y E0 (.call 120 [.i c] []) = some (.ret (.i 0) []) := by
  rw [Y_go]; conv => lhs; whnf
theorem ev_P_3 (c : Int) : Y E0 (.call 121 [.i c] []) = some (.ret (.i 15) []) := by
  rw [Y_go]; conv => lhs; whnf
theorem ev_S_2 (c : Int) : Y E0 (.call 111 [.i c] []) = some (.ret (.i 0) []) := by
  rw [Y_go]; conv => lhs; whnf
theorem ev_R_3 (c : Int) : Y E0 (.call 89 [.i c] []) = some (.ret (.i 15) []) := by
  rw [Y_go]; conv => lhs; whnf
theorem ev_S_3 (c : Nat) (d : List Int) (hc : c < d.length) : Y E0 (.call 112 [.i c, .pa 0 0] [.var [.sl .i64 d]]) = some (.ret (.i d[c]) [some (.var [.sl .i64 d])]) := by
  rw [Y_go]; conv => lhs; whnf
  rw [lget_n (by omega)]
  conv => lhs; whnf
theorem ev_R_2 (c : Nat) (d : List Int) (hc : c < d.length) : Y E0 (.call 88 [.i c, .pa 0 0] [.var [.sl .i64 d]]) = some (.ret (.i d[c]) [some (.var [.sl .i64 d])]) := by
  rw [Y_go]; conv => lhs; whnf
  rw [lget_n (by omega)]
  conv => lhs; whnf
theorem ev_R_1 (c : Nat) (s : List UInt8) (hc : c < 35) (hs : s.length = 560) : Y E0 (.call 85 [.i c, .pa 0 0] [.var [.sl .u8 s]]) = some (.ret (.sl .u8 ((s.drop (16 * c)).take 16)) [some (.var [.sl .u8 s])]) := by
  have hct : lcut s (imul c 16) (imul (iadd c 1) 16) = some ((s.drop (16 * c)).take 16) := by
    rw [iadd_eq (by omega), imul_eq (by omega), imul_eq (by omega), lcut_s (by omega), show ((c : Int) * 16).toNat = 16 * c from by omega, show (((c : Int) + 1) * 16 - (c : Int) * 16).toNat = 16 from by omega]
  rw [Y_go]; conv => lhs; whnf
  rw [imul_eq (by omega)]
  rw [iadd_eq (by omega)]
  rw [imul_eq (by omega)]
  rw [lcut_s (by omega)]
  conv => lhs; whnf
  rw [show ((c : Int) * 16).toNat = 16 * c from by omega, show (((c : Int) + 1) * 16 - (c : Int) * 16).toNat = 16 from by omega]
theorem ev_walk_p_in (leaf : Int) (seed : List UInt8) (hx : seed.length ≤ 1000000) (acc : List UInt8) (c : Nat) (hc : c < 35) (ha : acc.length ≤ 1000) : ∀ (k : Nat) (q : Int) (x : List UInt8), 0 ≤ q → ((15 : Int) - q).toNat = k → x.length ≤ 1000000 →
    Y E0 (.loop 87 1 2 3 [(0, .i leaf), (1, AV.fn 119 [] [.pa 0 0, .pa 1 0]), (2, AV.fn 120 [] []), (3, AV.fn 121 [] []), (9, .nm 2), (10, .i c), (11, .sl .u8 x), (12, .i q), (13, .i c)] [(0, some (Rs.var [.sl .u8 seed])), (1, some (Rs.var [.i leaf])), (2, some (.row 5 .u8 acc))]) = some (.fin (.exit 2) 3 [(0, .i leaf), (1, AV.fn 119 [] [.pa 0 0, .pa 1 0]), (2, AV.fn 120 [] []), (3, AV.fn 121 [] []), (9, .nm 2), (11, .sl .u8 (stepsB k leaf c q x)), (13, .i c)] [(0, some (Rs.var [.sl .u8 seed])), (1, some (Rs.var [.i leaf])), (2, some (.row 5 .u8 acc))])
  | 0, q, x, h0, hk, hx' => by
    rw [Y_go]; conv => lhs; whnf
    rw [toReq_call]
    rw [ev_P_3 _]
    conv => lhs; whnf
    rw [ilt_f (by omega)]
    conv => lhs; whnf
    rfl
  | k + 1, q, x, h0, hk, hx' => by
    have ih := ev_walk_p_in leaf seed hx acc c hc ha k (q + 1) (stepB leaf c q x) (by omega) (by omega) (by rw [stepB_len]; omega)
    rw [Y_go]; conv => lhs; whnf
    rw [toReq_call]
    rw [ev_P_3 _]
    conv => lhs; whnf
    rw [ilt_t (by omega)]
    conv => lhs; whnf
    rw [toReq_call]
    rw [ev_next _ _ _ _ (by omega)]
    conv => lhs; whnf
    rw [iadd_eq (by omega)]
    refine (congrArg (Y E0) ?_).trans ih; (try simp only [Rq.loop.injEq, Rq.call.injEq, Rq.ops.injEq, List.cons.injEq, Prod.mk.injEq, AV.i.injEq, AV.sl.injEq, AV.st.injEq, AV.b.injEq, AV.u8.injEq, AV.nm.injEq, Option.some.injEq, Rs.row.injEq, Rs.var.injEq, heq_eq_eq, true_and, and_true]); (try (repeat' apply And.intro)); all_goals first | (with_reducible rfl) | omega | (rw [iadd_eq (by omega)]; omega) | (rw [isub_eq (by omega)]; omega)
theorem ev_walk_p_loop (leaf : Int) (seed : List UInt8) (hx : seed.length ≤ 1000000) : ∀ (k c : Nat) (acc : List UInt8), c + k = 35 → acc = walkB leaf (fun c => firstB seed leaf c) (fun c => (0 : Int)) (fun c => (15 : Int)) c → acc.length ≤ 16 * c →
    Y E0 (.loop 87 0 2 3 [(0, .i leaf), (1, AV.fn 119 [] [.pa 0 0, .pa 1 0]), (2, AV.fn 120 [] []), (3, AV.fn 121 [] []), (9, .nm 2), (13, .i c)] [(0, some (Rs.var [.sl .u8 seed])), (1, some (Rs.var [.i leaf])), (2, some (.row 5 .u8 acc))]) = some (.fin (.exit 0) 2 [(9, .sl .u8 (walkB leaf (fun c => firstB seed leaf c) (fun c => (0 : Int)) (fun c => (15 : Int)) 35))] [(0, some (Rs.var [.sl .u8 seed])), (1, some (Rs.var [.i leaf]))])
  | 0, c, acc, hc, he, ha => by
    obtain rfl : c = 35 := by omega
    rw [← he]
    rw [Y_go]; conv => lhs; whnf
    rw [ilt_f (by omega)]
    conv => lhs; whnf
  | k + 1, c, acc, hc, he, ha => by
    have hin := ev_walk_p_in leaf seed hx acc c (by omega) (by omega)
    have hst : (firstB seed leaf c).length = 16 := by exact firstB_len _ _ _
    have hsl := stepsB_16 ((15 : Int) - (0 : Int)).toNat leaf c ((0 : Int)) _ hst
    have ih := ev_walk_p_loop leaf seed hx k (c + 1) (acc ++ stepsB ((15 : Int) - (0 : Int)).toNat leaf c ((0 : Int)) (firstB seed leaf c)) (by omega) (by rw [walkB_succ, ← he]) (by rw [List.length_append, hsl]; omega)
    rw [show ((c + 1 : Nat) : Int) = (c : Int) + 1 from by omega] at ih
    rw [Y_go]; conv => lhs; whnf
    rw [ilt_t (by omega)]
    conv => lhs; whnf
    rw [toReq_call]
    rw [ev_P_1 _ _ _ (by omega)]
    conv => lhs; whnf
    rw [toReq_call]
    rw [ev_P_2 _]
    conv => lhs; whnf
    rw [toReq_loop]
    rw [hin _ _ _ (by omega) rfl (by omega)]
    conv => lhs; whnf
    rw [fits_t (by (simp only [sha256_len, msgH_len, digs_len, stepB_len, firstB_len, LL] at * <;> omega))]
    conv => lhs; whnf
    rw [iadd_eq (by omega)]
    refine (congrArg (Y E0) ?_).trans ih; (try simp only [Rq.loop.injEq, Rq.call.injEq, Rq.ops.injEq, List.cons.injEq, Prod.mk.injEq, AV.i.injEq, AV.sl.injEq, AV.st.injEq, AV.b.injEq, AV.u8.injEq, AV.nm.injEq, Option.some.injEq, Rs.row.injEq, Rs.var.injEq, heq_eq_eq, true_and, and_true]); (try (repeat' apply And.intro)); all_goals first | (with_reducible rfl) | omega | (rw [iadd_eq (by omega)]; omega) | (rw [isub_eq (by omega)]; omega) | (rw [lapp_eq]; done) | (rw [lapp_eq]; rfl)
theorem ev_walk_p (leaf : Int) (seed : List UInt8) (hx : seed.length ≤ 1000000) : Y E0 (.call 87 [.i leaf, AV.fn 119 [] [.pa 0 0, .pa 1 0], AV.fn 120 [] [], AV.fn 121 [] []] [Rs.var [.sl .u8 seed], Rs.var [.i leaf]]) = some (.ret (.sl .u8 (walkB leaf (fun c => firstB seed leaf c) (fun c => (0 : Int)) (fun c => (15 : Int)) 35)) [some (Rs.var [.sl .u8 seed]), some (Rs.var [.i leaf])]) := by
  have h0 := ev_walk_p_loop leaf seed hx 35 0 [] (by omega) rfl (by simp)
  rw [show ((0 : Nat) : Int) = 0 from rfl] at h0
  rw [Y_go]; conv => lhs; whnf
  rw [toReq_loop]
  exact h0 ▸ rfl
theorem ev_walk_s_in (leaf : Int) (seed : List UInt8) (d : List Int) (hx : seed.length ≤ 1000000) (hd : d.length = 35) (hdb : ∀ x ∈ d, 0 ≤ x ∧ x ≤ 15) (acc : List UInt8) (c : Nat) (hc : c < 35) (ha : acc.length ≤ 1000) : ∀ (k : Nat) (q : Int) (x : List UInt8), 0 ≤ q → (d.getD c 0 - q).toNat = k → x.length ≤ 1000000 →
    Y E0 (.loop 87 1 3 4 [(0, .i leaf), (1, AV.fn 109 [] [.pa 0 0, .pa 1 0]), (2, AV.fn 111 [] []), (3, AV.fn 112 [] [.pa 2 0]), (9, .nm 3), (10, .i c), (11, .sl .u8 x), (12, .i q), (13, .i c)] [(0, some (Rs.var [.sl .u8 seed])), (1, some (Rs.var [.i leaf])), (2, some (Rs.var [.sl .i64 d])), (3, some (.row 5 .u8 acc))]) = some (.fin (.exit 2) 4 [(0, .i leaf), (1, AV.fn 109 [] [.pa 0 0, .pa 1 0]), (2, AV.fn 111 [] []), (3, AV.fn 112 [] [.pa 2 0]), (9, .nm 3), (11, .sl .u8 (stepsB k leaf c q x)), (13, .i c)] [(0, some (Rs.var [.sl .u8 seed])), (1, some (Rs.var [.i leaf])), (2, some (Rs.var [.sl .i64 d])), (3, some (.row 5 .u8 acc))])
  | 0, q, x, h0, hk, hx' => by
    have hdc := hdb _ (List.getElem_mem (l := d) (n := c) (by omega))
    have hgd : d.getD c 0 = d[c]'(by omega) := by simp [List.getD, show c < d.length by omega]
    rw [Y_go]; conv => lhs; whnf
    rw [toReq_call]
    rw [ev_S_3 _ _ (by omega)]
    conv => lhs; whnf
    rw [ilt_f (by omega)]
    conv => lhs; whnf
    rfl
  | k + 1, q, x, h0, hk, hx' => by
    have hdc := hdb _ (List.getElem_mem (l := d) (n := c) (by omega))
    have hgd : d.getD c 0 = d[c]'(by omega) := by simp [List.getD, show c < d.length by omega]
    have ih := ev_walk_s_in leaf seed d hx hd hdb acc c hc ha k (q + 1) (stepB leaf c q x) (by omega) (by omega) (by rw [stepB_len]; omega)
    rw [Y_go]; conv => lhs; whnf
    rw [toReq_call]
    rw [ev_S_3 _ _ (by omega)]
    conv => lhs; whnf
    rw [ilt_t (by omega)]
    conv => lhs; whnf
    rw [toReq_call]
    rw [ev_next _ _ _ _ (by omega)]
    conv => lhs; whnf
    rw [iadd_eq (by omega)]
    refine (congrArg (Y E0) ?_).trans ih; (try simp only [Rq.loop.injEq, Rq.call.injEq, Rq.ops.injEq, List.cons.injEq, Prod.mk.injEq, AV.i.injEq, AV.sl.injEq, AV.st.injEq, AV.b.injEq, AV.u8.injEq, AV.nm.injEq, Option.some.injEq, Rs.row.injEq, Rs.var.injEq, heq_eq_eq, true_and, and_true]); (try (repeat' apply And.intro)); all_goals first | (with_reducible rfl) | omega | (rw [iadd_eq (by omega)]; omega) | (rw [isub_eq (by omega)]; omega)
theorem ev_walk_s_loop (leaf : Int) (seed : List UInt8) (d : List Int) (hx : seed.length ≤ 1000000) (hd : d.length = 35) (hdb : ∀ x ∈ d, 0 ≤ x ∧ x ≤ 15) : ∀ (k c : Nat) (acc : List UInt8), c + k = 35 → acc = walkB leaf (fun c => firstB seed leaf c) (fun c => (0 : Int)) (fun c => d.getD c 0) c → acc.length ≤ 16 * c →
    Y E0 (.loop 87 0 3 4 [(0, .i leaf), (1, AV.fn 109 [] [.pa 0 0, .pa 1 0]), (2, AV.fn 111 [] []), (3, AV.fn 112 [] [.pa 2 0]), (9, .nm 3), (13, .i c)] [(0, some (Rs.var [.sl .u8 seed])), (1, some (Rs.var [.i leaf])), (2, some (Rs.var [.sl .i64 d])), (3, some (.row 5 .u8 acc))]) = some (.fin (.exit 0) 3 [(9, .sl .u8 (walkB leaf (fun c => firstB seed leaf c) (fun c => (0 : Int)) (fun c => d.getD c 0) 35))] [(0, some (Rs.var [.sl .u8 seed])), (1, some (Rs.var [.i leaf])), (2, some (Rs.var [.sl .i64 d]))])
  | 0, c, acc, hc, he, ha => by
    obtain rfl : c = 35 := by omega
    rw [← he]
    rw [Y_go]; conv => lhs; whnf
    rw [ilt_f (by omega)]
    conv => lhs; whnf
  | k + 1, c, acc, hc, he, ha => by
    have hdc := hdb _ (List.getElem_mem (l := d) (n := c) (by omega))
    have hgd : d.getD c 0 = d[c]'(by omega) := by simp [List.getD, show c < d.length by omega]
    have hin := ev_walk_s_in leaf seed d hx hd hdb acc c (by omega) (by omega)
    have hst : (firstB seed leaf c).length = 16 := by exact firstB_len _ _ _
    have hsl := stepsB_16 (d.getD c 0 - (0 : Int)).toNat leaf c ((0 : Int)) _ hst
    have ih := ev_walk_s_loop leaf seed d hx hd hdb k (c + 1) (acc ++ stepsB (d.getD c 0 - (0 : Int)).toNat leaf c ((0 : Int)) (firstB seed leaf c)) (by omega) (by rw [walkB_succ, ← he]) (by rw [List.length_append, hsl]; omega)
    rw [show ((c + 1 : Nat) : Int) = (c : Int) + 1 from by omega] at ih
    rw [Y_go]; conv => lhs; whnf
    rw [ilt_t (by omega)]
    conv => lhs; whnf
    rw [toReq_call]
    rw [ev_S_1 _ _ _ (by omega)]
    conv => lhs; whnf
    rw [toReq_call]
    rw [ev_S_2 _]
    conv => lhs; whnf
    rw [toReq_loop]
    rw [hin _ _ _ (by omega) rfl (by omega)]
    conv => lhs; whnf
    rw [fits_t (by (simp only [sha256_len, msgH_len, digs_len, stepB_len, firstB_len, LL] at * <;> omega))]
    conv => lhs; whnf
    rw [iadd_eq (by omega)]
    refine (congrArg (Y E0) ?_).trans ih; (try simp only [Rq.loop.injEq, Rq.call.injEq, Rq.ops.injEq, List.cons.injEq, Prod.mk.injEq, AV.i.injEq, AV.sl.injEq, AV.st.injEq, AV.b.injEq, AV.u8.injEq, AV.nm.injEq, Option.some.injEq, Rs.row.injEq, Rs.var.injEq, heq_eq_eq, true_and, and_true]); (try (repeat' apply And.intro)); all_goals first | (with_reducible rfl) | omega | (rw [iadd_eq (by omega)]; omega) | (rw [isub_eq (by omega)]; omega) | (rw [lapp_eq]; done) | (rw [lapp_eq]; rfl)
theorem ev_walk_s (leaf : Int) (seed : List UInt8) (d : List Int) (hx : seed.length ≤ 1000000) (hd : d.length = 35) (hdb : ∀ x ∈ d, 0 ≤ x ∧ x ≤ 15) : Y E0 (.call 87 [.i leaf, AV.fn 109 [] [.pa 0 0, .pa 1 0], AV.fn 111 [] [], AV.fn 112 [] [.pa 2 0]] [Rs.var [.sl .u8 seed], Rs.var [.i leaf], Rs.var [.sl .i64 d]]) = some (.ret (.sl .u8 (walkB leaf (fun c => firstB seed leaf c) (fun c => (0 : Int)) (fun c => d.getD c 0) 35)) [some (Rs.var [.sl .u8 seed]), some (Rs.var [.i leaf]), some (Rs.var [.sl .i64 d])]) := by
  have h0 := ev_walk_s_loop leaf seed d hx hd hdb 35 0 [] (by omega) rfl (by simp)
  rw [show ((0 : Nat) : Int) = 0 from rfl] at h0
  rw [Y_go]; conv => lhs; whnf
  rw [toReq_loop]
  exact h0 ▸ rfl
theorem ev_walk_r_in (leaf : Int) (sig : List UInt8) (d : List Int) (hx : sig.length = 560) (hd : d.length = 35) (hdb : ∀ x ∈ d, 0 ≤ x ∧ x ≤ 15) (acc : List UInt8) (c : Nat) (hc : c < 35) (ha : acc.length ≤ 1000) : ∀ (k : Nat) (q : Int) (x : List UInt8), 0 ≤ q → ((15 : Int) - q).toNat = k → x.length ≤ 1000000 →
    Y E0 (.loop 87 1 2 3 [(0, .i leaf), (1, AV.fn 85 [] [.pa 0 0]), (2, AV.fn 88 [] [.pa 1 0]), (3, AV.fn 89 [] []), (9, .nm 2), (10, .i c), (11, .sl .u8 x), (12, .i q), (13, .i c)] [(0, some (Rs.var [.sl .u8 sig])), (1, some (Rs.var [.sl .i64 d])), (2, some (.row 5 .u8 acc))]) = some (.fin (.exit 2) 3 [(0, .i leaf), (1, AV.fn 85 [] [.pa 0 0]), (2, AV.fn 88 [] [.pa 1 0]), (3, AV.fn 89 [] []), (9, .nm 2), (11, .sl .u8 (stepsB k leaf c q x)), (13, .i c)] [(0, some (Rs.var [.sl .u8 sig])), (1, some (Rs.var [.sl .i64 d])), (2, some (.row 5 .u8 acc))])
  | 0, q, x, h0, hk, hx' => by
    have hdc := hdb _ (List.getElem_mem (l := d) (n := c) (by omega))
    have hgd : d.getD c 0 = d[c]'(by omega) := by simp [List.getD, show c < d.length by omega]
    have hct : lcut sig (imul c 16) (imul (iadd c 1) 16) = some ((sig.drop (16 * c)).take 16) := by
      rw [iadd_eq (by omega), imul_eq (by omega), imul_eq (by omega), lcut_s (by omega), show ((c : Int) * 16).toNat = 16 * c from by omega, show (((c : Int) + 1) * 16 - (c : Int) * 16).toNat = 16 from by omega]
    rw [Y_go]; conv => lhs; whnf
    rw [toReq_call]
    rw [ev_R_3 _]
    conv => lhs; whnf
    rw [ilt_f (by omega)]
    conv => lhs; whnf
    rfl
  | k + 1, q, x, h0, hk, hx' => by
    have hdc := hdb _ (List.getElem_mem (l := d) (n := c) (by omega))
    have hgd : d.getD c 0 = d[c]'(by omega) := by simp [List.getD, show c < d.length by omega]
    have hct : lcut sig (imul c 16) (imul (iadd c 1) 16) = some ((sig.drop (16 * c)).take 16) := by
      rw [iadd_eq (by omega), imul_eq (by omega), imul_eq (by omega), lcut_s (by omega), show ((c : Int) * 16).toNat = 16 * c from by omega, show (((c : Int) + 1) * 16 - (c : Int) * 16).toNat = 16 from by omega]
    have ih := ev_walk_r_in leaf sig d hx hd hdb acc c hc ha k (q + 1) (stepB leaf c q x) (by omega) (by omega) (by rw [stepB_len]; omega)
    rw [Y_go]; conv => lhs; whnf
    rw [toReq_call]
    rw [ev_R_3 _]
    conv => lhs; whnf
    rw [ilt_t (by omega)]
    conv => lhs; whnf
    rw [toReq_call]
    rw [ev_next _ _ _ _ (by omega)]
    conv => lhs; whnf
    rw [iadd_eq (by omega)]
    refine (congrArg (Y E0) ?_).trans ih; (try simp only [Rq.loop.injEq, Rq.call.injEq, Rq.ops.injEq, List.cons.injEq, Prod.mk.injEq, AV.i.injEq, AV.sl.injEq, AV.st.injEq, AV.b.injEq, AV.u8.injEq, AV.nm.injEq, Option.some.injEq, Rs.row.injEq, Rs.var.injEq, heq_eq_eq, true_and, and_true]); (try (repeat' apply And.intro)); all_goals first | (with_reducible rfl) | omega | (rw [iadd_eq (by omega)]; omega) | (rw [isub_eq (by omega)]; omega)
theorem ev_walk_r_loop (leaf : Int) (sig : List UInt8) (d : List Int) (hx : sig.length = 560) (hd : d.length = 35) (hdb : ∀ x ∈ d, 0 ≤ x ∧ x ≤ 15) : ∀ (k c : Nat) (acc : List UInt8), c + k = 35 → acc = walkB leaf (fun c => (sig.drop (16 * c)).take 16) (fun c => d.getD c 0) (fun c => (15 : Int)) c → acc.length ≤ 16 * c →
    Y E0 (.loop 87 0 2 3 [(0, .i leaf), (1, AV.fn 85 [] [.pa 0 0]), (2, AV.fn 88 [] [.pa 1 0]), (3, AV.fn 89 [] []), (9, .nm 2), (13, .i c)] [(0, some (Rs.var [.sl .u8 sig])), (1, some (Rs.var [.sl .i64 d])), (2, some (.row 5 .u8 acc))]) = some (.fin (.exit 0) 2 [(9, .sl .u8 (walkB leaf (fun c => (sig.drop (16 * c)).take 16) (fun c => d.getD c 0) (fun c => (15 : Int)) 35))] [(0, some (Rs.var [.sl .u8 sig])), (1, some (Rs.var [.sl .i64 d]))])
  | 0, c, acc, hc, he, ha => by
    obtain rfl : c = 35 := by omega
    rw [← he]
    rw [Y_go]; conv => lhs; whnf
    rw [ilt_f (by omega)]
    conv => lhs; whnf
  | k + 1, c, acc, hc, he, ha => by
    have hdc := hdb _ (List.getElem_mem (l := d) (n := c) (by omega))
    have hgd : d.getD c 0 = d[c]'(by omega) := by simp [List.getD, show c < d.length by omega]
    have hct : lcut sig (imul c 16) (imul (iadd c 1) 16) = some ((sig.drop (16 * c)).take 16) := by
      rw [iadd_eq (by omega), imul_eq (by omega), imul_eq (by omega), lcut_s (by omega), show ((c : Int) * 16).toNat = 16 * c from by omega, show (((c : Int) + 1) * 16 - (c : Int) * 16).toNat = 16 from by omega]
    have hin := ev_walk_r_in leaf sig d hx hd hdb acc c (by omega) (by omega)
    have hst : ((sig.drop (16 * c)).take 16).length = 16 := by simp; omega
    have hsl := stepsB_16 ((15 : Int) - d.getD c 0).toNat leaf c (d.getD c 0) _ hst
    have ih := ev_walk_r_loop leaf sig d hx hd hdb k (c + 1) (acc ++ stepsB ((15 : Int) - d.getD c 0).toNat leaf c (d.getD c 0) ((sig.drop (16 * c)).take 16)) (by omega) (by rw [walkB_succ, ← he]) (by rw [List.length_append, hsl]; omega)
    rw [show ((c + 1 : Nat) : Int) = (c : Int) + 1 from by omega] at ih
    rw [hgd] at ih
    rw [hgd] at hsl
    rw [Y_go]; conv => lhs; whnf
    rw [ilt_t (by omega)]
    conv => lhs; whnf
    rw [toReq_call]
    rw [ev_R_1 _ _ (by omega) (by omega)]
    conv => lhs; whnf
    rw [toReq_call]
    rw [ev_R_2 _ _ (by omega)]
    conv => lhs; whnf
    rw [toReq_loop]
    rw [hin _ _ _ (by omega) rfl (by omega)]
    conv => lhs; whnf
    rw [fits_t (by (simp only [sha256_len, msgH_len, digs_len, stepB_len, firstB_len, LL] at * <;> omega))]
    conv => lhs; whnf
    rw [iadd_eq (by omega)]
    refine (congrArg (Y E0) ?_).trans ih; (try simp only [Rq.loop.injEq, Rq.call.injEq, Rq.ops.injEq, List.cons.injEq, Prod.mk.injEq, AV.i.injEq, AV.sl.injEq, AV.st.injEq, AV.b.injEq, AV.u8.injEq, AV.nm.injEq, Option.some.injEq, Rs.row.injEq, Rs.var.injEq, heq_eq_eq, true_and, and_true]); (try (repeat' apply And.intro)); all_goals first | (with_reducible rfl) | omega | (rw [iadd_eq (by omega)]; omega) | (rw [isub_eq (by omega)]; omega) | (rw [lapp_eq]; done) | (rw [lapp_eq]; rfl)
theorem ev_walk_r (leaf : Int) (sig : List UInt8) (d : List Int) (hx : sig.length = 560) (hd : d.length = 35) (hdb : ∀ x ∈ d, 0 ≤ x ∧ x ≤ 15) : Y E0 (.call 87 [.i leaf, AV.fn 85 [] [.pa 0 0], AV.fn 88 [] [.pa 1 0], AV.fn 89 [] []] [Rs.var [.sl .u8 sig], Rs.var [.sl .i64 d]]) = some (.ret (.sl .u8 (walkB leaf (fun c => (sig.drop (16 * c)).take 16) (fun c => d.getD c 0) (fun c => (15 : Int)) 35)) [some (Rs.var [.sl .u8 sig]), some (Rs.var [.sl .i64 d])]) := by
  have h0 := ev_walk_r_loop leaf sig d hx hd hdb 35 0 [] (by omega) rfl (by simp)
  rw [show ((0 : Nat) : Int) = 0 from rfl] at h0
  rw [Y_go]; conv => lhs; whnf
  rw [toReq_loop]
  exact h0 ▸ rfl
theorem ev_public (leaf : Int) (seed : List UInt8) (hx : seed.length ≤ 1000000) : Y E0 (.call 108 [.sl .u8 seed, .i leaf] []) = some (.ret (.sl .u8 (publicB seed leaf)) []) := by
  rw [Y_go]; conv => lhs; whnf
  rw [toReq_call]
  rw [ev_valid _]
  conv => lhs; whnf
  rw [bnot_eq]; conv => lhs; whnf
  rcases Bool.eq_false_or_eq_true (decide (0 ≤ leaf ∧ leaf ≤ 255)) with hc0 | hc0
  · rw [hc0]; replace hc0 := of_decide_eq_true hc0; try simp only at hc0
    conv => lhs; whnf
    rw [toReq_call]
    rw [ev_walk_p _ _ (by omega)]
    conv => lhs; whnf
    rw [fpSame_t (by rfl)]; conv => lhs; whnf
    rw [toReq_call]
    rw [ev_value _ _ (by rw [walkB_len _ _ _ _ 35 (fun c _ => firstB_len _ _ _) 35 (Nat.le_refl _)]; omega)]
    conv => lhs; whnf
    rw [drw (by kernel_rfl)]; conv => lhs; whnf
    unfold publicB; (repeat (first | rw [if_pos (by first | omega | decide | assumption | (simp only [sha256_len, msgH_len, digs_len, stepB_len, firstB_len, LL] at * <;> omega) | (simp; omega))] | rw [if_neg (by first | omega | decide | assumption | (simp only [sha256_len, msgH_len, digs_len, stepB_len, firstB_len, LL] at * <;> omega) | (simp; omega))])); try simp only [NO]
  · rw [hc0]; replace hc0 := of_decide_eq_false hc0; try simp only at hc0
    conv => lhs; whnf
    unfold publicB; (repeat (first | rw [if_pos (by first | omega | decide | assumption | (simp only [sha256_len, msgH_len, digs_len, stepB_len, firstB_len, LL] at * <;> omega) | (simp; omega))] | rw [if_neg (by first | omega | decide | assumption | (simp only [sha256_len, msgH_len, digs_len, stepB_len, firstB_len, LL] at * <;> omega) | (simp; omega))])); try simp only [NO]
theorem ev_sign (leaf : Int) (seed m : List UInt8) (hx : seed.length ≤ 1000000) (hm : m.length ≤ 1000000) : Y E0 (.call 74 [.sl .u8 seed, .i leaf, .sl .u8 m] []) = some (.ret (.sl .u8 (signB seed leaf m)) []) := by
  rw [Y_go]; conv => lhs; whnf
  rw [toReq_call]
  rw [ev_valid _]
  conv => lhs; whnf
  rw [bnot_eq]; conv => lhs; whnf
  rcases Bool.eq_false_or_eq_true (decide (0 ≤ leaf ∧ leaf ≤ 255)) with hc0 | hc0
  · rw [hc0]; replace hc0 := of_decide_eq_true hc0; try simp only at hc0
    conv => lhs; whnf
    rw [toReq_call]
    rw [ev_digits _ (by omega)]
    conv => lhs; whnf
    rw [toReq_call]
    rw [ev_walk_s leaf seed (digB m) hx (digB_len m) (digB_mem m)]
    conv => lhs; whnf
    rw [fpSame_t (by rfl)]; conv => lhs; whnf
    unfold signB; (repeat (first | rw [if_pos (by first | omega | decide | assumption | (simp only [sha256_len, msgH_len, digs_len, stepB_len, firstB_len, LL] at * <;> omega) | (simp; omega))] | rw [if_neg (by first | omega | decide | assumption | (simp only [sha256_len, msgH_len, digs_len, stepB_len, firstB_len, LL] at * <;> omega) | (simp; omega))])); try simp only [NO]
  · rw [hc0]; replace hc0 := of_decide_eq_false hc0; try simp only at hc0
    conv => lhs; whnf
    unfold signB; (repeat (first | rw [if_pos (by first | omega | decide | assumption | (simp only [sha256_len, msgH_len, digs_len, stepB_len, firstB_len, LL] at * <;> omega) | (simp; omega))] | rw [if_neg (by first | omega | decide | assumption | (simp only [sha256_len, msgH_len, digs_len, stepB_len, firstB_len, LL] at * <;> omega) | (simp; omega))])); try simp only [NO]
theorem ev_recover (leaf : Int) (m s : List UInt8) (hx : m.length ≤ 1000000) : Y E0 (.call 48 [.i leaf, .sl .u8 m, .sl .u8 s] []) = some (.ret (.tup [.sl .u8 (recB leaf m s).1, .b (recB leaf m s).2]) []) := by
  rw [Y_go]; conv => lhs; whnf
  rw [toReq_call]
  rw [ev_valid _]
  conv => lhs; whnf
  rw [bnot_eq]; conv => lhs; whnf
  rcases Bool.eq_false_or_eq_true (decide (0 ≤ leaf ∧ leaf ≤ 255)) with hc0 | hc0
  · rw [hc0]; replace hc0 := of_decide_eq_true hc0; try simp only at hc0
    conv => lhs; whnf
    rcases Bool.eq_false_or_eq_true (ine (llen s) 560) with hc1 | hc1
    · rw [hc1]; replace hc1 := of_ine_t hc1; try simp only [llen_eq] at hc1
      conv => lhs; whnf
      unfold recB; (repeat (first | rw [if_pos (by first | omega | decide | assumption | (simp only [sha256_len, msgH_len, digs_len, stepB_len, firstB_len, LL] at * <;> omega) | (simp; omega))] | rw [if_neg (by first | omega | decide | assumption | (simp only [sha256_len, msgH_len, digs_len, stepB_len, firstB_len, LL] at * <;> omega) | (simp; omega))])); try simp only [NO]
    · rw [hc1]; replace hc1 := of_ine_f hc1; try simp only [llen_eq] at hc1
      conv => lhs; whnf
      rw [toReq_call]
      rw [ev_digits _ (by omega)]
      conv => lhs; whnf
      rw [toReq_call]
      rw [ev_walk_r leaf s (digB m) (by omega) (digB_len m) (digB_mem m)]
      conv => lhs; whnf
      rw [fpSame_t (by rfl)]; conv => lhs; whnf
      rw [toReq_call]
      rw [ev_value _ _ (by rw [walkB_len _ _ _ _ 35 (fun c hc => by simp; omega) 35 (Nat.le_refl _)]; omega)]
      conv => lhs; whnf
      unfold recB; (repeat (first | rw [if_pos (by first | omega | decide | assumption | (simp only [sha256_len, msgH_len, digs_len, stepB_len, firstB_len, LL] at * <;> omega) | (simp; omega))] | rw [if_neg (by first | omega | decide | assumption | (simp only [sha256_len, msgH_len, digs_len, stepB_len, firstB_len, LL] at * <;> omega) | (simp; omega))])); try simp only [NO]
  · rw [hc0]; replace hc0 := of_decide_eq_false hc0; try simp only at hc0
    conv => lhs; whnf
    unfold recB; (repeat (first | rw [if_pos (by first | omega | decide | assumption | (simp only [sha256_len, msgH_len, digs_len, stepB_len, firstB_len, LL] at * <;> omega) | (simp; omega))] | rw [if_neg (by first | omega | decide | assumption | (simp only [sha256_len, msgH_len, digs_len, stepB_len, firstB_len, LL] at * <;> omega) | (simp; omega))])); try simp only [NO]
theorem ev_rpublic_loop (leaf : Int) (seed : List UInt8) (hx : seed.length ≤ 1000000) : ∀ (k c : Nat) (acc : List UInt8), c + k = 35 → acc = walkB leaf (fun c => firstB seed leaf c) (fun c => (0 : Int)) (fun c => (15 : Int)) c → acc.length ≤ 16 * c →
    Y E0 (.loop 79 0 0 1 [(0, .sl .u8 seed), (1, .i leaf), (5, .nm 0), (6, .i c)] [(0, some (.row 5 .u8 acc))]) = some (.fin (.exit 0) 0 [(1, .i leaf), (5, .sl .u8 (walkB leaf (fun c => firstB seed leaf c) (fun c => (0 : Int)) (fun c => (15 : Int)) 35))] [])
  | 0, c, acc, hc, he, ha => by
    obtain rfl : c = 35 := by omega
    rw [← he]
    rw [Y_go]; conv => lhs; whnf
    rw [ilt_f (by omega)]
    conv => lhs; whnf
  | k + 1, c, acc, hc, he, ha => by
    have hst : (firstB seed leaf c).length = 16 := by exact firstB_len _ _ _
    have hsl := stepsB_16 ((15 : Int) - (0 : Int)).toNat leaf c ((0 : Int)) _ hst
    have ih := ev_rpublic_loop leaf seed hx k (c + 1) (acc ++ stepsB ((15 : Int) - (0 : Int)).toNat leaf c ((0 : Int)) (firstB seed leaf c)) (by omega) (by rw [walkB_succ, ← he]) (by rw [List.length_append, hsl]; omega)
    rw [show ((c + 1 : Nat) : Int) = (c : Int) + 1 from by omega] at ih
    skip
    rw [Y_go]; conv => lhs; whnf
    rw [ilt_t (by omega)]
    conv => lhs; whnf
    rw [toReq_call]
    rw [ev_rstart _ _ _ (by omega)]
    conv => lhs; whnf
    rw [toReq_call]
    rw [ev_rsteps _ _ _ _ _ (by omega) (by omega) (by omega)]
    conv => lhs; whnf
    rw [fits_t (by (simp only [sha256_len, msgH_len, digs_len, stepB_len, firstB_len, LL] at * <;> omega))]
    conv => lhs; whnf
    rw [iadd_eq (by omega)]
    refine (congrArg (Y E0) ?_).trans ih; (try simp only [Rq.loop.injEq, Rq.call.injEq, Rq.ops.injEq, List.cons.injEq, Prod.mk.injEq, AV.i.injEq, AV.sl.injEq, AV.st.injEq, AV.b.injEq, AV.u8.injEq, AV.nm.injEq, Option.some.injEq, Rs.row.injEq, Rs.var.injEq, heq_eq_eq, true_and, and_true]); (try (repeat' apply And.intro)); all_goals first | (with_reducible rfl) | omega | (rw [iadd_eq (by omega)]; omega) | (rw [isub_eq (by omega)]; omega) | (rw [lapp_eq]; done) | (rw [lapp_eq]; rfl)
theorem ev_rsign_loop (leaf : Int) (seed : List UInt8) (d : List Int) (hx : seed.length ≤ 1000000) (hd : d.length = 35) (hdb : ∀ x ∈ d, 0 ≤ x ∧ x ≤ 15) : ∀ (k c : Nat) (acc : List UInt8), c + k = 35 → acc = walkB leaf (fun c => firstB seed leaf c) (fun c => (0 : Int)) (fun c => d.getD c 0) c → acc.length ≤ 16 * c →
    Y E0 (.loop 44 0 0 1 [(0, .sl .u8 seed), (1, .i leaf), (7, .sl .i64 d), (8, .nm 0), (9, .i c)] [(0, some (.row 5 .u8 acc))]) = some (.fin (.exit 0) 1 [(8, .nm 0)] [(0, some (.row 5 .u8 (walkB leaf (fun c => firstB seed leaf c) (fun c => (0 : Int)) (fun c => d.getD c 0) 35)))])
  | 0, c, acc, hc, he, ha => by
    obtain rfl : c = 35 := by omega
    rw [← he]
    rw [Y_go]; conv => lhs; whnf
    rw [ilt_f (by omega)]
    conv => lhs; whnf
  | k + 1, c, acc, hc, he, ha => by
    have hdc := hdb _ (List.getElem_mem (l := d) (n := c) (by omega))
    have hgd : d.getD c 0 = d[c]'(by omega) := by simp [List.getD, show c < d.length by omega]
    have hst : (firstB seed leaf c).length = 16 := by exact firstB_len _ _ _
    have hsl := stepsB_16 (d.getD c 0 - (0 : Int)).toNat leaf c ((0 : Int)) _ hst
    have ih := ev_rsign_loop leaf seed d hx hd hdb k (c + 1) (acc ++ stepsB (d.getD c 0 - (0 : Int)).toNat leaf c ((0 : Int)) (firstB seed leaf c)) (by omega) (by rw [walkB_succ, ← he]) (by rw [List.length_append, hsl]; omega)
    rw [show ((c + 1 : Nat) : Int) = (c : Int) + 1 from by omega] at ih
    rw [hgd] at ih hsl
    rw [Y_go]; conv => lhs; whnf
    rw [ilt_t (by omega)]
    conv => lhs; whnf
    rw [lget_n (by omega)]
    conv => lhs; whnf
    rw [toReq_call]
    rw [ev_rstart _ _ _ (by omega)]
    conv => lhs; whnf
    rw [toReq_call]
    rw [ev_rsteps _ _ _ _ _ (by omega) (by omega) (by omega)]
    conv => lhs; whnf
    rw [fits_t (by (simp only [sha256_len, msgH_len, digs_len, stepB_len, firstB_len, LL] at * <;> omega))]
    conv => lhs; whnf
    rw [drw (by kernel_rfl)]; conv => lhs; whnf
    rw [iadd_eq (by omega)]
    refine (congrArg (Y E0) ?_).trans ih; (try simp only [Rq.loop.injEq, Rq.call.injEq, Rq.ops.injEq, List.cons.injEq, Prod.mk.injEq, AV.i.injEq, AV.sl.injEq, AV.st.injEq, AV.b.injEq, AV.u8.injEq, AV.nm.injEq, Option.some.injEq, Rs.row.injEq, Rs.var.injEq, heq_eq_eq, true_and, and_true]); (try (repeat' apply And.intro)); all_goals first | (with_reducible rfl) | omega | (rw [iadd_eq (by omega)]; omega) | (rw [isub_eq (by omega)]; omega) | (rw [lapp_eq]; done) | (rw [lapp_eq]; rfl)
theorem ev_rrecover_loop (leaf : Int) (sig : List UInt8) (d : List Int) (hx : sig.length = 560) (hd : d.length = 35) (hdb : ∀ x ∈ d, 0 ≤ x ∧ x ≤ 15) : ∀ (k c : Nat) (acc : List UInt8), c + k = 35 → acc = walkB leaf (fun c => (sig.drop (16 * c)).take 16) (fun c => d.getD c 0) (fun c => (15 : Int)) c → acc.length ≤ 16 * c →
    Y E0 (.loop 50 0 0 1 [(0, .i leaf), (2, .sl .u8 sig), (8, .sl .i64 d), (9, .nm 0), (10, .i c)] [(0, some (.row 5 .u8 acc))]) = some (.fin (.exit 0) 0 [(0, .i leaf), (9, .sl .u8 (walkB leaf (fun c => (sig.drop (16 * c)).take 16) (fun c => d.getD c 0) (fun c => (15 : Int)) 35))] [])
  | 0, c, acc, hc, he, ha => by
    obtain rfl : c = 35 := by omega
    rw [← he]
    rw [Y_go]; conv => lhs; whnf
    rw [ilt_f (by omega)]
    conv => lhs; whnf
  | k + 1, c, acc, hc, he, ha => by
    have hdc := hdb _ (List.getElem_mem (l := d) (n := c) (by omega))
    have hgd : d.getD c 0 = d[c]'(by omega) := by simp [List.getD, show c < d.length by omega]
    have hct : lcut sig (16 * (c : Int)) (16 * (c : Int) + 16) = some ((sig.drop (16 * c)).take 16) := by
      rw [lcut_s (by omega), show (16 * (c : Int)).toNat = 16 * c from by omega, show (16 * (c : Int) + 16 - 16 * (c : Int)).toNat = 16 from by omega]
    have hst : ((sig.drop (16 * c)).take 16).length = 16 := by simp; omega
    have hsl := stepsB_16 ((15 : Int) - d.getD c 0).toNat leaf c (d.getD c 0) _ hst
    have ih := ev_rrecover_loop leaf sig d hx hd hdb k (c + 1) (acc ++ stepsB ((15 : Int) - d.getD c 0).toNat leaf c (d.getD c 0) ((sig.drop (16 * c)).take 16)) (by omega) (by rw [walkB_succ, ← he]) (by rw [List.length_append, hsl]; omega)
    rw [show ((c + 1 : Nat) : Int) = (c : Int) + 1 from by omega] at ih
    rw [hgd] at ih hsl
    rw [Y_go]; conv => lhs; whnf
    rw [ilt_t (by omega)]
    conv => lhs; whnf
    rw [lget_n (by omega)]
    conv => lhs; whnf
    rw [imul_eq (by omega)]
    rw [iadd_eq (by omega)]
    rw [hct]; conv => lhs; whnf
    rw [toReq_call]
    rw [ev_rsteps _ _ _ _ _ (by omega) (by omega) (by omega)]
    conv => lhs; whnf
    rw [fits_t (by (simp only [sha256_len, msgH_len, digs_len, stepB_len, firstB_len, LL] at * <;> omega))]
    conv => lhs; whnf
    rw [drw (by kernel_rfl)]; conv => lhs; whnf
    rw [iadd_eq (by omega)]
    refine (congrArg (Y E0) ?_).trans ih; (try simp only [Rq.loop.injEq, Rq.call.injEq, Rq.ops.injEq, List.cons.injEq, Prod.mk.injEq, AV.i.injEq, AV.sl.injEq, AV.st.injEq, AV.b.injEq, AV.u8.injEq, AV.nm.injEq, Option.some.injEq, Rs.row.injEq, Rs.var.injEq, heq_eq_eq, true_and, and_true]); (try (repeat' apply And.intro)); all_goals first | (with_reducible rfl) | omega | (rw [iadd_eq (by omega)]; omega) | (rw [isub_eq (by omega)]; omega) | (rw [lapp_eq]; done) | (rw [lapp_eq]; rfl)
theorem ev_rpublic (leaf : Int) (seed : List UInt8) (hx : seed.length ≤ 1000000) : Y E0 (.call 79 [.sl .u8 seed, .i leaf] []) = some (.ret (.sl .u8 (publicB seed leaf)) []) := by
  have h0 := ev_rpublic_loop leaf seed hx 35 0 [] (by omega) rfl (by simp)
  rw [show ((0 : Nat) : Int) = 0 from rfl] at h0
  rw [Y_go]; conv => lhs; whnf
  rcases Bool.eq_false_or_eq_true (ilt leaf 0) with hc0 | hc0
  · rw [hc0]; replace hc0 := of_ilt_t hc0; try simp only [llen_eq] at hc0
    conv => lhs; whnf
    unfold publicB; (repeat (first | rw [if_pos (by first | omega | decide | assumption | (simp only [sha256_len, msgH_len, digs_len, stepB_len, firstB_len, LL] at * <;> omega) | (simp; omega))] | rw [if_neg (by first | omega | decide | assumption | (simp only [sha256_len, msgH_len, digs_len, stepB_len, firstB_len, LL] at * <;> omega) | (simp; omega))])); try simp only [NO]
  · rw [hc0]; replace hc0 := of_ilt_f hc0; try simp only [llen_eq] at hc0
    conv => lhs; whnf
    rcases Bool.eq_false_or_eq_true (ilt 255 leaf) with hc1 | hc1
    · rw [hc1]; replace hc1 := of_ilt_t hc1; try simp only [llen_eq] at hc1
      conv => lhs; whnf
      unfold publicB; (repeat (first | rw [if_pos (by first | omega | decide | assumption | (simp only [sha256_len, msgH_len, digs_len, stepB_len, firstB_len, LL] at * <;> omega) | (simp; omega))] | rw [if_neg (by first | omega | decide | assumption | (simp only [sha256_len, msgH_len, digs_len, stepB_len, firstB_len, LL] at * <;> omega) | (simp; omega))])); try simp only [NO]
    · rw [hc1]; replace hc1 := of_ilt_f hc1; try simp only [llen_eq] at hc1
      conv => lhs; whnf
      rw [toReq_loop]
      rw [h0]
      conv => lhs; whnf
      rw [toReq_call]
      rw [ev_rvalue _ _ (by rw [walkB_len _ _ _ _ 35 (fun c _ => firstB_len _ _ _) 35 (Nat.le_refl _)]; omega)]
      conv => lhs; whnf
      unfold publicB; (repeat (first | rw [if_pos (by first | omega | decide | assumption | (simp only [sha256_len, msgH_len, digs_len, stepB_len, firstB_len, LL] at * <;> omega) | (simp; omega))] | rw [if_neg (by first | omega | decide | assumption | (simp only [sha256_len, msgH_len, digs_len, stepB_len, firstB_len, LL] at * <;> omega) | (simp; omega))])); try simp only [NO]
theorem ev_rsign (leaf : Int) (seed m : List UInt8) (hx : seed.length ≤ 1000000) (hm : m.length ≤ 1000000) : Y E0 (.call 44 [.sl .u8 seed, .i leaf, .sl .u8 m] []) = some (.ret (.nm 0) [some (.row 5 .u8 (signB seed leaf m))]) := by
  have h0 := ev_rsign_loop leaf seed (digB m) hx (digB_len m) (digB_mem m) 35 0 [] (by omega) rfl (by simp)
  rw [show ((0 : Nat) : Int) = 0 from rfl] at h0
  rw [Y_go]; conv => lhs; whnf
  rcases Bool.eq_false_or_eq_true (ilt leaf 0) with hc0 | hc0
  · rw [hc0]; replace hc0 := of_ilt_t hc0; try simp only [llen_eq] at hc0
    conv => lhs; whnf
    unfold signB; (repeat (first | rw [if_pos (by first | omega | decide | assumption | (simp only [sha256_len, msgH_len, digs_len, stepB_len, firstB_len, LL] at * <;> omega) | (simp; omega))] | rw [if_neg (by first | omega | decide | assumption | (simp only [sha256_len, msgH_len, digs_len, stepB_len, firstB_len, LL] at * <;> omega) | (simp; omega))])); try simp only [NO]
  · rw [hc0]; replace hc0 := of_ilt_f hc0; try simp only [llen_eq] at hc0
    conv => lhs; whnf
    rcases Bool.eq_false_or_eq_true (ilt 255 leaf) with hc1 | hc1
    · rw [hc1]; replace hc1 := of_ilt_t hc1; try simp only [llen_eq] at hc1
      conv => lhs; whnf
      unfold signB; (repeat (first | rw [if_pos (by first | omega | decide | assumption | (simp only [sha256_len, msgH_len, digs_len, stepB_len, firstB_len, LL] at * <;> omega) | (simp; omega))] | rw [if_neg (by first | omega | decide | assumption | (simp only [sha256_len, msgH_len, digs_len, stepB_len, firstB_len, LL] at * <;> omega) | (simp; omega))])); try simp only [NO]
    · rw [hc1]; replace hc1 := of_ilt_f hc1; try simp only [llen_eq] at hc1
      conv => lhs; whnf
      rw [toReq_call]
      rw [ev_rdigits _ (by omega)]
      conv => lhs; whnf
      rw [toReq_loop]
      rw [h0]
      conv => lhs; whnf
      unfold signB; (repeat (first | rw [if_pos (by first | omega | decide | assumption | (simp only [sha256_len, msgH_len, digs_len, stepB_len, firstB_len, LL] at * <;> omega) | (simp; omega))] | rw [if_neg (by first | omega | decide | assumption | (simp only [sha256_len, msgH_len, digs_len, stepB_len, firstB_len, LL] at * <;> omega) | (simp; omega))])); try simp only [NO]
theorem ev_rrecover (leaf : Int) (m s : List UInt8) (hx : m.length ≤ 1000000) : Y E0 (.call 50 [.i leaf, .sl .u8 m, .sl .u8 s] []) = some (.ret (.tup [.sl .u8 (recB leaf m s).1, .b (recB leaf m s).2]) []) := by
  have h0 := fun h => ev_rrecover_loop leaf s (digB m) h (digB_len m) (digB_mem m) 35 0 [] (by omega) rfl (by simp)
  rw [show ((0 : Nat) : Int) = 0 from rfl] at h0
  rw [Y_go]; conv => lhs; whnf
  rcases Bool.eq_false_or_eq_true (ilt leaf 0) with hc0 | hc0
  · rw [hc0]; replace hc0 := of_ilt_t hc0; try simp only [llen_eq] at hc0
    conv => lhs; whnf
    unfold recB; (repeat (first | rw [if_pos (by first | omega | decide | assumption | (simp only [sha256_len, msgH_len, digs_len, stepB_len, firstB_len, LL] at * <;> omega) | (simp; omega))] | rw [if_neg (by first | omega | decide | assumption | (simp only [sha256_len, msgH_len, digs_len, stepB_len, firstB_len, LL] at * <;> omega) | (simp; omega))])); try simp only [NO]
  · rw [hc0]; replace hc0 := of_ilt_f hc0; try simp only [llen_eq] at hc0
    conv => lhs; whnf
    rcases Bool.eq_false_or_eq_true (ilt 255 leaf) with hc1 | hc1
    · rw [hc1]; replace hc1 := of_ilt_t hc1; try simp only [llen_eq] at hc1
      conv => lhs; whnf
      unfold recB; (repeat (first | rw [if_pos (by first | omega | decide | assumption | (simp only [sha256_len, msgH_len, digs_len, stepB_len, firstB_len, LL] at * <;> omega) | (simp; omega))] | rw [if_neg (by first | omega | decide | assumption | (simp only [sha256_len, msgH_len, digs_len, stepB_len, firstB_len, LL] at * <;> omega) | (simp; omega))])); try simp only [NO]
    · rw [hc1]; replace hc1 := of_ilt_f hc1; try simp only [llen_eq] at hc1
      conv => lhs; whnf
      rcases Bool.eq_false_or_eq_true (ine (llen s) 560) with hc2 | hc2
      · rw [hc2]; replace hc2 := of_ine_t hc2; try simp only [llen_eq] at hc2
        conv => lhs; whnf
        unfold recB; (repeat (first | rw [if_pos (by first | omega | decide | assumption | (simp only [sha256_len, msgH_len, digs_len, stepB_len, firstB_len, LL] at * <;> omega) | (simp; omega))] | rw [if_neg (by first | omega | decide | assumption | (simp only [sha256_len, msgH_len, digs_len, stepB_len, firstB_len, LL] at * <;> omega) | (simp; omega))])); try simp only [NO]
      · rw [hc2]; replace hc2 := of_ine_f hc2; try simp only [llen_eq] at hc2
        conv => lhs; whnf
        rw [toReq_call]
        rw [ev_rdigits _ (by omega)]
        conv => lhs; whnf
        rw [toReq_loop]
        rw [h0 (by omega)]
        conv => lhs; whnf
        rw [toReq_call]
        rw [ev_rvalue _ _ (by rw [walkB_len _ _ _ _ 35 (fun c hc => by simp; omega) 35 (Nat.le_refl _)]; omega)]
        conv => lhs; whnf
        unfold recB; (repeat (first | rw [if_pos (by first | omega | decide | assumption | (simp only [sha256_len, msgH_len, digs_len, stepB_len, firstB_len, LL] at * <;> omega) | (simp; omega))] | rw [if_neg (by first | omega | decide | assumption | (simp only [sha256_len, msgH_len, digs_len, stepB_len, firstB_len, LL] at * <;> omega) | (simp; omega))])); try simp only [NO]
end Go.Proofs.YtfjcmolccckhhaaDoor

namespace Go.Ax
open Go.Eng
def collB (a b : List UInt8) (n : Int) : Bool := decide (0 ≤ n ∧ n ≤ 32 ∧ a ≠ b ∧ (sha256 a).take n.toNat = (sha256 b).take n.toNat)
end Go.Ax

namespace Go.Ax
open Go.Eng
def nodeB (h i : Int) (l r : List UInt8) : List UInt8 := (sha256 (frameB 3 [[UInt8.ofInt h, UInt8.ofInt i], l, r])).take 16
theorem frame3_len (tag : Int) (a b c : List UInt8) : (frameB tag [a, b, c]).length = 13 + a.length + b.length + c.length := by
  simp [frameB, fieldsB, len4_len]; omega
def upB (h i : Int) : List (List UInt8) → List (List UInt8)
  | l :: r :: t => nodeB h i l r :: upB h (i + 1) t
  | _ => []
def heightB (n : Int) : Int := if n = 1 then 0 else if n = 2 then 1 else if n = 4 then 2 else if n = 8 then 3 else -1
def climbR (h i : Int) (x : List UInt8) : List (List UInt8) → List UInt8
  | [] => x
  | s :: p => climbR (h + 1) (i / 2) (if i % 2 = 1 then nodeB h (i / 2) s x else nodeB h (i / 2) x s) p
def climbB (x : List UInt8) (i : Int) (p : List (List UInt8)) : List UInt8 := if 3 < p.length ∨ i < 0 ∨ (2 : Int) ^ p.length ≤ i then [] else climbR 0 i x p
theorem nodeB_len (h i : Int) (l r : List UInt8) : (nodeB h i l r).length ≤ 16 := by simp [nodeB]; omega
theorem drop2 {α : Type} {ls : List α} {i : Nat} (h : 2 * i + 1 < ls.length) : ls.drop (2 * i) = ls[2 * i] :: ls[2 * i + 1] :: ls.drop (2 * (i + 1)) := by
  rw [List.drop_eq_getElem_cons (by omega), List.drop_eq_getElem_cons (i := 2 * i + 1) (by omega)]; rfl
theorem upB_one (h i : Int) (ls : List (List UInt8)) (hl : ls.length ≤ 1) : upB h i ls = [] := by
  match ls with
  | [] => rfl
  | [_] => rfl
  | _ :: _ :: _ => simp at hl
theorem upB_len (h : Int) : ∀ (n : Nat) (i : Int) (ls : List (List UInt8)), ls.length ≤ n → (upB h i ls).length = ls.length / 2
  | 0, i, ls, hl => by rw [upB_one _ _ _ (by omega), List.length_nil]; omega
  | n + 1, i, [], _ => rfl
  | n + 1, i, [_], _ => by simp [upB]
  | n + 1, i, l :: r :: t, hl => by
    simp only [upB, List.length_cons, upB_len h n (i + 1) t (by simp at hl; omega)]
    simp only [List.length_cons] at hl; omega
theorem upB_mem (h : Int) : ∀ (n : Nat) (i : Int) (ls : List (List UInt8)), ls.length ≤ n → ∀ x ∈ upB h i ls, x.length ≤ 1000000
  | 0, i, ls, hl => by rw [upB_one _ _ _ (by omega)]; intro x hx; cases hx
  | n + 1, i, [], _ => by intro x hx; cases hx
  | n + 1, i, [_], _ => by intro x hx; cases hx
  | n + 1, i, l :: r :: t, hl => by
    intro x hx
    simp only [upB, List.mem_cons] at hx
    rcases hx with rfl | hx
    · have := nodeB_len h i l r; omega
    · exact upB_mem h n (i + 1) t (by simp at hl; omega) x hx
def levB : Nat → Int → List (List UInt8) → List (List (List UInt8))
  | 0, h, ls => [ls]
  | k + 1, h, ls => ls :: levB k (h + 1) (upB h 0 ls)
def upN : Nat → Int → List (List UInt8) → List (List UInt8)
  | 0, h, ls => ls
  | j + 1, h, ls => upN j (h + 1) (upB h 0 ls)
def rootB (ls : List (List UInt8)) : List UInt8 := if heightB ls.length < 0 then [] else (upN (heightB ls.length).toNat 0 ls).getD 0 []
def sib (i : Int) : Int := if i % 2 = 0 then i + 1 else i - 1
def pathR : Nat → Int → Int → List (List UInt8) → List (List UInt8)
  | 0, h, i, ls => []
  | k + 1, h, i, ls => ls.getD (sib i).toNat [] :: pathR k (h + 1) (i / 2) (upB h 0 ls)
def pathB (i : Int) (ls : List (List UInt8)) : List (List UInt8) := if heightB ls.length < 0 ∨ i < 0 ∨ (ls.length : Int) ≤ i then [] else pathR (heightB ls.length).toNat 0 i ls
theorem upN_succ : ∀ (j : Nat) (h : Int) (ls : List (List UInt8)), upN (j + 1) h ls = upB (h + j) 0 (upN j h ls)
  | 0, h, ls => by simp [upN]
  | j + 1, h, ls => by
    rw [upN, upN_succ j (h + 1), upN]
    congr 1; omega
theorem levB_get : ∀ (k : Nat) (h : Int) (ls : List (List UInt8)) (j : Nat), j ≤ k → (levB k h ls)[j]? = some (upN j h ls)
  | 0, h, ls, j, hj => by obtain rfl : j = 0 := by omega
                          rfl
  | k + 1, h, ls, 0, _ => rfl
  | k + 1, h, ls, j + 1, hj => by rw [levB, List.getElem?_cons_succ, levB_get k (h + 1) _ j (by omega), upN]
theorem levB_len : ∀ (k : Nat) (h : Int) (ls : List (List UInt8)), (levB k h ls).length = k + 1
  | 0, h, ls => rfl
  | k + 1, h, ls => by rw [levB, List.length_cons, levB_len k]
theorem upN_len : ∀ (j : Nat) (h : Int) (ls : List (List UInt8)) (k : Nat), ls.length = 2 ^ (j + k) → (upN j h ls).length = 2 ^ k
  | 0, h, ls, k, hl => by rw [upN, hl, Nat.zero_add]
  | j + 1, h, ls, k, hl => by
    rw [upN]
    refine upN_len j (h + 1) _ k ?_
    rw [upB_len h _ _ _ (Nat.le_refl _), hl, show j + 1 + k = (j + k) + 1 from by omega, Nat.pow_succ]; omega
theorem upN_mem : ∀ (j : Nat) (h : Int) (ls : List (List UInt8)), (∀ x ∈ ls, x.length ≤ 1000000) → ∀ x ∈ upN j h ls, x.length ≤ 1000000
  | 0, h, ls, hm => hm
  | j + 1, h, ls, hm => upN_mem j (h + 1) _ (upB_mem h _ 0 ls (Nat.le_refl _))
theorem height_pow (n : Nat) (h : ¬ heightB n < 0) : ∃ k : Nat, k ≤ 3 ∧ heightB n = (k : Int) ∧ n = 2 ^ k := by
  unfold heightB at h ⊢
  by_cases h1 : (n : Int) = 1
  · exact ⟨0, by omega, by rw [if_pos h1]; rfl, by simp; omega⟩
  rw [if_neg h1] at h ⊢
  by_cases h2 : (n : Int) = 2
  · exact ⟨1, by omega, by rw [if_pos h2]; rfl, by simp; omega⟩
  rw [if_neg h2] at h ⊢
  by_cases h4 : (n : Int) = 4
  · exact ⟨2, by omega, by rw [if_pos h4]; rfl, by simp; omega⟩
  rw [if_neg h4] at h ⊢
  by_cases h8 : (n : Int) = 8
  · exact ⟨3, by omega, by rw [if_pos h8]; rfl, by simp; omega⟩
  rw [if_neg h8] at h
  exact absurd h (by decide)
theorem lget_snoc {α : Type} (pre : List α) (x : α) (h : Int) (hh : (pre.length : Int) = h) : lget (pre ++ [x]) h = some x := by
  subst hh; rw [lget_nat]; simp
theorem sib_xor {i : Int} (h : 0 ≤ i ∧ i < 1024) : ibit .xor i 1 = sib i := by
  rw [ibit_d]
  have : ∀ j : Fin 1024, ibit0 .xor (j.val : Int) 1 = sib (j.val : Int) := by decide +kernel
  have h1 := this ⟨i.toNat, by omega⟩
  simp only [Int.toNat_of_nonneg h.1] at h1
  exact h1
def pfr (h i : Int) (s x : List UInt8) : List UInt8 := if i % 2 = 1 then frameB 3 [[UInt8.ofInt h, UInt8.ofInt (i / 2)], s, x] else frameB 3 [[UInt8.ofInt h, UInt8.ofInt (i / 2)], x, s]
def pnd (h i : Int) (s x : List UInt8) : List UInt8 := if i % 2 = 1 then nodeB h (i / 2) s x else nodeB h (i / 2) x s
def collR (h i : Int) (x y : List UInt8) : List (List UInt8) → List (List UInt8) → Bool
  | s :: p, t :: q => if collB (pfr h i s x) (pfr h i t y) 16 then true else collR (h + 1) (i / 2) (pnd h i s x) (pnd h i t y) p q
  | _, _ => false
def fitB (h : Int) (ls : List (List UInt8)) : List (List UInt8) := (List.range (2 ^ (h % 4).toNat)).map fun i => ls.getD i [UInt8.ofInt i]
def fewP (ls : List (List UInt8)) : Prop := (∀ l ∈ ls, l.length ≤ 60) ∧ ls.length < 20
instance (ls : List (List UInt8)) : Decidable (fewP ls) := by unfold fewP; infer_instance
theorem pnd_len (h i : Int) (l r : List UInt8) : (pnd h i l r).length ≤ 16 := by unfold pnd; split <;> exact nodeB_len _ _ _ _
theorem drop_one {α : Type} {l : List α} {j : Nat} (h : j < l.length) : l.drop j = l[j] :: l.drop (j + 1) := List.drop_eq_getElem_cons h
theorem getD_upB (h : Int) : ∀ (j : Nat) (i : Int) (ls : List (List UInt8)), 2 * j + 1 < ls.length → (upB h i ls).getD j [] = nodeB h (i + j) (ls.getD (2 * j) []) (ls.getD (2 * j + 1) [])
  | 0, i, l :: r :: t, _ => by simp [upB]
  | j + 1, i, l :: r :: t, hl => by
    simp only [upB, List.getD_cons_succ]
    rw [getD_upB h j (i + 1) t (by simp at hl; omega)]
    rw [show 2 * (j + 1) = 2 * j + 1 + 1 from by omega]
    simp only [List.getD_cons_succ]
    congr 1; omega
  | 0, i, [_], hl => by simp at hl
  | j + 1, i, [_], hl => by simp at hl
  | _, i, [], hl => by simp at hl
theorem climbR_cons (h i : Int) (x s : List UInt8) (p : List (List UInt8)) : climbR h i x (s :: p) = climbR (h + 1) (i / 2) (pnd h i s x) p := rfl
theorem trip : ∀ (k : Nat) (h i : Int) (ls : List (List UInt8)), ls.length = 2 ^ k → 0 ≤ i → i < ls.length → climbR h i (ls.getD i.toNat []) (pathR k h i ls) = (upN k h ls).getD 0 []
  | 0, h, i, ls, hl, h0, hi => by
    obtain rfl : i = 0 := by simp at hl; omega
    rfl
  | k + 1, h, i, ls, hl, h0, hi => by
    have hl2 : ls.length = 2 * 2 ^ k := by rw [hl, Nat.pow_succ]; omega
    have hul : (upB h 0 ls).length = 2 ^ k := by rw [upB_len _ _ _ _ (Nat.le_refl _)]; omega
    rw [pathR, climbR_cons, upN, ← trip k (h + 1) (i / 2) (upB h 0 ls) hul (by omega) (by omega)]
    congr 1
    rw [getD_upB h (i / 2).toNat 0 ls (by omega)]
    unfold pnd sib
    by_cases hc : i % 2 = 1
    · rw [if_pos hc, if_neg (by omega), show (0 : Int) + ((i / 2).toNat : Int) = i / 2 from by omega, show 2 * (i / 2).toNat = (i - 1).toNat from by omega, show (i - 1).toNat + 1 = i.toNat from by omega]
    · rw [if_neg hc, if_pos (by omega), show (0 : Int) + ((i / 2).toNat : Int) = i / 2 from by omega, show 2 * (i / 2).toNat = i.toNat from by omega, show (i + 1).toNat = i.toNat + 1 from by omega]
theorem pathR_len : ∀ (k : Nat) (h i : Int) (ls : List (List UInt8)), (pathR k h i ls).length = k
  | 0, h, i, ls => rfl
  | k + 1, h, i, ls => by rw [pathR, List.length_cons, pathR_len k]
theorem climbR_le : ∀ (p : List (List UInt8)) (h i : Int) (x : List UInt8), x.length ≤ 1000000 → (climbR h i x p).length ≤ 1000000
  | [], h, i, x, hx => hx
  | s :: p, h, i, x, hx => by
    rw [climbR_cons]; exact climbR_le p _ _ _ (by have := pnd_len h i s x; omega)
theorem climb_le {x : List UInt8} {i : Int} {p : List (List UInt8)} (hx : x.length ≤ 1000000) : (climbB x i p).length ≤ 4294967296 := by
  unfold climbB
  split
  · simp
  · have := climbR_le p 0 i x hx; omega
theorem height_of {n K : Nat} (hK : K ≤ 3) (hn : n = 2 ^ K) : heightB n = K := by
  subst hn
  have : ∀ K : Fin 4, heightB ((2 ^ K.val : Nat) : Int) = ((K.val : Nat) : Int) := by decide
  exact this ⟨K, by omega⟩
theorem trip' {l : List (List UInt8)} {K : Nat} (hK : K ≤ 3) (hl : l.length = 2 ^ K) {i : Int} (h0 : 0 ≤ i) (hi : i < l.length) : (pathB i l).length = K ∧ climbB (l.getD i.toNat []) i (pathB i l) = rootB l := by
  have hh := height_of hK hl
  have hp : pathB i l = pathR K 0 i l := by unfold pathB; rw [hh, if_neg (by omega), Int.toNat_natCast]
  rw [hp]
  refine ⟨pathR_len _ _ _ _, ?_⟩
  unfold climbB rootB
  have hc : ¬ (3 < K ∨ i < 0 ∨ (2 : Int) ^ K ≤ i) := by
    intro h
    have : (l.length : Int) = (2 : Int) ^ K := by rw [hl]; simp
    omega
  rw [pathR_len, hh, if_neg hc, if_neg (by omega), Int.toNat_natCast]
  exact trip K 0 i l hl h0 hi
theorem root16 {l : List (List UInt8)} {K : Nat} (hK : K ≤ 3) (hl : l.length = 2 ^ K) (h1 : 1 < l.length) : (rootB l).length = 16 := by
  have hh := height_of hK hl
  unfold rootB
  rw [hh, if_neg (by omega), Int.toNat_natCast]
  cases K with
  | zero => simp at hl; omega
  | succ k =>
    have h2 := upN_len k 0 l 1 hl
    rw [upN_succ, getD_upB _ 0 0 _ (by omega)]
    simp [nodeB, sha256_len]
end Go.Ax

namespace Go.Proofs.YtfjcmolccckhhaaDoor
open Go Go.Ax Go.Eng
set_option linter.unusedVariables false
set_option linter.unusedSimpArgs false
attribute [local irreducible] iadd isub imul iquo irem ibit ineg ieq ine ilt ile ishl ishr beq' bnot and' seq' u8op u8rem u32op u64op u8shr u8shl u64shr u64shl u32shr u32shl i64w u8i u64i iu8 iu32 iu64 u8u64 u64u8 u32u8 u64cmp u8cmp u32cmp llen lget linb lset lcut lrep lapp lcpy lemp fits fitn ieqs sealed drawChk fpSame
set_option maxHeartbeats 1000000
set_option maxRecDepth 100000
theorem ev_parent (h i : Int) (l r : List UInt8) (hl : l.length ≤ 1000000) (hr : r.length ≤ 1000000) : Y E0 (.call 90 [.i h, .i i, .sl .u8 l, .sl .u8 r] []) = some (.ret (.sl .u8 (nodeB h i l r)) []) := by
  rw [Y_go]; conv => lhs; whnf
  rw [toReq_call]
  rw [ev_dig_hash _ _ (by rw [frame3_len]; simp; omega) (by simp)]
  conv => lhs; whnf
  rw [ieq_t (by omega)]
  conv => lhs; whnf
  rw [lcut_0 (by (simp only [sha256_len, LL] at * <;> omega))]
  conv => lhs; whnf
  simp only [iu8_eq]; rfl
theorem ev_join (h i : Int) (l r : List UInt8) (hl : l.length ≤ 1000000) (hr : r.length ≤ 1000000) : Y E0 (.call 92 [.i h, .i i, .sl .u8 l, .sl .u8 r] []) = some (.ret (.sl .u8 (nodeB h i l r)) []) := by
  rw [Y_go]; conv => lhs; whnf
  rw [toReq_call]
  rw [ev_ref_hash _ _ (by rw [frame3_len]; simp; omega) (by simp)]
  conv => lhs; whnf
  rw [lcut_0 (by (simp only [sha256_len, LL] at * <;> omega))]
  conv => lhs; whnf
  simp only [iu8_eq]; rfl
theorem ev_height_loop (n : Int) : Y E0 (.loop 106 0 0 0 [(0, .i n), (3, .i 0)] []) = (if heightB n < 0 then some (.fin (.exit 0) 0 [] []) else some (.fin .ret 0 [(2, .i (heightB n))] [])) := by
  unfold heightB
  rw [Y_go]; conv => lhs; whnf
  rw [ile_t (by omega)]
  conv => lhs; whnf
  rw [show ishl 1 (iu64 0).toNat = 1 from ishl1 (by decide)]; conv => lhs; whnf
  rcases Bool.eq_false_or_eq_true (ieq n 1) with hc0 | hc0
  · rw [hc0]; replace hc0 := of_ieq_t hc0; try simp only [llen_eq] at hc0
    subst hc0
    conv => lhs; whnf
    simp [*]
  · rw [hc0]; replace hc0 := of_ieq_f hc0; try simp only [llen_eq] at hc0
    conv => lhs; whnf
    rw [iadd_eq (by omega)]
    rw [Y_go]; conv => lhs; whnf
    rw [ile_t (by omega)]
    conv => lhs; whnf
    rw [show ishl 1 (iu64 (0 + 1)).toNat = 2 from ishl1 (by decide)]; conv => lhs; whnf
    rcases Bool.eq_false_or_eq_true (ieq n 2) with hc1 | hc1
    · rw [hc1]; replace hc1 := of_ieq_t hc1; try simp only [llen_eq] at hc1
      subst hc1
      conv => lhs; whnf
      simp [*]
    · rw [hc1]; replace hc1 := of_ieq_f hc1; try simp only [llen_eq] at hc1
      conv => lhs; whnf
      rw [iadd_eq (by omega)]
      rw [Y_go]; conv => lhs; whnf
      rw [ile_t (by omega)]
      conv => lhs; whnf
      rw [show ishl 1 (iu64 (0 + 1 + 1)).toNat = 4 from ishl1 (by decide)]; conv => lhs; whnf
      rcases Bool.eq_false_or_eq_true (ieq n 4) with hc2 | hc2
      · rw [hc2]; replace hc2 := of_ieq_t hc2; try simp only [llen_eq] at hc2
        subst hc2
        conv => lhs; whnf
        simp [*]
      · rw [hc2]; replace hc2 := of_ieq_f hc2; try simp only [llen_eq] at hc2
        conv => lhs; whnf
        rw [iadd_eq (by omega)]
        rw [Y_go]; conv => lhs; whnf
        rw [ile_t (by omega)]
        conv => lhs; whnf
        rw [show ishl 1 (iu64 (0 + 1 + 1 + 1)).toNat = 8 from ishl1 (by decide)]; conv => lhs; whnf
        rcases Bool.eq_false_or_eq_true (ieq n 8) with hc3 | hc3
        · rw [hc3]; replace hc3 := of_ieq_t hc3; try simp only [llen_eq] at hc3
          subst hc3
          conv => lhs; whnf
          simp [*]
        · rw [hc3]; replace hc3 := of_ieq_f hc3; try simp only [llen_eq] at hc3
          conv => lhs; whnf
          rw [iadd_eq (by omega)]
          rw [Y_go]; conv => lhs; whnf
          rw [ile_f (by omega)]
          conv => lhs; whnf
          simp [*]
theorem ev_height (n : Int) : Y E0 (.call 106 [.i n] []) = some (.ret (.i (heightB n)) []) := by
  by_cases h : heightB n < 0
  · have h1 : heightB n = -1 := by unfold heightB at *; repeat' split at h
                                   all_goals first | omega | simp [*]
    rw [Y_go]; conv => lhs; whnf
    rw [toReq_loop]
    rw [ev_height_loop, if_pos h]
    conv => lhs; whnf
    rw [h1]
  · rw [Y_go]; conv => lhs; whnf
    rw [toReq_loop]
    rw [ev_height_loop, if_neg h]
    conv => lhs; whnf
theorem ev_fits (n : Int) : Y E0 (.call 77 [.i n] []) = some (.ret (.b (decide (n = 1 ∨ n = 2 ∨ n = 4 ∨ n = 8))) []) := by
  rw [Y_go]; conv => lhs; whnf
  rcases Bool.eq_false_or_eq_true (ieq n 1) with hc0 | hc0
  · rw [hc0]; replace hc0 := of_ieq_t hc0; try simp only [llen_eq] at hc0
    subst hc0
    conv => lhs; whnf
    rfl
  · rw [hc0]; replace hc0 := of_ieq_f hc0; try simp only [llen_eq] at hc0
    conv => lhs; whnf
    rcases Bool.eq_false_or_eq_true (ieq n 2) with hc1 | hc1
    · rw [hc1]; replace hc1 := of_ieq_t hc1; try simp only [llen_eq] at hc1
      subst hc1
      conv => lhs; whnf
      rfl
    · rw [hc1]; replace hc1 := of_ieq_f hc1; try simp only [llen_eq] at hc1
      conv => lhs; whnf
      rcases Bool.eq_false_or_eq_true (ieq n 4) with hc2 | hc2
      · rw [hc2]; replace hc2 := of_ieq_t hc2; try simp only [llen_eq] at hc2
        subst hc2
        conv => lhs; whnf
        rfl
      · rw [hc2]; replace hc2 := of_ieq_f hc2; try simp only [llen_eq] at hc2
        conv => lhs; whnf
        (congr 3; simp only [ieq_eq, ine_eq, ilt_eq, ile_eq, bnot_eq, and_eq, llen_eq]; first | rfl | (rw [decide_eq_decide]; omega) | (simp; omega))
theorem ev_up_loop (h : Int) (ls : List (List UInt8)) (hm : ∀ l ∈ ls, l.length ≤ 1000000) (hn : ls.length ≤ 1000) : ∀ (k i : Nat) (acc : List (List UInt8)), 2 * i ≤ ls.length → ls.length ≤ 2 * i + 2 * k + 1 → acc.length ≤ i →
    Y E0 (.loop 78 0 0 1 [(0, .i h), (1, .sl (.sl .u8) ls), (5, .nm 0), (6, .i i)] [(0, some (.row 22 (.sl .u8) acc))]) = some (.fin (.exit 0) 0 [(5, .sl (.sl .u8) (acc ++ upB h i (ls.drop (2 * i))))] [])
  | k, i, acc, h0, hi, ha => by
    by_cases hc : 2 * i + 1 < ls.length
    · obtain ⟨k, rfl⟩ : ∃ j, k = j + 1 := ⟨k - 1, by omega⟩
      have h1 := hm _ (List.getElem_mem (l := ls) (n := 2 * i) (by omega))
      have h2 := hm _ (List.getElem_mem (l := ls) (n := 2 * i + 1) (by omega))
      have ih := ev_up_loop h ls hm hn k (i + 1) (acc ++ [nodeB h i ls[2 * i] ls[2 * i + 1]]) (by omega) (by omega) (by simp; omega)
      rw [drop2 hc, upB]
      rw [List.append_assoc, List.singleton_append] at ih
      rw [Y_go]; conv => lhs; whnf
      rw [imul_eq (by omega)]
      rw [iadd_eq (by omega)]
      rw [ilt_t (by (simp only [sha256_len, LL] at * <;> omega))]
      conv => lhs; whnf
      rw [imul_eq (by omega)]
      rw [lget_i (by omega)]
      conv => lhs; whnf
      rw [imul_eq (by omega)]
      rw [iadd_eq (by omega)]
      rw [lget_i (by omega)]
      conv => lhs; whnf
      rw [toReq_call]
      rw [ev_join _ _ _ _ (by assumption) (by assumption)]
      conv => lhs; whnf
      rw [fits_t (by (simp only [sha256_len, LL] at * <;> omega))]
      conv => lhs; whnf
      rw [drw (by kernel_rfl)]; conv => lhs; whnf
      rw [iadd_eq (by omega)]
      refine (congrArg (Y E0) ?_).trans ih; (try simp only [Rq.loop.injEq, Rq.call.injEq, Rq.ops.injEq, List.cons.injEq, Prod.mk.injEq, AV.i.injEq, AV.sl.injEq, AV.st.injEq, AV.b.injEq, AV.u8.injEq, AV.nm.injEq, Option.some.injEq, Rs.row.injEq, Rs.var.injEq, heq_eq_eq, true_and, and_true]); (try (repeat' apply And.intro)); all_goals first | (with_reducible rfl) | omega | (rw [iadd_eq (by omega)]; omega) | (rw [isub_eq (by omega)]; omega) | (rw [lapp_eq]; rfl)
    · rw [upB_one _ _ _ (by rw [List.length_drop]; omega), List.append_nil]
      rw [Y_go]; conv => lhs; whnf
      rw [imul_eq (by omega)]
      rw [iadd_eq (by omega)]
      rw [ilt_f (by (simp only [sha256_len, LL] at * <;> omega))]
      conv => lhs; whnf
theorem ev_up (h : Int) (ls : List (List UInt8)) (hm : ∀ l ∈ ls, l.length ≤ 1000000) (hn : ls.length ≤ 1000) : Y E0 (.call 78 [.i h, .sl (.sl .u8) ls] []) = some (.ret (.sl (.sl .u8) (upB h 0 ls)) []) := by
  have h0 := ev_up_loop h ls hm hn ls.length 0 [] (by omega) (by omega) (by simp)
  rw [Y_go]; conv => lhs; whnf
  rw [toReq_loop]
  rw [show (0 : Int) = ((0 : Nat) : Int) from rfl, h0]
  conv => lhs; whnf
  rfl
theorem ev_levels_loop1 (O : List (List (List UInt8))) (h : Nat) (ls : List (List UInt8)) (hO : O[h]? = some ls) (hOl : O.length ≤ 10) (hm : ∀ l ∈ ls, l.length ≤ 1000000) (hn : ls.length ≤ 1000) : ∀ (k i : Nat) (acc : List (List UInt8)), ls.length = 2 * i + 2 * k → acc.length ≤ i →
    Y E0 (.loop 107 1 0 2 [(3, .nm 0), (4, .i h), (5, .nm 1), (6, .i i)] [(0, some (.row 49 (.sl (.sl .u8)) O)), (1, some (.row 22 (.sl .u8) acc))]) = some (.fin (.exit 2) 1 [(3, .nm 0), (4, .i h), (5, .sl (.sl .u8) (acc ++ upB h i (ls.drop (2 * i))))] [(0, some (.row 49 (.sl (.sl .u8)) O))])
  | k, i, acc, hi, ha => by
    have hg : lget O (h : Int) = some ls := by rw [lget_nat]; exact hO
    have hh : h < O.length := (List.getElem?_eq_some_iff.1 hO).1
    by_cases hc : 2 * i + 1 < ls.length
    · obtain ⟨k, rfl⟩ : ∃ j, k = j + 1 := ⟨k - 1, by omega⟩
      have h1 := hm _ (List.getElem_mem (l := ls) (n := 2 * i) (by omega))
      have h2 := hm _ (List.getElem_mem (l := ls) (n := 2 * i + 1) (by omega))
      have ih := ev_levels_loop1 O h ls hO hOl hm hn k (i + 1) (acc ++ [nodeB h i ls[2 * i] ls[2 * i + 1]]) (by omega) (by simp; omega)
      rw [drop2 hc, upB]
      rw [List.append_assoc, List.singleton_append] at ih
      rw [Y_go]; conv => lhs; whnf
      rw [linb_t (by omega)]
      conv => lhs; whnf
      rw [hg]; conv => lhs; whnf
      rw [imul_eq (by omega)]
      rw [ilt_t (by (simp only [sha256_len, LL] at * <;> omega))]
      conv => lhs; whnf
      rw [linb_t (by omega)]
      conv => lhs; whnf
      rw [hg]; conv => lhs; whnf
      rw [imul_eq (by omega)]
      rw [lget_i (by omega)]
      conv => lhs; whnf
      rw [linb_t (by omega)]
      conv => lhs; whnf
      rw [hg]; conv => lhs; whnf
      rw [imul_eq (by omega)]
      rw [iadd_eq (by omega)]
      rw [lget_i (by omega)]
      conv => lhs; whnf
      rw [toReq_call]
      rw [ev_parent _ _ _ _ (by assumption) (by assumption)]
      conv => lhs; whnf
      rw [fits_t (by (simp only [sha256_len, LL] at * <;> omega))]
      conv => lhs; whnf
      rw [drw (by kernel_rfl)]; conv => lhs; whnf
      rw [iadd_eq (by omega)]
      refine (congrArg (Y E0) ?_).trans ih; (try simp only [Rq.loop.injEq, Rq.call.injEq, Rq.ops.injEq, List.cons.injEq, Prod.mk.injEq, AV.i.injEq, AV.sl.injEq, AV.st.injEq, AV.b.injEq, AV.u8.injEq, AV.nm.injEq, Option.some.injEq, Rs.row.injEq, Rs.var.injEq, heq_eq_eq, true_and, and_true]); (try (repeat' apply And.intro)); all_goals first | (with_reducible rfl) | omega | (rw [iadd_eq (by omega)]; omega) | (rw [isub_eq (by omega)]; omega) | (rw [lapp_eq]; rfl)
    · rw [upB_one _ _ _ (by rw [List.length_drop]; omega), List.append_nil]
      rw [Y_go]; conv => lhs; whnf
      rw [linb_t (by omega)]
      conv => lhs; whnf
      rw [hg]; conv => lhs; whnf
      rw [imul_eq (by omega)]
      rw [ilt_f (by (simp only [sha256_len, LL] at * <;> omega))]
      conv => lhs; whnf
theorem ev_levels_loop : ∀ (k h : Nat) (pre : List (List (List UInt8))) (cur : List (List UInt8)), k ≤ 3 → pre.length = h → h ≤ 3 → cur.length = 2 ^ k → (∀ l ∈ cur, l.length ≤ 1000000) → h + k ≤ 3 → Y E0 (.loop 107 0 0 1 [(3, .nm 0), (4, .i h)] [(0, some (.row 49 (.sl (.sl .u8)) (pre ++ [cur])))]) = some (.fin (.exit 0) 0 [(3, .sl (.sl (.sl .u8)) (pre ++ levB k h cur))] [])
  | 0, h, pre, cur, hk, hp, hh, hc, hm, hs => by
    have hg := lget_snoc pre cur h (by omega)
    have hpl : (pre ++ [cur]).length = h + 1 := by simp; omega
    rw [levB]
    rw [Y_go]; conv => lhs; whnf
    rw [linb_t (by omega)]
    conv => lhs; whnf
    rw [hg]; conv => lhs; whnf
    rw [ilt_f (by (simp only [sha256_len, LL] at * <;> omega))]
    conv => lhs; whnf
  | k + 1, h, pre, cur, hk, hp, hh, hc, hm, hs => by
    have hg := lget_snoc pre cur h (by omega)
    have hpl : (pre ++ [cur]).length = h + 1 := by simp; omega
    have hc' : cur.length = 2 * 2 ^ k := by rw [hc, Nat.pow_succ]; omega
    have hk1 : 1 ≤ 2 ^ k := Nat.one_le_two_pow
    have hk2 : 2 ^ k ≤ 4 := by
      have := Nat.pow_le_pow_right (n := 2) (by omega) (show k ≤ 2 by omega); simpa using this
    have h1 := ev_levels_loop1 (pre ++ [cur]) h cur (by subst hp; simp) (by omega) hm (by omega) (2 ^ k) 0 [] (by omega) (by simp)
    have ih := ev_levels_loop k (h + 1) (pre ++ [cur]) (upB h 0 cur) (by omega) (by simp; omega) (by omega) (by rw [upB_len _ _ _ _ (Nat.le_refl _)]; omega) (upB_mem h _ 0 cur (Nat.le_refl _)) (by omega)
    rw [List.nil_append, Nat.mul_zero, List.drop_zero, show ((0 : Nat) : Int) = 0 from rfl] at h1
    rw [levB]
    rw [show ((h + 1 : Nat) : Int) = (h : Int) + 1 from by omega] at ih
    simp only [List.append_assoc, List.cons_append, List.nil_append] at ih
    rw [Y_go]; conv => lhs; whnf
    rw [linb_t (by omega)]
    conv => lhs; whnf
    rw [hg]; conv => lhs; whnf
    rw [ilt_t (by (simp only [sha256_len, LL] at * <;> omega))]
    conv => lhs; whnf
    rw [toReq_loop]
    rw [h1]
    conv => lhs; whnf
    rw [fits_t (by (simp only [sha256_len, LL] at * <;> omega))]
    conv => lhs; whnf
    rw [iadd_eq (by omega)]
    refine (congrArg (Y E0) ?_).trans ih; (try simp only [Rq.loop.injEq, Rq.call.injEq, Rq.ops.injEq, List.cons.injEq, Prod.mk.injEq, AV.i.injEq, AV.sl.injEq, AV.st.injEq, AV.b.injEq, AV.u8.injEq, AV.nm.injEq, Option.some.injEq, Rs.row.injEq, Rs.var.injEq, heq_eq_eq, true_and, and_true]); (try (repeat' apply And.intro)); all_goals first | (with_reducible rfl) | omega | (rw [iadd_eq (by omega)]; omega) | (rw [isub_eq (by omega)]; omega) | (rw [lapp_eq, List.append_assoc]; rfl)
theorem ev_levels (k : Nat) (ls : List (List UInt8)) (hk : k ≤ 3) (hl : ls.length = 2 ^ k) (hm : ∀ l ∈ ls, l.length ≤ 1000000) : Y E0 (.call 107 [.sl (.sl .u8) ls] []) = some (.ret (.sl (.sl (.sl .u8)) (levB k 0 ls)) []) := by
  have h0 := ev_levels_loop k 0 [] ls hk rfl (by omega) hl hm (by omega)
  rw [List.nil_append, List.nil_append, show ((0 : Nat) : Int) = 0 from rfl] at h0
  rw [Y_go]; conv => lhs; whnf
  rw [toReq_loop]
  rw [h0]
  conv => lhs; whnf
theorem ev_climb_loop (p : List (List UInt8)) (hm : ∀ l ∈ p, l.length ≤ 1000000) (hn : p.length ≤ 1000) : ∀ (k j : Nat) (i : Int) (x : List UInt8), j + k = p.length → 0 ≤ i ∧ i ≤ 1000 → x.length ≤ 1000000 →
    Y E0 (.loop 49 0 0 0 [(1, .i i), (7, .sl .u8 x), (29, .sl (.sl .u8) p), (30, .i p.length), (31, .i j)] []) = some (.fin (.exit 0) 0 [(7, .sl .u8 (climbR j i x (p.drop j)))] [])
  | 0, j, i, x, hj, hi, hx => by
    rw [List.drop_eq_nil_of_le (by omega), climbR]
    rw [Y_go]; conv => lhs; whnf
    rw [ilt_f (by omega)]
    conv => lhs; whnf
  | k + 1, j, i, x, hj, hi, hx => by
    have h1 := hm _ (List.getElem_mem (l := p) (n := j) (by omega))
    rw [List.drop_eq_getElem_cons (by omega), climbR]
    have hs : ishr i (UInt64.ofNat 1).toNat = i / 2 := by rw [ishr_eq (by decide)]; rfl
    by_cases hc : i % 2 = 1
    · have ih := ev_climb_loop p hm hn k (j + 1) (i / 2) (nodeB j (i / 2) p[j] x) (by omega) (by omega) (by have := nodeB_len j (i / 2) p[j] x; omega)
      rw [show ((j + 1 : Nat) : Int) = (j : Int) + 1 from by omega] at ih
      rw [if_pos hc]
      rw [Y_go]; conv => lhs; whnf
      rw [ilt_t (by omega)]
      conv => lhs; whnf
      rw [lget_n (by omega)]
      conv => lhs; whnf
      rw [iand_1]; conv => lhs; whnf
      rw [ieq_t (by omega)]
      conv => lhs; whnf
      rw [Y_go]; conv => lhs; whnf
      rw [toReq_call]
      rw [ev_parent _ _ _ _ (by omega) (by omega)]
      conv => lhs; whnf
      rw [iadd_eq (by omega)]
      refine (congrArg (Y E0) ?_).trans ih; rw [hs]
    · have ih := ev_climb_loop p hm hn k (j + 1) (i / 2) (nodeB j (i / 2) x p[j]) (by omega) (by omega) (by have := nodeB_len j (i / 2) x p[j]; omega)
      rw [show ((j + 1 : Nat) : Int) = (j : Int) + 1 from by omega] at ih
      rw [if_neg hc]
      rw [Y_go]; conv => lhs; whnf
      rw [ilt_t (by omega)]
      conv => lhs; whnf
      rw [lget_n (by omega)]
      conv => lhs; whnf
      rw [iand_1]; conv => lhs; whnf
      rw [ieq_f (by omega)]
      conv => lhs; whnf
      rw [Y_go]; conv => lhs; whnf
      rw [toReq_call]
      rw [ev_parent _ _ _ _ (by omega) (by omega)]
      conv => lhs; whnf
      rw [iadd_eq (by omega)]
      refine (congrArg (Y E0) ?_).trans ih; rw [hs]
theorem pow8 {n : Nat} (h : n ≤ 3) : (2 : Int) ^ n ≤ 8 := by
  have := Nat.pow_le_pow_right (n := 2) (by omega) h
  exact_mod_cast this
theorem ev_climb (i : Int) (l : List UInt8) (p : List (List UInt8)) (hl : l.length ≤ 1000000) (hm : ∀ l ∈ p, l.length ≤ 1000000) : Y E0 (.call 49 [.sl .u8 l, .i i, .sl (.sl .u8) p] []) = some (.ret (.sl .u8 (climbB l i p)) []) := by
  rw [Y_go]; conv => lhs; whnf
  rcases Bool.eq_false_or_eq_true (ilt 3 (llen p)) with hc0 | hc0
  · rw [hc0]; replace hc0 := of_ilt_t hc0; try simp only [llen_eq] at hc0
    conv => lhs; whnf
    unfold climbB; (repeat (first | rw [if_pos (by first | omega | decide | assumption | (simp only [sha256_len, LL] at * <;> omega) | (simp; omega))] | rw [if_neg (by first | omega | decide | assumption | (simp only [sha256_len, LL] at * <;> omega) | (simp; omega))])); try simp only [NO]
  · rw [hc0]; replace hc0 := of_ilt_f hc0; try simp only [llen_eq] at hc0
    conv => lhs; whnf
    rcases Bool.eq_false_or_eq_true (ilt i 0) with hc1 | hc1
    · rw [hc1]; replace hc1 := of_ilt_t hc1; try simp only [llen_eq] at hc1
      conv => lhs; whnf
      unfold climbB; (repeat (first | rw [if_pos (by first | omega | decide | assumption | (simp only [sha256_len, LL] at * <;> omega) | (simp; omega))] | rw [if_neg (by first | omega | decide | assumption | (simp only [sha256_len, LL] at * <;> omega) | (simp; omega))])); try simp only [NO]
    · rw [hc1]; replace hc1 := of_ilt_f hc1; try simp only [llen_eq] at hc1
      conv => lhs; whnf
      rw [llen_eq, ishl1n (by omega)]; conv => lhs; whnf
      rcases Bool.eq_false_or_eq_true (ile (2 ^ p.length) i) with hc2 | hc2
      · rw [hc2]; replace hc2 := of_ile_t hc2; try simp only [llen_eq] at hc2
        conv => lhs; whnf
        unfold climbB; (repeat (first | rw [if_pos (by first | omega | decide | assumption | (simp only [sha256_len, LL] at * <;> omega) | (simp; omega))] | rw [if_neg (by first | omega | decide | assumption | (simp only [sha256_len, LL] at * <;> omega) | (simp; omega))])); try simp only [NO]
      · rw [hc2]; replace hc2 := of_ile_f hc2; try simp only [llen_eq] at hc2
        conv => lhs; whnf
        rw [fits_t (by omega)]
        conv => lhs; whnf
        rw [toReq_loop]
        have h8 := pow8 (n := p.length) (by omega); have h0 := ev_climb_loop p hm (by omega) p.length 0 i l (by omega) (by omega) hl; rw [show ((0 : Nat) : Int) = 0 from rfl, List.drop_zero] at h0; rw [llen_eq, h0]
        conv => lhs; whnf
        unfold climbB; (repeat (first | rw [if_pos (by first | omega | decide | assumption | (simp only [sha256_len, LL] at * <;> omega) | (simp; omega))] | rw [if_neg (by first | omega | decide | assumption | (simp only [sha256_len, LL] at * <;> omega) | (simp; omega))])); try simp only [NO]
theorem ev_rclimb_loop (p : List (List UInt8)) (hm : ∀ l ∈ p, l.length ≤ 1000000) (hn : p.length ≤ 1000) : ∀ (k j : Nat) (i : Int) (x : List UInt8), j + k = p.length → 0 ≤ i ∧ i ≤ 1000 → x.length ≤ 1000000 →
    Y E0 (.loop 51 0 0 0 [(1, .i i), (2, .sl (.sl .u8) p), (7, .sl .u8 x), (8, .i j)] []) = some (.fin (.exit 0) 0 [(7, .sl .u8 (climbR j i x (p.drop j)))] [])
  | 0, j, i, x, hj, hi, hx => by
    rw [List.drop_eq_nil_of_le (by omega), climbR]
    rw [Y_go]; conv => lhs; whnf
    rw [ilt_f (by (simp only [sha256_len, LL] at * <;> omega))]
    conv => lhs; whnf
  | k + 1, j, i, x, hj, hi, hx => by
    have h1 := hm _ (List.getElem_mem (l := p) (n := j) (by omega))
    rw [List.drop_eq_getElem_cons (by omega), climbR]
    by_cases hc : i % 2 = 1
    · have ih := ev_rclimb_loop p hm hn k (j + 1) (i / 2) (nodeB j (i / 2) p[j] x) (by omega) (by omega) (by have := nodeB_len j (i / 2) p[j] x; omega)
      rw [show ((j + 1 : Nat) : Int) = (j : Int) + 1 from by omega] at ih
      rw [if_pos hc]
      rw [Y_go]; conv => lhs; whnf
      rw [ilt_t (by (simp only [sha256_len, LL] at * <;> omega))]
      conv => lhs; whnf
      rw [ieq_f (by omega)]
      conv => lhs; whnf
      rw [irem_eq (by omega)]
      rw [ieq_f (by omega)]
      conv => lhs; whnf
      rw [ieq_f (by omega)]
      conv => lhs; whnf
      rw [lget_n (by omega)]
      conv => lhs; whnf
      rw [iquo_eq (by omega)]
      rw [toReq_call]
      rw [ev_join _ _ _ _ (by omega) (by omega)]
      conv => lhs; whnf
      rw [Y_go]; conv => lhs; whnf
      rw [ieq_f (by omega)]
      conv => lhs; whnf
      rw [iquo_eq (by omega)]
      rw [iadd_eq (by omega)]
      refine (congrArg (Y E0) ?_).trans ih; rfl
    · have ih := ev_rclimb_loop p hm hn k (j + 1) (i / 2) (nodeB j (i / 2) x p[j]) (by omega) (by omega) (by have := nodeB_len j (i / 2) x p[j]; omega)
      rw [show ((j + 1 : Nat) : Int) = (j : Int) + 1 from by omega] at ih
      rw [if_neg hc]
      rw [Y_go]; conv => lhs; whnf
      rw [ilt_t (by (simp only [sha256_len, LL] at * <;> omega))]
      conv => lhs; whnf
      rw [ieq_f (by omega)]
      conv => lhs; whnf
      rw [irem_eq (by omega)]
      rw [ieq_t (by omega)]
      conv => lhs; whnf
      rw [ieq_f (by omega)]
      conv => lhs; whnf
      rw [lget_n (by omega)]
      conv => lhs; whnf
      rw [iquo_eq (by omega)]
      rw [toReq_call]
      rw [ev_join _ _ _ _ (by omega) (by omega)]
      conv => lhs; whnf
      rw [Y_go]; conv => lhs; whnf
      rw [ieq_f (by omega)]
      conv => lhs; whnf
      rw [iquo_eq (by omega)]
      rw [iadd_eq (by omega)]
      refine (congrArg (Y E0) ?_).trans ih; rfl
theorem ev_rclimb (i : Int) (l : List UInt8) (p : List (List UInt8)) (hl : l.length ≤ 1000000) (hm : ∀ l ∈ p, l.length ≤ 1000000) : Y E0 (.call 51 [.sl .u8 l, .i i, .sl (.sl .u8) p] []) = some (.ret (.sl .u8 (climbB l i p)) []) := by
  rw [Y_go]; conv => lhs; whnf
  rcases Bool.eq_false_or_eq_true (ilt 3 (llen p)) with hc0 | hc0
  · rw [hc0]; replace hc0 := of_ilt_t hc0; try simp only [llen_eq] at hc0
    conv => lhs; whnf
    unfold climbB; (repeat (first | rw [if_pos (by first | omega | decide | assumption | (simp only [sha256_len, LL] at * <;> omega) | (simp; omega))] | rw [if_neg (by first | omega | decide | assumption | (simp only [sha256_len, LL] at * <;> omega) | (simp; omega))])); try simp only [NO]
  · rw [hc0]; replace hc0 := of_ilt_f hc0; try simp only [llen_eq] at hc0
    conv => lhs; whnf
    rcases Bool.eq_false_or_eq_true (ilt i 0) with hc1 | hc1
    · rw [hc1]; replace hc1 := of_ilt_t hc1; try simp only [llen_eq] at hc1
      conv => lhs; whnf
      unfold climbB; (repeat (first | rw [if_pos (by first | omega | decide | assumption | (simp only [sha256_len, LL] at * <;> omega) | (simp; omega))] | rw [if_neg (by first | omega | decide | assumption | (simp only [sha256_len, LL] at * <;> omega) | (simp; omega))])); try simp only [NO]
    · rw [hc1]; replace hc1 := of_ilt_f hc1; try simp only [llen_eq] at hc1
      conv => lhs; whnf
      rw [llen_eq, ishl1n (by omega)]; conv => lhs; whnf
      rcases Bool.eq_false_or_eq_true (ile (2 ^ p.length) i) with hc2 | hc2
      · rw [hc2]; replace hc2 := of_ile_t hc2; try simp only [llen_eq] at hc2
        conv => lhs; whnf
        unfold climbB; (repeat (first | rw [if_pos (by first | omega | decide | assumption | (simp only [sha256_len, LL] at * <;> omega) | (simp; omega))] | rw [if_neg (by first | omega | decide | assumption | (simp only [sha256_len, LL] at * <;> omega) | (simp; omega))])); try simp only [NO]
      · rw [hc2]; replace hc2 := of_ile_f hc2; try simp only [llen_eq] at hc2
        conv => lhs; whnf
        rw [toReq_call]
        rw [ev_copy _ (by omega)]
        conv => lhs; whnf
        rw [toReq_loop]
        have h8 := pow8 (n := p.length) (by omega); have h0 := ev_rclimb_loop p hm (by omega) p.length 0 i l (by omega) (by omega) hl; rw [show ((0 : Nat) : Int) = 0 from rfl, List.drop_zero] at h0; rw [h0]
        conv => lhs; whnf
        unfold climbB; (repeat (first | rw [if_pos (by first | omega | decide | assumption | (simp only [sha256_len, LL] at * <;> omega) | (simp; omega))] | rw [if_neg (by first | omega | decide | assumption | (simp only [sha256_len, LL] at * <;> omega) | (simp; omega))])); try simp only [NO]
theorem ev_troot (ls : List (List UInt8)) (hm : ∀ l ∈ ls, l.length ≤ 1000000) (hn : ls.length ≤ 1000) : Y E0 (.call 72 [.sl (.sl .u8) ls] []) = some (.ret (.sl .u8 (rootB ls)) []) := by
  by_cases h : heightB ls.length < 0
  · rw [Y_go]; conv => lhs; whnf
    rw [toReq_call]
    rw [ev_height _]
    conv => lhs; whnf
    rw [ilt_t (by (simp only [sha256_len, LL] at * <;> omega))]
    conv => lhs; whnf
    unfold rootB; (repeat (first | rw [if_pos (by first | omega | decide | assumption | (simp only [sha256_len, LL] at * <;> omega) | (simp; omega))] | rw [if_neg (by first | omega | decide | assumption | (simp only [sha256_len, LL] at * <;> omega) | (simp; omega))])); try simp only [NO]
  · obtain ⟨k, hk, hk2, hk3⟩ := height_pow ls.length h
    have hlv := ev_levels k ls hk hk3 hm
    have hg : lget (levB k 0 ls) (k : Int) = some (upN k 0 ls) := by rw [lget_nat]; exact levB_get k 0 ls k (Nat.le_refl _)
    have hln := upN_len k 0 ls 0 hk3
    have hx := upN_mem k 0 ls hm _ (List.getElem_mem (l := upN k 0 ls) (n := 0) (by omega))
    rw [Y_go]; conv => lhs; whnf
    rw [toReq_call]
    rw [llen_eq, ev_height, hk2]
    conv => lhs; whnf
    rw [ilt_f (by omega)]
    conv => lhs; whnf
    rw [toReq_call]
    rw [hlv]
    conv => lhs; whnf
    rw [hg]; conv => lhs; whnf
    rw [lget_i (by omega)]; conv => lhs; whnf
    rw [fits_t (by (simp; omega))]
    conv => lhs; whnf
    unfold rootB; rw [hk2, if_neg (by omega)]; simp [lapp_eq, List.getD, hln]
theorem ev_rroot_loop : ∀ (k h : Nat) (ls : List (List UInt8)), k ≤ 3 → ls.length = 2 ^ k → (∀ l ∈ ls, l.length ≤ 1000000) → h + k ≤ 3 → Y E0 (.loop 42 0 0 0 [(3, .sl (.sl .u8) ls), (4, .i h)] []) = some (.fin (.exit 0) 0 [(3, .sl (.sl .u8) (upN k h ls))] [])
  | 0, h, ls, hk, hl, hm, hs => by
    rw [upN]
    rw [Y_go]; conv => lhs; whnf
    rw [ilt_f (by (simp only [sha256_len, LL] at * <;> omega))]
    conv => lhs; whnf
  | k + 1, h, ls, hk, hl, hm, hs => by
    have hc' : ls.length = 2 * 2 ^ k := by rw [hl, Nat.pow_succ]; omega
    have hk1 : 1 ≤ 2 ^ k := Nat.one_le_two_pow
    have hk2 : 2 ^ k ≤ 4 := by
      have := Nat.pow_le_pow_right (n := 2) (by omega) (show k ≤ 2 by omega); simpa using this
    have ih := ev_rroot_loop k (h + 1) (upB h 0 ls) (by omega) (by rw [upB_len _ _ _ _ (Nat.le_refl _)]; omega) (upB_mem h _ 0 ls (Nat.le_refl _)) (by omega)
    rw [show ((h + 1 : Nat) : Int) = (h : Int) + 1 from by omega] at ih
    rw [upN]
    rw [Y_go]; conv => lhs; whnf
    rw [ilt_t (by (simp only [sha256_len, LL] at * <;> omega))]
    conv => lhs; whnf
    rw [toReq_call]
    rw [ev_up _ _ (by omega) (by omega)]
    conv => lhs; whnf
    rw [iadd_eq (by omega)]
    refine (congrArg (Y E0) ?_).trans ih; rfl
theorem ev_rroot (ls : List (List UInt8)) (hm : ∀ l ∈ ls, l.length ≤ 1000000) (hn : ls.length ≤ 1000) : Y E0 (.call 42 [.sl (.sl .u8) ls] []) = some (.ret (.sl .u8 (rootB ls)) []) := by
  by_cases h : heightB ls.length < 0
  · have hf : decide ((ls.length : Int) = 1 ∨ (ls.length : Int) = 2 ∨ (ls.length : Int) = 4 ∨ (ls.length : Int) = 8) = false := by
      unfold heightB at h; rw [decide_eq_false_iff_not]; repeat' split at h
      all_goals omega
    rw [Y_go]; conv => lhs; whnf
    rw [toReq_call]
    rw [llen_eq, ev_fits, hf]
    conv => lhs; whnf
    rw [bnot_eq]; conv => lhs; whnf
    unfold rootB; (repeat (first | rw [if_pos (by first | omega | decide | assumption | (simp only [sha256_len, LL] at * <;> omega) | (simp; omega))] | rw [if_neg (by first | omega | decide | assumption | (simp only [sha256_len, LL] at * <;> omega) | (simp; omega))])); try simp only [NO]
  · obtain ⟨k, hk, hk2, hk3⟩ := height_pow ls.length h
    have hf : decide ((ls.length : Int) = 1 ∨ (ls.length : Int) = 2 ∨ (ls.length : Int) = 4 ∨ (ls.length : Int) = 8) = true := by
      unfold heightB at h; rw [decide_eq_true_iff]; repeat' split at h
      all_goals omega
    have h0 := ev_rroot_loop k 0 ls hk hk3 hm (by omega)
    rw [show ((0 : Nat) : Int) = 0 from rfl] at h0
    have hln := upN_len k 0 ls 0 hk3
    have hx := upN_mem k 0 ls hm _ (List.getElem_mem (l := upN k 0 ls) (n := Int.toNat 0) (by rw [hln]; decide))
    rw [Y_go]; conv => lhs; whnf
    rw [toReq_call]
    rw [llen_eq, ev_fits, hf]
    conv => lhs; whnf
    rw [bnot_eq]; conv => lhs; whnf
    rw [toReq_loop]
    rw [h0]
    conv => lhs; whnf
    rw [lget_i (by omega)]; conv => lhs; whnf
    rw [toReq_call]
    rw [ev_copy _ (Nat.le_trans hx (by decide))]
    conv => lhs; whnf
    unfold rootB; rw [hk2, if_neg (by omega)]; simp [List.getD, hln]
end Go.Proofs.YtfjcmolccckhhaaDoor

namespace Go.Proofs.YtfjcmolccckhhaaDoor
open Go Go.Ax Go.Eng
set_option linter.unusedVariables false
set_option linter.unusedSimpArgs false
attribute [local irreducible] iadd isub imul iquo irem ibit ineg ieq ine ilt ile ishl ishr beq' bnot and' seq' u8op u8rem u32op u64op u8shr u8shl u64shr u64shl u32shr u32shl i64w u8i u64i iu8 iu32 iu64 u8u64 u64u8 u32u8 u64cmp u8cmp u32cmp llen lget linb lset lcut lrep lapp lcpy lemp fits fitn ieqs sealed drawChk fpSame
set_option maxHeartbeats 1000000
set_option maxRecDepth 100000
theorem ev_tpath_loop (ls : List (List UInt8)) (k : Nat) (hk : k ≤ 3) (hl : ls.length = 2 ^ k) (hm : ∀ l ∈ ls, l.length ≤ 1000000) (i : Int) (hi : 0 ≤ i ∧ i < ls.length) : ∀ (n j : Nat) (acc : List (List UInt8)), j + n = k → acc.length ≤ j →
    Y E0 (.loop 76 0 0 1 [(0, .i i), (6, .nm 0), (27, .sl (.sl (.sl .u8)) ((levB k 0 ls).take k)), (28, .i k), (29, .i j)] [(0, some (.row 22 (.sl .u8) acc))]) = some (.fin (.exit 0) 0 [(6, .sl (.sl .u8) (acc ++ pathR n j (i / 2 ^ j) (upN j 0 ls)))] [])
  | 0, j, acc, hj, ha => by
    rw [pathR, List.append_nil]
    rw [Y_go]; conv => lhs; whnf
    rw [ilt_f (by omega)]
    conv => lhs; whnf
  | n + 1, j, acc, hj, ha => by
    have hun := upN_len j 0 ls (n + 1) (by rw [hl, ← hj])
    have hn2 : 2 ^ (n + 1) = 2 * 2 ^ n := by rw [Nat.pow_succ]; omega
    have hn1 : 1 ≤ 2 ^ n := Nat.one_le_two_pow
    have hn8 : 2 ^ (n + 1) ≤ 8 := by
      have := Nat.pow_le_pow_right (n := 2) (by omega) (show n + 1 ≤ 3 by omega); simpa using this
    have hij : 0 ≤ i / 2 ^ j ∧ i / 2 ^ j < ((2 ^ (n + 1) : Nat) : Int) := by
      refine ⟨Int.ediv_nonneg hi.1 (Int.pow_nonneg (by omega)), Int.ediv_lt_of_lt_mul (Int.pow_pos (by omega)) ?_⟩
      have : (ls.length : Int) = ((2 ^ (n + 1) : Nat) : Int) * 2 ^ j := by rw [hl, ← hj, Nat.add_comm, Nat.pow_add]; simp
      omega
    have hdd : i / 2 ^ (j + 1) = i / 2 ^ j / 2 := by rw [Int.pow_succ, Int.ediv_ediv_of_nonneg (Int.pow_nonneg (by omega))]
    have hsh : ishr i (iu64 (j : Int)).toNat = i / 2 ^ j := by rw [iu64_eq, u64_ofInt (by omega), ishr_eq (by omega)]; simp
    have hus := upN_succ j 0 ls
    rw [Int.zero_add] at hus
    have hg : lget ((levB k 0 ls).take k) (j : Int) = some (upN j 0 ls) := by rw [lget_nat, List.getElem?_take_of_lt (by omega)]; exact levB_get k 0 ls j (by omega)
    have hllen : ((levB k 0 ls).take k).length = k := by rw [List.length_take, levB_len]; omega
    have ih := ev_tpath_loop ls k hk hl hm i hi n (j + 1) (acc ++ [(upN j 0 ls).getD (sib (i / 2 ^ j)).toNat []]) (by omega) (by simp; omega)
    rw [hdd, hus, show ((j + 1 : Nat) : Int) = (j : Int) + 1 from by omega] at ih
    simp only [List.append_assoc, List.cons_append, List.nil_append] at ih
    have hmu := upN_mem j 0 ls hm
    generalize i / 2 ^ j = z at *
    generalize upN j 0 ls = us at *
    have hx := sib_xor (i := z) (by omega)
    have hsb : 0 ≤ sib z ∧ sib z < us.length := by unfold sib; split <;> omega
    have hx1 := hmu _ (List.getElem_mem (l := us) (n := (sib z).toNat) (by omega))
    have hgd : us.getD (sib z).toNat [] = us[(sib z).toNat]'(by omega) := by simp [List.getD, show (sib z).toNat < us.length by omega]
    rw [pathR, hgd]
    rw [hgd] at ih
    rw [Y_go]; conv => lhs; whnf
    rw [ilt_t (by omega)]
    conv => lhs; whnf
    rw [hg]; conv => lhs; whnf
    rw [hsh, hx]; conv => lhs; whnf
    rw [lget_i (by omega)]
    conv => lhs; whnf
    rw [fits_t (by omega)]
    conv => lhs; whnf
    rw [fits_t (by (simp only [sha256_len, LL] at * <;> omega))]
    conv => lhs; whnf
    rw [iadd_eq (by omega)]
    refine (congrArg (Y E0) ?_).trans ih; (try simp only [Rq.loop.injEq, Rq.call.injEq, Rq.ops.injEq, List.cons.injEq, Prod.mk.injEq, AV.i.injEq, AV.sl.injEq, AV.st.injEq, AV.b.injEq, AV.u8.injEq, AV.nm.injEq, Option.some.injEq, Rs.row.injEq, Rs.var.injEq, heq_eq_eq, true_and, and_true]); (try (repeat' apply And.intro)); all_goals first | (with_reducible rfl) | omega | (rw [iadd_eq (by omega)]; omega) | (rw [isub_eq (by omega)]; omega) | (simp only [lapp_eq, List.nil_append])
theorem ev_tpath (i : Int) (ls : List (List UInt8)) (hm : ∀ l ∈ ls, l.length ≤ 1000000) (hn : ls.length ≤ 1000) : Y E0 (.call 76 [.i i, .sl (.sl .u8) ls] []) = some (.ret (.sl (.sl .u8) (pathB i ls)) []) := by
  by_cases h : heightB ls.length < 0
  · rw [Y_go]; conv => lhs; whnf
    rw [toReq_call]
    rw [llen_eq, ev_height]
    conv => lhs; whnf
    rw [ilt_t (by omega)]
    conv => lhs; whnf
    unfold pathB; (repeat (first | rw [if_pos (by first | omega | decide | assumption | (simp only [sha256_len, LL] at * <;> omega) | (simp; omega))] | rw [if_neg (by first | omega | decide | assumption | (simp only [sha256_len, LL] at * <;> omega) | (simp; omega))])); try simp only [NO]
  · obtain ⟨k, hk, hk2, hk3⟩ := height_pow ls.length h
    have hlv := ev_levels k ls hk hk3 hm
    have hll := levB_len k 0 ls
    have hc : lcut (levB k 0 ls) 0 (k : Int) = some ((levB k 0 ls).take k) := by rw [lcut_0 (by omega)]; simp
    have hlt : llen ((levB k 0 ls).take k) = (k : Int) := by rw [llen_eq, List.length_take, hll]; omega
    rw [Y_go]; conv => lhs; whnf
    rw [toReq_call]
    rw [llen_eq, ev_height, hk2]
    conv => lhs; whnf
    rw [ilt_f (by omega)]
    conv => lhs; whnf
    rcases Bool.eq_false_or_eq_true (ilt i 0) with hc0 | hc0
    · rw [hc0]; replace hc0 := of_ilt_t hc0; try simp only [llen_eq] at hc0
      conv => lhs; whnf
      unfold pathB; rw [hk2]; (repeat (first | rw [if_pos (by first | omega | decide | assumption | (simp only [sha256_len, LL] at * <;> omega) | (simp; omega))] | rw [if_neg (by first | omega | decide | assumption | (simp only [sha256_len, LL] at * <;> omega) | (simp; omega))])); try rfl
    · rw [hc0]; replace hc0 := of_ilt_f hc0; try simp only [llen_eq] at hc0
      conv => lhs; whnf
      rcases Bool.eq_false_or_eq_true (ile (llen ls) i) with hc1 | hc1
      · rw [hc1]; replace hc1 := of_ile_t hc1; try simp only [llen_eq] at hc1
        conv => lhs; whnf
        unfold pathB; rw [hk2]; (repeat (first | rw [if_pos (by first | omega | decide | assumption | (simp only [sha256_len, LL] at * <;> omega) | (simp; omega))] | rw [if_neg (by first | omega | decide | assumption | (simp only [sha256_len, LL] at * <;> omega) | (simp; omega))])); try rfl
      · rw [hc1]; replace hc1 := of_ile_f hc1; try simp only [llen_eq] at hc1
        conv => lhs; whnf
        rw [toReq_call]
        rw [hlv]
        conv => lhs; whnf
        rw [hc]; conv => lhs; whnf
        rw [toReq_loop]
        have h0 := ev_tpath_loop ls k hk hk3 hm i (by omega) k 0 [] (by omega) (by simp); rw [show ((0 : Nat) : Int) = 0 from rfl, Int.pow_zero, Int.ediv_one, upN, List.nil_append] at h0; rw [hlt, h0]
        conv => lhs; whnf
        unfold pathB; rw [hk2]; (repeat (first | rw [if_pos (by first | omega | decide | assumption | (simp only [sha256_len, LL] at * <;> omega) | (simp; omega))] | rw [if_neg (by first | omega | decide | assumption | (simp only [sha256_len, LL] at * <;> omega) | (simp; omega))])); try rfl
theorem ev_rpath_loop : ∀ (k h : Nat) (i : Int) (ls acc : List (List UInt8)), k ≤ 3 → ls.length = 2 ^ k → (∀ l ∈ ls, l.length ≤ 1000000) → h + k ≤ 3 → 0 ≤ i ∧ i < ls.length → acc.length ≤ h →
    Y E0 (.loop 46 0 0 1 [(0, .i i), (5, .nm 0), (6, .sl (.sl .u8) ls), (7, .i h)] [(0, some (.row 22 (.sl .u8) acc))]) = some (.fin (.exit 0) 0 [(5, .sl (.sl .u8) (acc ++ pathR k h i ls))] [])
  | 0, h, i, ls, acc, hk, hl, hm, hs, hi, ha => by
    rw [pathR, List.append_nil]
    rw [Y_go]; conv => lhs; whnf
    rw [ilt_f (by (simp only [sha256_len, LL] at * <;> omega))]
    conv => lhs; whnf
  | k + 1, h, i, ls, acc, hk, hl, hm, hs, hi, ha => by
    have hc' : ls.length = 2 * 2 ^ k := by rw [hl, Nat.pow_succ]; omega
    have hk1 : 1 ≤ 2 ^ k := Nat.one_le_two_pow
    have hk2 : 2 ^ k ≤ 4 := by
      have := Nat.pow_le_pow_right (n := 2) (by omega) (show k ≤ 2 by omega); simpa using this
    have hx := sib_xor (i := i) (by omega)
    have hsb : 0 ≤ sib i ∧ sib i < ls.length := by unfold sib; split <;> omega
    have hx1 := hm _ (List.getElem_mem (l := ls) (n := (sib i).toNat) (by omega))
    have hgd : ls.getD (sib i).toNat [] = ls[(sib i).toNat]'(by omega) := by simp [List.getD, show (sib i).toNat < ls.length by omega]
    have ih := ev_rpath_loop k (h + 1) (i / 2) (upB h 0 ls) (acc ++ [ls.getD (sib i).toNat []]) (by omega) (by rw [upB_len _ _ _ _ (Nat.le_refl _)]; omega) (upB_mem h _ 0 ls (Nat.le_refl _)) (by omega) (by rw [upB_len _ _ _ _ (Nat.le_refl _)]; omega) (by simp; omega)
    rw [show ((h + 1 : Nat) : Int) = (h : Int) + 1 from by omega] at ih
    simp only [List.append_assoc, List.cons_append, List.nil_append] at ih
    rw [pathR, hgd]
    rw [hgd] at ih
    rw [Y_go]; conv => lhs; whnf
    rw [ilt_t (by (simp only [sha256_len, LL] at * <;> omega))]
    conv => lhs; whnf
    rw [hx]; conv => lhs; whnf
    rw [lget_i (by omega)]
    conv => lhs; whnf
    rw [toReq_call]
    rw [ev_copy _ (by omega)]
    conv => lhs; whnf
    rw [fits_t (by (simp only [sha256_len, LL] at * <;> omega))]
    conv => lhs; whnf
    rw [toReq_call]
    rw [ev_up _ _ (by omega) (by omega)]
    conv => lhs; whnf
    rw [ieq_f (by omega)]
    conv => lhs; whnf
    rw [iquo_eq (by omega)]
    rw [iadd_eq (by omega)]
    refine (congrArg (Y E0) ?_).trans ih; (try simp only [Rq.loop.injEq, Rq.call.injEq, Rq.ops.injEq, List.cons.injEq, Prod.mk.injEq, AV.i.injEq, AV.sl.injEq, AV.st.injEq, AV.b.injEq, AV.u8.injEq, AV.nm.injEq, Option.some.injEq, Rs.row.injEq, Rs.var.injEq, heq_eq_eq, true_and, and_true]); (try (repeat' apply And.intro)); all_goals first | (with_reducible rfl) | omega | (rw [iadd_eq (by omega)]; omega) | (rw [isub_eq (by omega)]; omega) | (rw [lapp_eq])
theorem ev_rpath (i : Int) (ls : List (List UInt8)) (hm : ∀ l ∈ ls, l.length ≤ 1000000) (hn : ls.length ≤ 1000) : Y E0 (.call 46 [.i i, .sl (.sl .u8) ls] []) = some (.ret (.sl (.sl .u8) (pathB i ls)) []) := by
  by_cases h : heightB ls.length < 0
  · have hf : decide ((ls.length : Int) = 1 ∨ (ls.length : Int) = 2 ∨ (ls.length : Int) = 4 ∨ (ls.length : Int) = 8) = false := by
      unfold heightB at h; rw [decide_eq_false_iff_not]; repeat' split at h
      all_goals omega
    rw [Y_go]; conv => lhs; whnf
    rw [toReq_call]
    rw [llen_eq, ev_fits, hf]
    conv => lhs; whnf
    rw [bnot_eq]; conv => lhs; whnf
    unfold pathB; (repeat (first | rw [if_pos (by first | omega | decide | assumption | (simp only [sha256_len, LL] at * <;> omega) | (simp; omega))] | rw [if_neg (by first | omega | decide | assumption | (simp only [sha256_len, LL] at * <;> omega) | (simp; omega))])); try simp only [NO]
  · obtain ⟨k, hk, hk2, hk3⟩ := height_pow ls.length h
    have hf : decide ((ls.length : Int) = 1 ∨ (ls.length : Int) = 2 ∨ (ls.length : Int) = 4 ∨ (ls.length : Int) = 8) = true := by
      unfold heightB at h; rw [decide_eq_true_iff]; repeat' split at h
      all_goals omega
    rw [Y_go]; conv => lhs; whnf
    rw [toReq_call]
    rw [llen_eq, ev_fits, hf]
    conv => lhs; whnf
    rw [bnot_eq]; conv => lhs; whnf
    rcases Bool.eq_false_or_eq_true (ilt i 0) with hc0 | hc0
    · rw [hc0]; replace hc0 := of_ilt_t hc0; try simp only [llen_eq] at hc0
      conv => lhs; whnf
      unfold pathB; rw [hk2]; (repeat (first | rw [if_pos (by first | omega | decide | assumption | (simp only [sha256_len, LL] at * <;> omega) | (simp; omega))] | rw [if_neg (by first | omega | decide | assumption | (simp only [sha256_len, LL] at * <;> omega) | (simp; omega))])); try rfl
    · rw [hc0]; replace hc0 := of_ilt_f hc0; try simp only [llen_eq] at hc0
      conv => lhs; whnf
      rcases Bool.eq_false_or_eq_true (ile (llen ls) i) with hc1 | hc1
      · rw [hc1]; replace hc1 := of_ile_t hc1; try simp only [llen_eq] at hc1
        conv => lhs; whnf
        unfold pathB; rw [hk2]; (repeat (first | rw [if_pos (by first | omega | decide | assumption | (simp only [sha256_len, LL] at * <;> omega) | (simp; omega))] | rw [if_neg (by first | omega | decide | assumption | (simp only [sha256_len, LL] at * <;> omega) | (simp; omega))])); try rfl
      · rw [hc1]; replace hc1 := of_ile_f hc1; try simp only [llen_eq] at hc1
        conv => lhs; whnf
        rw [toReq_loop]
        have h0 := ev_rpath_loop k 0 i ls [] hk hk3 hm (by omega) (by omega) (by simp); rw [show ((0 : Nat) : Int) = 0 from rfl, List.nil_append] at h0; rw [h0]
        conv => lhs; whnf
        unfold pathB; rw [hk2]; (repeat (first | rw [if_pos (by first | omega | decide | assumption | (simp only [sha256_len, LL] at * <;> omega) | (simp; omega))] | rw [if_neg (by first | omega | decide | assumption | (simp only [sha256_len, LL] at * <;> omega) | (simp; omega))])); try rfl
end Go.Proofs.YtfjcmolccckhhaaDoor

namespace Go.Ax
open Go Go.Eng Go.RowKit
set_option linter.unusedVariables false
set_option linter.unusedSimpArgs false
def signerL : List UInt8 := [115, 105, 103, 110, 101, 114]
def lsB (seed : List UInt8) (h : Int) : List UInt8 := derB seed signerL [UInt8.ofInt h] 32
def lvB (seed : List UInt8) (k : Nat) : List (List UInt8) := (List.range (2 ^ k)).map fun (i : Nat) => publicB (lsB seed k) i
def pubK (seed : List UInt8) (h : Int) : List UInt8 := if 0 ≤ h ∧ h ≤ 3 then UInt8.ofInt h :: rootB (lvB seed h.toNat) else []
def sigK (seed : List UInt8) (h leaf : Int) (m : List UInt8) : List UInt8 :=
  if (0 ≤ h ∧ h ≤ 3) ∧ 0 ≤ leaf ∧ leaf < (2 : Int) ^ h.toNat then UInt8.ofInt leaf :: (signB (lsB seed h) leaf m ++ (pathB leaf (lvB seed h.toNat)).flatten) else []
def chunkB : Nat → List UInt8 → List (List UInt8)
  | 0, _ => []
  | k + 1, s => s.take 16 :: chunkB k (s.drop 16)
def formK (p s : List UInt8) : Prop := p.length = 17 ∧ (p.getD 0 0).toNat ≤ 3 ∧ s.length = 561 + 16 * (p.getD 0 0).toNat ∧ (s.getD 0 0).toNat < 2 ^ (p.getD 0 0).toNat
instance (p s : List UInt8) : Decidable (formK p s) := by unfold formK; exact inferInstance
def rootK (p m s : List UInt8) : List UInt8 := climbB (recB (s.getD 0 0).toNat m ((s.drop 1).take 560)).1 (s.getD 0 0).toNat (chunkB (p.getD 0 0).toNat (s.drop 561))
def verK (p m s : List UInt8) : Int × Bool := if formK p s ∧ rootK p m s = p.drop 1 then (((s.getD 0 0).toNat : Int), true) else (0, false)
theorem lsB_len (seed : List UInt8) (h : Int) : (lsB seed h).length = 32 := derB_len (by omega)
theorem lvB_len (seed : List UInt8) (k : Nat) : (lvB seed k).length = 2 ^ k := by simp [lvB]
theorem pow_le8 {k : Nat} (h : k ≤ 3) : 1 ≤ 2 ^ k ∧ 2 ^ k ≤ 8 := ⟨Nat.one_le_two_pow, Nat.le_trans (Nat.pow_le_pow_right (by omega) h) (by decide)⟩
theorem pow_int (k : Nat) : (2 : Int) ^ k = ((2 ^ k : Nat) : Int) := by simp
theorem public16 {seed : List UInt8} {i : Int} (h : 0 ≤ i ∧ i ≤ 255) : (publicB seed i).length = 16 := by rw [publicB, if_pos h, valueB_len]
theorem lvB_16 {seed : List UInt8} {k : Nat} (hk : k ≤ 3) : ∀ x ∈ lvB seed k, x.length = 16 := by
  intro x hx
  have := pow_le8 hk
  simp only [lvB, List.mem_map, List.mem_range] at hx
  obtain ⟨i, hi, rfl⟩ := hx
  exact public16 (by omega)
theorem lvB_mem {seed : List UInt8} {k : Nat} (hk : k ≤ 3) : ∀ x ∈ lvB seed k, x.length ≤ 1000000 := fun x hx => by rw [lvB_16 hk x hx]; decide
theorem lvB_n {seed : List UInt8} {k : Nat} (hk : k ≤ 3) : (lvB seed k).length ≤ 1000 := by rw [lvB_len]; have := pow_le8 hk; omega
theorem lvB_get {seed : List UInt8} {k i : Nat} (hi : i < 2 ^ k) : (lvB seed k).getD i [] = publicB (lsB seed k) i := by
  rw [List.getD, List.getElem?_eq_getElem (by rw [lvB_len]; exact hi)]; simp [lvB]
theorem node16 (h i : Int) (l r : List UInt8) : (nodeB h i l r).length = 16 := by simp [nodeB, sha256_len]
theorem upB_16 (h : Int) : ∀ (n : Nat) (i : Int) (ls : List (List UInt8)), ls.length ≤ n → ∀ x ∈ upB h i ls, x.length = 16
  | 0, i, ls, hl => by rw [upB_one _ _ _ (by omega)]; intro x hx; cases hx
  | n + 1, i, [], _ => by intro x hx; cases hx
  | n + 1, i, [_], _ => by intro x hx; cases hx
  | n + 1, i, l :: r :: t, hl => by
    intro x hx
    simp only [upB, List.mem_cons] at hx
    rcases hx with rfl | hx
    · exact node16 _ _ _ _
    · exact upB_16 h n (i + 1) t (by simp at hl; omega) x hx
theorem pathR_16 : ∀ (k : Nat) (h i : Int) (ls : List (List UInt8)), ls.length = 2 ^ k → 0 ≤ i → i < ls.length → (∀ l ∈ ls, l.length = 16) → ∀ l ∈ pathR k h i ls, l.length = 16
  | 0, h, i, ls, _, _, _, hm, l, hl => by cases hl
  | k + 1, h, i, ls, hn, h0, hi, hm, l, hl => by
    rw [pathR] at hl
    have hu : (upB h 0 ls).length = 2 ^ k := by rw [upB_len h _ 0 ls (Nat.le_refl _), hn, Nat.pow_succ]; omega
    have h2 : (ls.length : Int) = 2 * (2 ^ k : Nat) := by rw [hn, Nat.pow_succ]; omega
    rcases List.mem_cons.1 hl with rfl | hl
    · have hs : (sib i).toNat < ls.length := by unfold sib; split <;> omega
      simp only [List.getD, List.getElem?_eq_getElem hs, Option.getD_some]; exact hm _ (List.getElem_mem hs)
    · exact pathR_16 k (h + 1) (i / 2) _ hu (by omega) (by rw [hu]; omega) (upB_16 h _ 0 ls (Nat.le_refl _)) l hl
theorem path_of {seed : List UInt8} {k : Nat} {i : Int} (hk : k ≤ 3) (h0 : 0 ≤ i) (hi : i < (2 : Int) ^ k) : (pathB i (lvB seed k)).length = k ∧ ∀ l ∈ pathB i (lvB seed k), l.length = 16 := by
  have hl := lvB_len seed k
  have hh := height_of hk hl
  rw [pow_int] at hi
  have hp : pathB i (lvB seed k) = pathR k 0 i (lvB seed k) := by unfold pathB; rw [hh, if_neg (by rw [hl]; omega), Int.toNat_natCast]
  rw [hp]
  exact ⟨pathR_len _ _ _ _, pathR_16 k 0 i _ hl h0 (by rw [hl]; exact hi) (lvB_16 hk)⟩
theorem root_16 {seed : List UInt8} {k : Nat} (hk : k ≤ 3) : (rootB (lvB seed k)).length = 16 := by
  have hl := lvB_len seed k
  rcases Nat.eq_zero_or_pos k with rfl | hp
  · have hh := height_of hk hl
    unfold rootB
    rw [hh, if_neg (by omega), show ((0 : Nat) : Int).toNat = 0 from rfl, upN, lvB_get (by simp)]
    exact public16 (by omega)
  · exact root16 hk hl (by rw [hl]; exact Nat.one_lt_two_pow (by omega))
theorem pubK_len {seed : List UInt8} {h : Int} (hh : 0 ≤ h ∧ h ≤ 3) : (pubK seed h).length = 17 := by
  rw [pubK, if_pos hh, List.length_cons, root_16 (by omega)]
theorem pubK_le (seed : List UInt8) (h : Int) : (pubK seed h).length ≤ 17 := by
  by_cases hh : 0 ≤ h ∧ h ≤ 3
  · rw [pubK_len hh]; exact Nat.le_refl _
  · rw [pubK, if_neg hh]; simp
theorem flatn_len {n : Nat} : ∀ {l : List (List UInt8)}, (∀ x ∈ l, x.length = n) → l.flatten.length = n * l.length
  | [], _ => by simp
  | x :: l, h => by rw [List.flatten_cons, List.length_append, h x (by simp), flatn_len (fun y hy => h y (by simp [hy])), List.length_cons, Nat.mul_succ]; omega
theorem sigK_len {seed m : List UInt8} {h leaf : Int} (hh : 0 ≤ h ∧ h ≤ 3) (hl : 0 ≤ leaf ∧ leaf < (2 : Int) ^ h.toNat) : (sigK seed h leaf m).length = 561 + 16 * h.toNat := by
  have h8 := pow_le8 (k := h.toNat) (by omega)
  have hi := hl
  rw [pow_int] at hi
  obtain ⟨p1, p2⟩ := path_of (seed := seed) (k := h.toNat) (i := leaf) (by omega) hl.1 hl.2
  rw [sigK, if_pos ⟨hh, hl⟩, List.length_cons, List.length_append, signB_len (by omega), flatn_len p2, p1]; omega
theorem chunk_flat : ∀ (l : List (List UInt8)), (∀ x ∈ l, x.length = 16) → chunkB l.length l.flatten = l
  | [], _ => rfl
  | x :: l, h => by
    have hx := h x (by simp)
    rw [List.length_cons, List.flatten_cons, chunkB, List.take_left' hx, List.drop_left' hx, chunk_flat l (fun y hy => h y (by simp [hy]))]
theorem chunk_len : ∀ (k : Nat) (s : List UInt8), (chunkB k s).length = k
  | 0, _ => rfl
  | k + 1, s => by rw [chunkB, List.length_cons, chunk_len k]
theorem chunk_mem : ∀ (k : Nat) (s : List UInt8), ∀ x ∈ chunkB k s, x.length ≤ 1000000
  | 0, _, x, hx => by cases hx
  | k + 1, s, x, hx => by
    rw [chunkB] at hx
    rcases List.mem_cons.1 hx with rfl | hx
    · rw [List.length_take]; omega
    · exact chunk_mem k _ x hx
theorem sig_root {seed m : List UInt8} {h leaf : Int} (hh : 0 ≤ h ∧ h ≤ 3) (hl : 0 ≤ leaf ∧ leaf < (2 : Int) ^ h.toNat) :
    formK (pubK seed h) (sigK seed h leaf m) ∧ (pubK seed h).drop 1 = rootB (lvB seed h.toNat) ∧ rootK (pubK seed h) m (sigK seed h leaf m) = rootB (lvB seed h.toNat) ∧ ((sigK seed h leaf m).getD 0 0).toNat = leaf.toNat := by
  obtain ⟨k, rfl⟩ : ∃ k : Nat, h = k := ⟨h.toNat, by omega⟩
  have hk : k ≤ 3 := by omega
  rw [Int.toNat_natCast] at *
  have h8 := pow_le8 hk
  have hp := pow_int k
  obtain ⟨i, rfl⟩ : ∃ i : Nat, leaf = i := ⟨leaf.toNat, by omega⟩
  obtain ⟨p1, p2⟩ := path_of (seed := seed) (k := k) (i := (i : Int)) hk (by omega) (by omega)
  have e1 : pubK seed (k : Int) = UInt8.ofInt (k : Int) :: rootB (lvB seed k) := by rw [pubK, if_pos hh, Int.toNat_natCast]
  have hs := signB_len (seed := lsB seed k) (m := m) (leaf := (i : Int)) (by omega)
  have e2 : sigK seed (k : Int) (i : Int) m = UInt8.ofInt (i : Int) :: (signB (lsB seed k) i m ++ (pathB (i : Int) (lvB seed k)).flatten) := by rw [sigK, if_pos ⟨hh, by rw [Int.toNat_natCast]; exact hl⟩, Int.toNat_natCast]
  have n1 : (UInt8.ofInt (k : Int)).toNat = k := by rw [UInt8.ofInt, UInt8.toNat_ofNat']; omega
  have n2 : (UInt8.ofInt (i : Int)).toNat = i := by rw [UInt8.ofInt, UInt8.toNat_ofNat']; omega
  have g1 : (pubK seed (k : Int)).getD 0 0 = UInt8.ofInt (k : Int) := by rw [e1]; rfl
  have g2 : (sigK seed (k : Int) (i : Int) m).getD 0 0 = UInt8.ofInt (i : Int) := by rw [e2]; rfl
  have d1 : ((sigK seed (k : Int) (i : Int) m).drop 1).take 560 = signB (lsB seed k) i m := by rw [e2, List.drop_one, List.tail_cons, List.take_left' hs]
  have d2 : (sigK seed (k : Int) (i : Int) m).drop 561 = (pathB (i : Int) (lvB seed k)).flatten := by rw [e2, List.drop_succ_cons, List.drop_left' hs]
  refine ⟨⟨pubK_len hh, ?_, ?_, ?_⟩, by rw [e1]; rfl, ?_, by rw [g2, n2]; omega⟩
  · rw [g1, n1]; exact hk
  · rw [g1, n1, sigK_len hh (by rw [Int.toNat_natCast]; exact hl), Int.toNat_natCast]
  · rw [g1, g2, n1, n2]; omega
  · rw [rootK, g1, g2, n1, n2, d1, d2, ot_trip (by omega)]
    have hc := chunk_flat _ p2
    rw [p1] at hc
    rw [hc]
    have ht := (trip' hk (lvB_len seed k) (i := (i : Int)) (by omega) (by rw [lvB_len]; omega)).2
    rw [Int.toNat_natCast, lvB_get (by omega)] at ht
    exact ht
theorem verK_cons {a b : UInt8} {p' s' m : List UInt8} {k i : Nat} (hk : a.toNat = k) (hi : b.toNat = i) (hp : (a :: p').length = 17) (hk3 : k ≤ 3) (hs : (b :: s').length = 561 + 16 * k) (hi2 : i < 2 ^ k) :
    verK (a :: p') m (b :: s') = if climbB (recB (i : Int) m (((b :: s').drop 1).take 560)).1 (i : Int) (chunkB k ((b :: s').drop 561)) = p' then ((i : Int), true) else (0, false) := by
  subst hk; subst hi
  have hf : formK (a :: p') (b :: s') := ⟨hp, hk3, hs, hi2⟩
  have hr : rootK (a :: p') m (b :: s') = climbB (recB (b.toNat : Int) m (((b :: s').drop 1).take 560)).1 (b.toNat : Int) (chunkB a.toNat ((b :: s').drop 561)) := rfl
  have hd : (a :: p').drop 1 = p' := rfl
  unfold verK
  rw [hr, hd]
  by_cases hq : climbB (recB (b.toNat : Int) m (((b :: s').drop 1).take 560)).1 (b.toNat : Int) (chunkB a.toNat ((b :: s').drop 561)) = p'
  · rw [if_pos ⟨hf, hq⟩, if_pos hq]; rfl
  · rw [if_neg (fun h => hq h.2), if_neg hq]
theorem verK_no {p m s : List UInt8} (h : ¬ formK p s) : verK p m s = (0, false) := by rw [verK, if_neg (fun e => h e.1)]
theorem sig_trip {seed m : List UInt8} {h leaf : Int} (hh : 0 ≤ h ∧ h ≤ 3) (hl : 0 ≤ leaf ∧ leaf < (2 : Int) ^ h.toNat) : verK (pubK seed h) m (sigK seed h leaf m) = (leaf, true) := by
  obtain ⟨q1, q2, q3, q4⟩ := sig_root (seed := seed) (m := m) hh hl
  rw [verK, if_pos ⟨q1, by rw [q3, q2]⟩, q4]
  congr 1; omega
end Go.Ax

namespace Go.Proofs.YtfjcmolccckhhaaDoor
open Go Go.Ax Go.Eng
set_option linter.unusedVariables false
set_option linter.unusedSimpArgs false
attribute [local irreducible] iadd isub imul iquo irem ibit ineg ieq ine ilt ile ishl ishr beq' bnot and' seq' u8op u8rem u32op u64op u8shr u8shl u64shr u64shl u32shr u32shl i64w u8i u64i iu8 iu32 iu64 u8u64 u64u8 u32u8 u64cmp u8cmp u32cmp llen lget linb lset lcut lrep lapp lcpy lemp fits fitn ieqs sealed drawChk fpSame
attribute [local irreducible] lsB lvB pubK sigK publicB signB recB rootB pathB climbB chunkB
set_option maxHeartbeats 4000000
set_option maxRecDepth 100000
theorem ev_svalid (h : Int) : Y E0 (.call 47 [.i h] []) = some (.ret (.b (decide (0 ≤ h ∧ h ≤ 3))) []) := by
  rw [Y_go]; conv => lhs; whnf
  rcases Bool.eq_false_or_eq_true (ile 0 h) with hc0 | hc0
  · rw [hc0]; replace hc0 := of_ile_t hc0; try simp only [llen_eq] at hc0
    conv => lhs; whnf
    exact congrArg (fun b => some (Rsp.ret (AV.b b) [])) (by rw [ile_eq]; apply decide_eq_decide.2; omega)
  · rw [hc0]; replace hc0 := of_ile_f hc0; try simp only [llen_eq] at hc0
    conv => lhs; whnf
    rw [decide_eq_false (by omega)]
theorem ev_lseed (seed : List UInt8) (h : Int) (hs : seed.length ≤ 1000000) : Y E0 (.call 75 [.sl .u8 seed, .i h] []) = some (.ret (.sl .u8 (lsB seed h)) []) := by
  rw [Y_go]; conv => lhs; whnf
  dsimp -iota -beta -eta -zeta only
  rw [toReq_call]
  rw [show strOf { data := #[115, 105, 103, 110, 101, 114] } = signerL from rfl, ev_derive _ _ _ _ (by omega) (by decide) (by simp), iu8_eq]
  conv => lhs; whnf
  (unfold lsB; rfl)
theorem ev_rlseed (seed : List UInt8) (h : Int) (hs : seed.length ≤ 1000000) : Y E0 (.call 45 [.sl .u8 seed, .i h] []) = some (.ret (.sl .u8 (lsB seed h)) []) := by
  rw [Y_go]; conv => lhs; whnf
  dsimp -iota -beta -eta -zeta only
  rw [toReq_call]
  rw [show strOf { data := #[115, 105, 103, 110, 101, 114] } = signerL from rfl, ev_rderive _ _ _ _ (by omega) (by decide) (by simp), iu8_eq]
  conv => lhs; whnf
  (unfold lsB; rfl)
theorem ev_leaves_loop (seed : List UInt8) (k N : Nat) (hk : k ≤ 3) (hN : N = 2 ^ k) : ∀ (n j : Nat), j + n = N → Y E0 (.loop 73 0 0 1 [(5, .sl .u8 (lsB seed k)), (6, .nm 0), (13, .i (N : Int)), (14, .i (j : Int))] [(0, some (.row 22 (.sl .u8) ((lvB seed k).take j)))]) = some (.fin (.exit 0) 0 [(6, .sl (.sl .u8) (lvB seed k))] [])
  | 0, j, hj => by
    have hl := lvB_len seed k
    rw [List.take_of_length_le (by omega)]
    rw [Y_go]; conv => lhs; whnf
    rw [ilt_f (by omega)]
    conv => lhs; whnf
  | n + 1, j, hj => by
    have h8 := pow_le8 hk
    have hl := lvB_len seed k
    have ih := ev_leaves_loop seed k N hk hN n (j + 1) (by omega)
    have ht : (lvB seed k).take j ++ [publicB (lsB seed k) j] = (lvB seed k).take (j + 1) := by
      have hg := lvB_get (seed := seed) (k := k) (i := j) (by omega)
      rw [List.getD, List.getElem?_eq_getElem (by omega), Option.getD_some] at hg
      rw [List.take_succ_eq_append_getElem (by omega), hg]
    have hs := lsB_len seed k
    rw [Y_go]; conv => lhs; whnf
    rw [ilt_t (by omega)]
    conv => lhs; whnf
    dsimp -iota -beta -eta -zeta only
    rw [toReq_call]
    rw [ev_public _ _ (by omega)]
    conv => lhs; whnf
    rw [fits_t (by (simp only [sha256_len, lsB_len, lvB_len, chunk_len, LL] at * <;> omega))]
    conv => lhs; whnf
    dsimp -iota -beta -eta -zeta only
    rw [iadd_eq (by omega)]
    refine (congrArg (Y E0) ?_).trans ih; (try simp only [Rq.loop.injEq, Rq.call.injEq, Rq.ops.injEq, List.cons.injEq, Prod.mk.injEq, AV.i.injEq, AV.sl.injEq, AV.st.injEq, AV.b.injEq, AV.u8.injEq, AV.nm.injEq, Option.some.injEq, Rs.row.injEq, Rs.var.injEq, heq_eq_eq, true_and, and_true]); (try (repeat' apply And.intro)); all_goals first | (with_reducible rfl) | omega | (rw [iadd_eq (by omega)]; omega) | (rw [isub_eq (by omega)]; omega) | (rw [lapp_eq]; exact ht)
theorem ev_leaves (seed : List UInt8) (k : Nat) (hk : k ≤ 3) (hs : seed.length ≤ 1000000) : Y E0 (.call 73 [.sl .u8 seed, .i (k : Int)] []) = some (.ret (.sl (.sl .u8) (lvB seed k)) []) := by
  have hsh : ishl 1 (iu64 (k : Int)).toNat = ((2 ^ k : Nat) : Int) := by rw [ishl1n (by omega), pow_int]
  have hl := ev_leaves_loop seed k _ hk rfl (2 ^ k) 0 (by omega)
  rw [List.take_zero, show ((0 : Nat) : Int) = 0 from rfl] at hl
  rw [Y_go]; conv => lhs; whnf
  dsimp -iota -beta -eta -zeta only
  rw [toReq_call]
  rw [ev_lseed _ _ (by omega)]
  conv => lhs; whnf
  dsimp -iota -beta -eta -zeta only
  rw [toReq_loop]
  rw [hsh, hl]
  conv => lhs; whnf
theorem ev_rleaves_loop (seed : List UInt8) (k N : Nat) (hk : k ≤ 3) (hN : N = 2 ^ k) : ∀ (n j : Nat), j + n = N → Y E0 (.loop 43 0 0 1 [(1, .i (k : Int)), (5, .nm 0), (6, .sl .u8 (lsB seed k)), (7, .i (j : Int))] [(0, some (.row 22 (.sl .u8) ((lvB seed k).take j)))]) = some (.fin (.exit 0) 0 [(5, .sl (.sl .u8) (lvB seed k))] [])
  | 0, j, hj => by
    have hl := lvB_len seed k
    have hsh : ishl 1 (iu64 (k : Int)).toNat = (N : Int) := by rw [ishl1n (by omega), pow_int, hN]
    rw [List.take_of_length_le (by omega)]
    rw [Y_go]; conv => lhs; whnf
    rw [hsh]; conv => lhs; whnf
    rw [ilt_f (by omega)]
    conv => lhs; whnf
  | n + 1, j, hj => by
    have h8 := pow_le8 hk
    have hl := lvB_len seed k
    have hsh : ishl 1 (iu64 (k : Int)).toNat = (N : Int) := by rw [ishl1n (by omega), pow_int, hN]
    have ih := ev_rleaves_loop seed k N hk hN n (j + 1) (by omega)
    have ht : (lvB seed k).take j ++ [publicB (lsB seed k) j] = (lvB seed k).take (j + 1) := by
      have hg := lvB_get (seed := seed) (k := k) (i := j) (by omega)
      rw [List.getD, List.getElem?_eq_getElem (by omega), Option.getD_some] at hg
      rw [List.take_succ_eq_append_getElem (by omega), hg]
    have hs := lsB_len seed k
    rw [Y_go]; conv => lhs; whnf
    rw [hsh]; conv => lhs; whnf
    rw [ilt_t (by omega)]
    conv => lhs; whnf
    dsimp -iota -beta -eta -zeta only
    rw [toReq_call]
    rw [ev_rpublic _ _ (by omega)]
    conv => lhs; whnf
    rw [fits_t (by (simp only [sha256_len, lsB_len, lvB_len, chunk_len, LL] at * <;> omega))]
    conv => lhs; whnf
    dsimp -iota -beta -eta -zeta only
    rw [iadd_eq (by omega)]
    refine (congrArg (Y E0) ?_).trans ih; (try simp only [Rq.loop.injEq, Rq.call.injEq, Rq.ops.injEq, List.cons.injEq, Prod.mk.injEq, AV.i.injEq, AV.sl.injEq, AV.st.injEq, AV.b.injEq, AV.u8.injEq, AV.nm.injEq, Option.some.injEq, Rs.row.injEq, Rs.var.injEq, heq_eq_eq, true_and, and_true]); (try (repeat' apply And.intro)); all_goals first | (with_reducible rfl) | omega | (rw [iadd_eq (by omega)]; omega) | (rw [isub_eq (by omega)]; omega) | (rw [lapp_eq]; exact ht)
theorem ev_rleaves (seed : List UInt8) (k : Nat) (hk : k ≤ 3) (hs : seed.length ≤ 1000000) : Y E0 (.call 43 [.sl .u8 seed, .i (k : Int)] []) = some (.ret (.sl (.sl .u8) (lvB seed k)) []) := by
  have hl := ev_rleaves_loop seed k _ hk rfl (2 ^ k) 0 (by omega)
  rw [List.take_zero, show ((0 : Nat) : Int) = 0 from rfl] at hl
  rw [Y_go]; conv => lhs; whnf
  dsimp -iota -beta -eta -zeta only
  rw [toReq_call]
  rw [ev_rlseed _ _ (by omega)]
  conv => lhs; whnf
  dsimp -iota -beta -eta -zeta only
  rw [toReq_loop]
  rw [hl]
  conv => lhs; whnf
theorem ev_spub (seed : List UInt8) (h : Int) (hs : seed.length ≤ 1000000) : Y E0 (.call 40 [.sl .u8 seed, .i h] []) = some (.ret (.sl .u8 (pubK seed h)) []) := by
  by_cases hh : 0 ≤ h ∧ h ≤ 3
  · obtain ⟨k, rfl⟩ : ∃ k : Nat, h = k := ⟨h.toNat, by omega⟩
    have hk : k ≤ 3 := by omega
    have hr := root_16 (seed := seed) hk
    rw [Y_go]; conv => lhs; whnf
    dsimp -iota -beta -eta -zeta only
    rw [toReq_call]
    rw [ev_svalid, decide_eq_true hh]
    conv => lhs; whnf
    rw [bnot_eq]; conv => lhs; whnf
    dsimp -iota -beta -eta -zeta only
    rw [toReq_call]
    rw [ev_leaves _ _ hk hs]
    conv => lhs; whnf
    dsimp -iota -beta -eta -zeta only
    rw [toReq_call]
    rw [ev_troot _ (lvB_mem hk) (lvB_n hk)]
    conv => lhs; whnf
    rw [fits_t (by (simp only [sha256_len, lsB_len, lvB_len, chunk_len, LL] at * <;> omega))]
    conv => lhs; whnf
    (rw [pubK, if_pos hh, Int.toNat_natCast, lapp_eq, iu8_eq]; rfl)
  · rw [Y_go]; conv => lhs; whnf
    dsimp -iota -beta -eta -zeta only
    rw [toReq_call]
    rw [ev_svalid, decide_eq_false hh]
    conv => lhs; whnf
    rw [bnot_eq]; conv => lhs; whnf
    (rw [pubK, if_neg hh])
theorem ev_rspub (seed : List UInt8) (h : Int) (hs : seed.length ≤ 1000000) : Y E0 (.call 16 [.sl .u8 seed, .i h] []) = some (.ret (.nm 0) [some (.row 5 .u8 (pubK seed h))]) := by
  by_cases hh : 0 ≤ h ∧ h ≤ 3
  · obtain ⟨k, rfl⟩ : ∃ k : Nat, h = k := ⟨h.toNat, by omega⟩
    have hk : k ≤ 3 := by omega
    have hr := root_16 (seed := seed) hk
    rw [Y_go]; conv => lhs; whnf
    rw [ilt_f (by omega)]
    conv => lhs; whnf
    rw [ilt_f (by omega)]
    conv => lhs; whnf
    dsimp -iota -beta -eta -zeta only
    rw [toReq_call]
    rw [ev_rleaves _ _ hk hs]
    conv => lhs; whnf
    dsimp -iota -beta -eta -zeta only
    rw [toReq_call]
    rw [ev_rroot _ (lvB_mem hk) (lvB_n hk)]
    conv => lhs; whnf
    rw [fits_t (by (simp only [sha256_len, lsB_len, lvB_len, chunk_len, LL] at * <;> omega))]
    conv => lhs; whnf
    (rw [pubK, if_pos hh, Int.toNat_natCast, lapp_eq, iu8_eq]; rfl)
  · rw [Y_go]; conv => lhs; whnf
    rcases Bool.eq_false_or_eq_true (ilt h 0) with hc0 | hc0
    · rw [hc0]; replace hc0 := of_ilt_t hc0; try simp only [llen_eq] at hc0
      conv => lhs; whnf
      (rw [pubK, if_neg hh])
    · rw [hc0]; replace hc0 := of_ilt_f hc0; try simp only [llen_eq] at hc0
      conv => lhs; whnf
      rw [ilt_t (by omega)]
      conv => lhs; whnf
      (rw [pubK, if_neg hh])
theorem ev_ssign_loop (P : List (List UInt8)) (hP : ∀ l ∈ P, l.length = 16) (hn : P.length ≤ 3) : ∀ (n j : Nat) (acc : List UInt8), j + n = P.length → acc.length ≤ 1000 + 16 * j → Y E0 (.loop 41 0 0 1 [(9, .nm 0), (40, .sl (.sl .u8) P), (41, .i P.length), (42, .i (j : Int))] [(0, some (.row 5 .u8 acc))]) = some (.fin (.exit 0) 0 [(9, .sl .u8 (acc ++ (P.drop j).flatten))] [])
  | 0, j, acc, hj, ha => by
    rw [List.drop_eq_nil_of_le (by omega), List.flatten_nil, List.append_nil]
    rw [Y_go]; conv => lhs; whnf
    rw [ilt_f (by omega)]
    conv => lhs; whnf
  | n + 1, j, acc, hj, ha => by
    have hx := hP _ (List.getElem_mem (l := P) (n := j) (by omega))
    have hg : lget P (j : Int) = some (P[j]'(by omega)) := lget_n (by omega)
    have ih := ev_ssign_loop P hP hn n (j + 1) (acc ++ P[j]'(by omega)) (by omega) (by rw [List.length_append]; omega)
    have hd := List.drop_eq_getElem_cons (l := P) (i := j) (by omega)
    rw [List.append_assoc, ← List.flatten_cons, ← hd] at ih
    clear hd
    rw [Y_go]; conv => lhs; whnf
    rw [ilt_t (by omega)]
    conv => lhs; whnf
    rw [hg]; conv => lhs; whnf
    rw [fits_t (by (simp only [sha256_len, lsB_len, lvB_len, chunk_len, LL] at * <;> omega))]
    conv => lhs; whnf
    dsimp -iota -beta -eta -zeta only
    rw [iadd_eq (by omega)]
    refine (congrArg (Y E0) ?_).trans ih; (try simp only [Rq.loop.injEq, Rq.call.injEq, Rq.ops.injEq, List.cons.injEq, Prod.mk.injEq, AV.i.injEq, AV.sl.injEq, AV.st.injEq, AV.b.injEq, AV.u8.injEq, AV.nm.injEq, Option.some.injEq, Rs.row.injEq, Rs.var.injEq, heq_eq_eq, true_and, and_true]); (try (repeat' apply And.intro)); all_goals first | (with_reducible rfl) | omega | (rw [iadd_eq (by omega)]; omega) | (rw [isub_eq (by omega)]; omega) | rw [lapp_eq]
theorem ev_ssign (seed : List UInt8) (h leaf : Int) (m : List UInt8) (hs : seed.length ≤ 1000000) (hm : m.length ≤ 1000000) : Y E0 (.call 41 [.sl .u8 seed, .i h, .i leaf, .sl .u8 m] []) = some (.ret (.sl .u8 (sigK seed h leaf m)) []) := by
  by_cases hh : 0 ≤ h ∧ h ≤ 3
  · obtain ⟨k, rfl⟩ : ∃ k : Nat, h = k := ⟨h.toNat, by omega⟩
    have hk : k ≤ 3 := by omega
    have h8 := pow_le8 hk
    have hsh : ishl 1 (iu64 (k : Int)).toNat = ((2 ^ k : Nat) : Int) := by rw [ishl1n (by omega), pow_int]
    have hl := lsB_len seed k
    by_cases hc : 0 ≤ leaf ∧ leaf < ((2 ^ k : Nat) : Int)
    · have hsb := signB_len (seed := lsB seed k) (m := m) (leaf := leaf) (by omega)
      obtain ⟨p1, p2⟩ := path_of (seed := seed) (k := k) (i := leaf) hk (by omega) (by rw [pow_int]; omega)
      have hlp := ev_ssign_loop _ p2 (by omega) (pathB leaf (lvB seed k)).length 0 (lapp [iu8 leaf] (signB (lsB seed k) leaf m)) (by omega) (by rw [lapp_eq, List.length_append, hsb]; simp)
      rw [List.drop_zero, show ((0 : Nat) : Int) = 0 from rfl] at hlp
      rw [Y_go]; conv => lhs; whnf
      dsimp -iota -beta -eta -zeta only
      rw [toReq_call]
      rw [ev_svalid, decide_eq_true hh]
      conv => lhs; whnf
      rw [bnot_eq]; conv => lhs; whnf
      rw [ilt_f (by omega)]
      conv => lhs; whnf
      rw [hsh]; conv => lhs; whnf
      rw [ile_f (by omega)]
      conv => lhs; whnf
      dsimp -iota -beta -eta -zeta only
      rw [toReq_call]
      rw [ev_lseed _ _ (by omega)]
      conv => lhs; whnf
      dsimp -iota -beta -eta -zeta only
      rw [toReq_call]
      rw [ev_sign _ _ _ (by omega) (by omega)]
      conv => lhs; whnf
      rw [fits_t (by (simp only [sha256_len, lsB_len, lvB_len, chunk_len, LL] at * <;> omega))]
      conv => lhs; whnf
      dsimp -iota -beta -eta -zeta only
      rw [toReq_call]
      rw [ev_leaves _ _ hk hs]
      conv => lhs; whnf
      dsimp -iota -beta -eta -zeta only
      rw [toReq_call]
      rw [ev_tpath _ _ (lvB_mem hk) (lvB_n hk)]
      conv => lhs; whnf
      dsimp -iota -beta -eta -zeta only
      rw [toReq_loop]
      rw [llen_eq, hlp]
      conv => lhs; whnf
      (rw [sigK, if_pos ⟨hh, by rw [Int.toNat_natCast, pow_int]; exact hc⟩, Int.toNat_natCast, lapp_eq, iu8_eq]; rfl)
    · rw [Y_go]; conv => lhs; whnf
      dsimp -iota -beta -eta -zeta only
      rw [toReq_call]
      rw [ev_svalid, decide_eq_true hh]
      conv => lhs; whnf
      rw [bnot_eq]; conv => lhs; whnf
      rcases Bool.eq_false_or_eq_true (ilt leaf 0) with hc0 | hc0
      · rw [hc0]; replace hc0 := of_ilt_t hc0; try simp only [llen_eq] at hc0
        conv => lhs; whnf
        (rw [sigK, if_neg (by rw [Int.toNat_natCast, pow_int]; omega)])
      · rw [hc0]; replace hc0 := of_ilt_f hc0; try simp only [llen_eq] at hc0
        conv => lhs; whnf
        rw [hsh]; conv => lhs; whnf
        rw [ile_t (by omega)]
        conv => lhs; whnf
        (rw [sigK, if_neg (by rw [Int.toNat_natCast, pow_int]; omega)])
  · rw [Y_go]; conv => lhs; whnf
    dsimp -iota -beta -eta -zeta only
    rw [toReq_call]
    rw [ev_svalid, decide_eq_false hh]
    conv => lhs; whnf
    rw [bnot_eq]; conv => lhs; whnf
    (rw [sigK, if_neg (by omega)])
theorem ev_rssign_loop (P : List (List UInt8)) (hP : ∀ l ∈ P, l.length = 16) (hn : P.length ≤ 3) : ∀ (n j : Nat) (acc : List UInt8), j + n = P.length → acc.length ≤ 1000 + 16 * j → Y E0 (.loop 17 0 0 1 [(9, .nm 0), (10, .sl (.sl .u8) P), (11, .i (j : Int))] [(0, some (.row 5 .u8 acc))]) = some (.fin (.exit 0) 1 [(9, .nm 0)] [(0, some (.row 5 .u8 (acc ++ (P.drop j).flatten)))])
  | 0, j, acc, hj, ha => by
    rw [List.drop_eq_nil_of_le (by omega), List.flatten_nil, List.append_nil]
    rw [Y_go]; conv => lhs; whnf
    rw [ilt_f (by (simp only [sha256_len, lsB_len, lvB_len, chunk_len, LL] at * <;> omega))]
    conv => lhs; whnf
  | n + 1, j, acc, hj, ha => by
    have hx := hP _ (List.getElem_mem (l := P) (n := j) (by omega))
    have hg : lget P (j : Int) = some (P[j]'(by omega)) := lget_n (by omega)
    have ih := ev_rssign_loop P hP hn n (j + 1) (acc ++ P[j]'(by omega)) (by omega) (by rw [List.length_append]; omega)
    have hd := List.drop_eq_getElem_cons (l := P) (i := j) (by omega)
    rw [List.append_assoc, ← List.flatten_cons, ← hd] at ih
    clear hd
    rw [Y_go]; conv => lhs; whnf
    rw [ilt_t (by (simp only [sha256_len, lsB_len, lvB_len, chunk_len, LL] at * <;> omega))]
    conv => lhs; whnf
    rw [hg]; conv => lhs; whnf
    rw [fits_t (by (simp only [sha256_len, lsB_len, lvB_len, chunk_len, LL] at * <;> omega))]
    conv => lhs; whnf
    dsimp -iota -beta -eta -zeta only
    rw [iadd_eq (by omega)]
    refine (congrArg (Y E0) ?_).trans ih; (try simp only [Rq.loop.injEq, Rq.call.injEq, Rq.ops.injEq, List.cons.injEq, Prod.mk.injEq, AV.i.injEq, AV.sl.injEq, AV.st.injEq, AV.b.injEq, AV.u8.injEq, AV.nm.injEq, Option.some.injEq, Rs.row.injEq, Rs.var.injEq, heq_eq_eq, true_and, and_true]); (try (repeat' apply And.intro)); all_goals first | (with_reducible rfl) | omega | (rw [iadd_eq (by omega)]; omega) | (rw [isub_eq (by omega)]; omega) | rw [lapp_eq]
theorem ev_rssign (seed : List UInt8) (h leaf : Int) (m : List UInt8) (hs : seed.length ≤ 1000000) (hm : m.length ≤ 1000000) : Y E0 (.call 17 [.sl .u8 seed, .i h, .i leaf, .sl .u8 m] []) = some (.ret (.nm 0) [some (.row 5 .u8 (sigK seed h leaf m))]) := by
  by_cases hh : 0 ≤ h ∧ h ≤ 3
  · obtain ⟨k, rfl⟩ : ∃ k : Nat, h = k := ⟨h.toNat, by omega⟩
    have hk : k ≤ 3 := by omega
    have h8 := pow_le8 hk
    have hsh : ishl 1 (iu64 (k : Int)).toNat = ((2 ^ k : Nat) : Int) := by rw [ishl1n (by omega), pow_int]
    have hl := lsB_len seed k
    by_cases hc : 0 ≤ leaf ∧ leaf < ((2 ^ k : Nat) : Int)
    · have hsb := signB_len (seed := lsB seed k) (m := m) (leaf := leaf) (by omega)
      obtain ⟨p1, p2⟩ := path_of (seed := seed) (k := k) (i := leaf) hk (by omega) (by rw [pow_int]; omega)
      have hlp := ev_rssign_loop _ p2 (by omega) (pathB leaf (lvB seed k)).length 0 (lapp [iu8 leaf] (signB (lsB seed k) leaf m)) (by omega) (by rw [lapp_eq, List.length_append, hsb]; simp)
      rw [List.drop_zero, show ((0 : Nat) : Int) = 0 from rfl] at hlp
      rw [Y_go]; conv => lhs; whnf
      rw [ilt_f (by omega)]
      conv => lhs; whnf
      rw [ilt_f (by omega)]
      conv => lhs; whnf
      rw [ilt_f (by omega)]
      conv => lhs; whnf
      rw [hsh]; conv => lhs; whnf
      rw [ile_f (by omega)]
      conv => lhs; whnf
      dsimp -iota -beta -eta -zeta only
      rw [toReq_call]
      rw [ev_rlseed _ _ (by omega)]
      conv => lhs; whnf
      dsimp -iota -beta -eta -zeta only
      rw [toReq_call]
      rw [ev_rsign _ _ _ (by omega) (by omega)]
      conv => lhs; whnf
      rw [fits_t (by (simp only [sha256_len, lsB_len, lvB_len, chunk_len, LL] at * <;> omega))]
      conv => lhs; whnf
      dsimp -iota -beta -eta -zeta only
      rw [toReq_call]
      rw [ev_rleaves _ _ hk hs]
      conv => lhs; whnf
      dsimp -iota -beta -eta -zeta only
      rw [toReq_call]
      rw [ev_rpath _ _ (lvB_mem hk) (lvB_n hk)]
      conv => lhs; whnf
      dsimp -iota -beta -eta -zeta only
      rw [toReq_loop]
      rw [hlp]
      conv => lhs; whnf
      (rw [sigK, if_pos ⟨hh, by rw [Int.toNat_natCast, pow_int]; exact hc⟩, Int.toNat_natCast, lapp_eq, iu8_eq]; rfl)
    · rw [Y_go]; conv => lhs; whnf
      rw [ilt_f (by omega)]
      conv => lhs; whnf
      rw [ilt_f (by omega)]
      conv => lhs; whnf
      rcases Bool.eq_false_or_eq_true (ilt leaf 0) with hc0 | hc0
      · rw [hc0]; replace hc0 := of_ilt_t hc0; try simp only [llen_eq] at hc0
        conv => lhs; whnf
        (rw [sigK, if_neg (by rw [Int.toNat_natCast, pow_int]; omega)])
      · rw [hc0]; replace hc0 := of_ilt_f hc0; try simp only [llen_eq] at hc0
        conv => lhs; whnf
        rw [hsh]; conv => lhs; whnf
        rw [ile_t (by omega)]
        conv => lhs; whnf
        (rw [sigK, if_neg (by rw [Int.toNat_natCast, pow_int]; omega)])
  · rw [Y_go]; conv => lhs; whnf
    rcases Bool.eq_false_or_eq_true (ilt h 0) with hc0 | hc0
    · rw [hc0]; replace hc0 := of_ilt_t hc0; try simp only [llen_eq] at hc0
      conv => lhs; whnf
      (rw [sigK, if_neg (by omega)])
    · rw [hc0]; replace hc0 := of_ilt_f hc0; try simp only [llen_eq] at hc0
      conv => lhs; whnf
      rw [ilt_t (by omega)]
      conv => lhs; whnf
      (rw [sigK, if_neg (by omega)])
theorem ev_sver_loop (p x : List UInt8) (i : Int) : ∀ (n : Nat) (R : List UInt8) (acc : List (List UInt8)), R.length = 16 * n → n ≤ 3 → acc.length + n ≤ 100 → Y E0 (.loop 18 0 0 1 [(0, .sl .u8 p), (6, .i i), (9, .sl .u8 x), (10, .nm 0), (11, .sl .u8 R)] [(0, some (.row 22 (.sl .u8) acc))]) = some (.fin (.exit 0) 0 [(0, .sl .u8 p), (6, .i i), (9, .sl .u8 x), (10, .sl (.sl .u8) (acc ++ chunkB n R))] [])
  | 0, R, acc, hR, hn, ha => by
    unfold chunkB
    rw [List.append_nil]
    rw [Y_go]; conv => lhs; whnf
    rw [ilt_f (by (simp only [sha256_len, lsB_len, lvB_len, chunk_len, LL] at * <;> omega))]
    conv => lhs; whnf
  | n + 1, R, acc, hR, hn, ha => by
    have ih := ev_sver_loop p x i n (R.drop 16) (acc ++ [R.take 16]) (by rw [List.length_drop]; omega) (by omega) (by rw [List.length_append]; simp; omega)
    unfold chunkB
    rw [List.append_assoc, List.singleton_append] at ih
    have e1 : (llen R - 16).toNat = R.length - 16 := by rw [llen_eq]; omega
    have e2 : List.take (R.length - 16) (List.drop 16 R) = List.drop 16 R := List.take_of_length_le (by rw [List.length_drop]; exact Nat.le_refl _)
    rw [Y_go]; conv => lhs; whnf
    rw [ilt_t (by (simp only [sha256_len, lsB_len, lvB_len, chunk_len, LL] at * <;> omega))]
    conv => lhs; whnf
    rw [ieq_t (by omega)]
    conv => lhs; whnf
    rw [lcut_0 (by omega)]
    conv => lhs; whnf
    rw [fits_t (by (simp only [sha256_len, lsB_len, lvB_len, chunk_len, LL] at * <;> omega))]
    conv => lhs; whnf
    rw [lcut_s (by (simp only [sha256_len, lsB_len, lvB_len, chunk_len, LL] at * <;> omega))]
    conv => lhs; whnf
    dsimp -iota -beta -eta -zeta only
    refine (congrArg (Y E0) ?_).trans ih; (try simp only [Rq.loop.injEq, Rq.call.injEq, Rq.ops.injEq, List.cons.injEq, Prod.mk.injEq, AV.i.injEq, AV.sl.injEq, AV.st.injEq, AV.b.injEq, AV.u8.injEq, AV.nm.injEq, Option.some.injEq, Rs.row.injEq, Rs.var.injEq, heq_eq_eq, true_and, and_true]); (try (repeat' apply And.intro)); all_goals first | (with_reducible rfl) | omega | (rw [iadd_eq (by omega)]; omega) | (rw [isub_eq (by omega)]; omega) | (rw [lapp_eq]; rfl) | (rw [e1]; exact e2)
theorem ev_sver (p m s : List UInt8) (hm : m.length ≤ 1000000) : Y E0 (.call 18 [.sl .u8 p, .sl .u8 m, .sl .u8 s] []) = some (.ret (.tup [.i (verK p m s).1, .b (verK p m s).2]) []) := by
  by_cases hp : p.length = 17
  · obtain ⟨a, p', rfl⟩ : ∃ a p', p = a :: p' := by cases p with | nil => simp at hp | cons a p' => exact ⟨a, p', rfl⟩
    have hgp : lget (a :: p') 0 = some a := lget_s (by omega) rfl
    obtain ⟨k, hk⟩ : ∃ k : Nat, a.toNat = k := ⟨_, rfl⟩
    have hpk : u8i a = (k : Int) := by rw [u8i_eq, hk]
    by_cases hk3 : k ≤ 3
    · by_cases hs : s.length = 561 + 16 * k
      · obtain ⟨b, s', rfl⟩ : ∃ b s', s = b :: s' := by cases s with | nil => (simp at hs; omega) | cons b s' => exact ⟨b, s', rfl⟩
        have hgs : lget (b :: s') 0 = some b := lget_s (by omega) rfl
        obtain ⟨i, hi⟩ : ∃ i : Nat, b.toNat = i := ⟨_, rfl⟩
        have hsi : u8i b = (i : Int) := by rw [u8i_eq, hi]
        have h8 := pow_le8 hk3
        have hsh : ishl 1 (iu64 (k : Int)).toNat = ((2 ^ k : Nat) : Int) := by rw [ishl1n (by omega), pow_int]
        by_cases hi2 : i < 2 ^ k
        · have hr2 := rec_2 (i : Int) m (((b :: s').drop 1).take 560)
          rw [decide_eq_true ⟨by omega, by rw [List.length_take, List.length_drop, hs]; omega⟩] at hr2
          have hrl := rec_le (i : Int) m (((b :: s').drop 1).take 560)
          rw [verK_cons hk hi hp hk3 hs hi2]
          have hrr := ev_recover (i : Int) m (((b :: s').drop 1).take 560) hm
          rw [hr2] at hrr
          replace hrr : Y E0 (.call 48 [.i (i : Int), .sl .u8 m, .sl .u8 (List.take ((561 : Int) - 1).toNat (List.drop (Int.toNat 1) (b :: s')))] []) = _ := hrr
          have hcm := chunk_mem k ((b :: s').drop 561)
          have hlp := ev_sver_loop (a :: p') (recB (i : Int) m (((b :: s').drop 1).take 560)).1 (i : Int) k ((b :: s').drop 561) [] (by rw [List.length_drop, hs]; omega) hk3 (by simp; omega)
          rw [List.nil_append] at hlp
          have e9 : List.take (llen (b :: s') - 561).toNat (List.drop (Int.toNat 561) (b :: s')) = (b :: s').drop 561 := List.take_of_length_le (by rw [llen_eq, List.length_drop, hs]; omega)
          have e8 : List.take (llen (a :: p') - 1).toNat (List.drop (Int.toNat 1) (a :: p')) = p' := List.take_of_length_le (by rw [llen_eq]; simp)
          generalize (recB (i : Int) m (((b :: s').drop 1).take 560)).1 = x at *
          rw [Y_go]; conv => lhs; whnf
          rw [ine_f (by (simp only [sha256_len, lsB_len, lvB_len, chunk_len, LL] at * <;> omega))]
          conv => lhs; whnf
          rw [hgp]; conv => lhs; whnf
          dsimp -iota -beta -eta -zeta only
          rw [toReq_call]
          rw [ev_svalid, decide_eq_true (by omega)]
          conv => lhs; whnf
          rw [hpk]; conv => lhs; whnf
          rw [bnot_eq]; conv => lhs; whnf
          rw [hgp]; conv => lhs; whnf
          rw [imul_eq (by omega)]
          rw [iadd_eq (by omega)]
          rw [hpk]; conv => lhs; whnf
          rw [ine_f (by (simp only [sha256_len, lsB_len, lvB_len, chunk_len, LL] at * <;> omega))]
          conv => lhs; whnf
          rw [hgs]; conv => lhs; whnf
          rw [hsi]; conv => lhs; whnf
          rw [hsh]; conv => lhs; whnf
          rw [ile_f (by omega)]
          conv => lhs; whnf
          rw [Y_go]; conv => lhs; whnf
          rw [hgs]; conv => lhs; whnf
          rw [hsi]; conv => lhs; whnf
          rw [ieq_t (by omega)]
          conv => lhs; whnf
          rw [lcut_s (by omega)]
          conv => lhs; whnf
          dsimp -iota -beta -eta -zeta only
          rw [toReq_call]
          rw [hrr]
          conv => lhs; whnf
          rw [bnot_eq]; conv => lhs; whnf
          rw [lcut_s (by (simp only [sha256_len, lsB_len, lvB_len, chunk_len, LL] at * <;> omega))]
          conv => lhs; whnf
          dsimp -iota -beta -eta -zeta only
          rw [toReq_loop]
          rw [e9, hlp]
          conv => lhs; whnf
          dsimp -iota -beta -eta -zeta only
          rw [toReq_call]
          rw [ev_climb _ _ _ (by omega) hcm]
          conv => lhs; whnf
          rw [lcut_s (by (simp only [sha256_len, lsB_len, lvB_len, chunk_len, LL] at * <;> omega))]
          conv => lhs; whnf
          dsimp -iota -beta -eta -zeta only
          rw [drw (by kernel_rfl)]; conv => lhs; whnf
          rw [bnot_eq]; conv => lhs; whnf
          rcases Bool.eq_false_or_eq_true (seq' (climbB x (↑i) (chunkB k (List.drop 561 (b :: s')))) (List.take (llen (a :: p') - 1).toNat (List.drop (Int.toNat 1) (a :: p')))) with hc0 | hc0
          · rw [hc0]; replace hc0 := of_seq_t hc0; try simp only [llen_eq] at hc0
            conv => lhs; whnf
            (rw [llen_eq] at e8; rw [e8] at hc0; rw [if_pos hc0])
          · rw [hc0]; replace hc0 := of_seq_f hc0; try simp only [llen_eq] at hc0
            conv => lhs; whnf
            (rw [llen_eq] at e8; rw [e8] at hc0; rw [if_neg hc0])
        · rw [verK_no (fun h => hi2 (by have h4 := h.2.2.2; change b.toNat < 2 ^ a.toNat at h4; rw [hk, hi] at h4; exact h4))]
          rw [Y_go]; conv => lhs; whnf
          rw [ine_f (by (simp only [sha256_len, lsB_len, lvB_len, chunk_len, LL] at * <;> omega))]
          conv => lhs; whnf
          rw [hgp]; conv => lhs; whnf
          dsimp -iota -beta -eta -zeta only
          rw [toReq_call]
          rw [ev_svalid, decide_eq_true (by omega)]
          conv => lhs; whnf
          rw [hpk]; conv => lhs; whnf
          rw [bnot_eq]; conv => lhs; whnf
          rw [hgp]; conv => lhs; whnf
          rw [imul_eq (by omega)]
          rw [iadd_eq (by omega)]
          rw [hpk]; conv => lhs; whnf
          rw [ine_f (by (simp only [sha256_len, lsB_len, lvB_len, chunk_len, LL] at * <;> omega))]
          conv => lhs; whnf
          rw [hgs]; conv => lhs; whnf
          rw [hsi]; conv => lhs; whnf
          rw [hsh]; conv => lhs; whnf
          rw [ile_t (by omega)]
          conv => lhs; whnf
          rw [Y_go]; conv => lhs; whnf
      · rw [verK_no (fun h => hs (by have h4 := h.2.2.1; change _ = 561 + 16 * a.toNat at h4; rw [hk] at h4; exact h4))]
        rw [Y_go]; conv => lhs; whnf
        rw [ine_f (by (simp only [sha256_len, lsB_len, lvB_len, chunk_len, LL] at * <;> omega))]
        conv => lhs; whnf
        rw [hgp]; conv => lhs; whnf
        dsimp -iota -beta -eta -zeta only
        rw [toReq_call]
        rw [ev_svalid, decide_eq_true (by omega)]
        conv => lhs; whnf
        rw [hpk]; conv => lhs; whnf
        rw [bnot_eq]; conv => lhs; whnf
        rw [hgp]; conv => lhs; whnf
        rw [imul_eq (by omega)]
        rw [iadd_eq (by omega)]
        rw [hpk]; conv => lhs; whnf
        rw [ine_t (by (simp only [sha256_len, lsB_len, lvB_len, chunk_len, LL] at * <;> omega))]
        conv => lhs; whnf
    · rw [verK_no (fun h => hk3 (by have h4 := h.2.1; change a.toNat ≤ 3 at h4; omega))]
      rw [Y_go]; conv => lhs; whnf
      rw [ine_f (by (simp only [sha256_len, lsB_len, lvB_len, chunk_len, LL] at * <;> omega))]
      conv => lhs; whnf
      rw [hgp]; conv => lhs; whnf
      dsimp -iota -beta -eta -zeta only
      rw [toReq_call]
      rw [ev_svalid, decide_eq_false (by omega)]
      conv => lhs; whnf
      rw [hpk]; conv => lhs; whnf
      rw [bnot_eq]; conv => lhs; whnf
  · rw [verK_no (fun h => hp h.1)]
    rw [Y_go]; conv => lhs; whnf
    rw [ine_t (by (simp only [sha256_len, lsB_len, lvB_len, chunk_len, LL] at * <;> omega))]
    conv => lhs; whnf
theorem ev_rsver_loop (p s x : List UInt8) (i : Int) (k : Nat) (hk : k ≤ 3) (hs : s.length = 561 + 16 * k) : ∀ (n j : Nat) (acc : List (List UInt8)), j + n = k → acc.length = j → Y E0 (.loop 19 0 0 1 [(0, .sl .u8 p), (2, .sl .u8 s), (8, .i (k : Int)), (9, .i i), (10, .i (561 + 16 * (j : Int))), (11, .sl .u8 x), (13, .nm 0), (14, .i (j : Int))] [(0, some (.row 22 (.sl .u8) acc))]) = some (.fin (.exit 0) 0 [(0, .sl .u8 p), (9, .i i), (11, .sl .u8 x), (13, .sl (.sl .u8) (acc ++ chunkB n (s.drop (561 + 16 * j))))] [])
  | 0, j, acc, hj, ha => by
    unfold chunkB
    rw [List.append_nil]
    rw [Y_go]; conv => lhs; whnf
    rw [ilt_f (by omega)]
    conv => lhs; whnf
  | n + 1, j, acc, hj, ha => by
    have ih := ev_rsver_loop p s x i k hk hs n (j + 1) (acc ++ [(s.drop (561 + 16 * j)).take 16]) (by omega) (by rw [List.length_append]; simp; omega)
    unfold chunkB
    rw [List.append_assoc, List.singleton_append, show 561 + 16 * (j + 1) = (561 + 16 * j) + 16 from by omega, show List.drop (561 + 16 * j + 16) s = List.drop 16 (List.drop (561 + 16 * j) s) from by rw [List.drop_drop], show ((j + 1 : Nat) : Int) = (j : Int) + 1 from by omega] at ih
    have e1 : List.take (561 + 16 * (j : Int) + 16 - (561 + 16 * (j : Int))).toNat (List.drop (561 + 16 * (j : Int)).toNat s) = List.take 16 (List.drop (561 + 16 * j) s) := by
      rw [show (561 + 16 * (j : Int) + 16 - (561 + 16 * (j : Int))).toNat = 16 from by omega, show (561 + 16 * (j : Int)).toNat = 561 + 16 * j from by omega]
    rw [Y_go]; conv => lhs; whnf
    rw [ilt_t (by omega)]
    conv => lhs; whnf
    rw [iadd_eq (by omega)]
    rw [lcut_s (by omega)]
    conv => lhs; whnf
    rw [fits_t (by (simp only [sha256_len, lsB_len, lvB_len, chunk_len, LL] at * <;> omega))]
    conv => lhs; whnf
    dsimp -iota -beta -eta -zeta only
    rw [iadd_eq (by omega)]
    rw [iadd_eq (by omega)]
    refine (congrArg (Y E0) ?_).trans ih; (try simp only [Rq.loop.injEq, Rq.call.injEq, Rq.ops.injEq, List.cons.injEq, Prod.mk.injEq, AV.i.injEq, AV.sl.injEq, AV.st.injEq, AV.b.injEq, AV.u8.injEq, AV.nm.injEq, Option.some.injEq, Rs.row.injEq, Rs.var.injEq, heq_eq_eq, true_and, and_true]); (try (repeat' apply And.intro)); all_goals first | (with_reducible rfl) | omega | (rw [iadd_eq (by omega)]; omega) | (rw [isub_eq (by omega)]; omega) | (rw [lapp_eq, e1])
theorem ev_rsver (p m s : List UInt8) (hm : m.length ≤ 1000000) : Y E0 (.call 19 [.sl .u8 p, .sl .u8 m, .sl .u8 s] []) = some (.ret (.tup [.i (verK p m s).1, .b (verK p m s).2]) []) := by
  by_cases hp : p.length = 17
  · obtain ⟨a, p', rfl⟩ : ∃ a p', p = a :: p' := by cases p with | nil => simp at hp | cons a p' => exact ⟨a, p', rfl⟩
    have hgp : lget (a :: p') 0 = some a := lget_s (by omega) rfl
    obtain ⟨k, hk⟩ : ∃ k : Nat, a.toNat = k := ⟨_, rfl⟩
    have hpk : u8i a = (k : Int) := by rw [u8i_eq, hk]
    by_cases hk3 : k ≤ 3
    · by_cases hs : s.length = 561 + 16 * k
      · obtain ⟨b, s', rfl⟩ : ∃ b s', s = b :: s' := by cases s with | nil => (simp at hs; omega) | cons b s' => exact ⟨b, s', rfl⟩
        have hgs : lget (b :: s') 0 = some b := lget_s (by omega) rfl
        obtain ⟨i, hi⟩ : ∃ i : Nat, b.toNat = i := ⟨_, rfl⟩
        have hsi : u8i b = (i : Int) := by rw [u8i_eq, hi]
        have h8 := pow_le8 hk3
        have hsh : ishl 1 (iu64 (k : Int)).toNat = ((2 ^ k : Nat) : Int) := by rw [ishl1n (by omega), pow_int]
        by_cases hi2 : i < 2 ^ k
        · have hr2 := rec_2 (i : Int) m (((b :: s').drop 1).take 560)
          rw [decide_eq_true ⟨by omega, by rw [List.length_take, List.length_drop, hs]; omega⟩] at hr2
          have hrl := rec_le (i : Int) m (((b :: s').drop 1).take 560)
          rw [verK_cons hk hi hp hk3 hs hi2]
          have hrr := ev_rrecover (i : Int) m (((b :: s').drop 1).take 560) hm
          rw [hr2] at hrr
          replace hrr : Y E0 (.call 50 [.i (i : Int), .sl .u8 m, .sl .u8 (List.take ((561 : Int) - 1).toNat (List.drop (Int.toNat 1) (b :: s')))] []) = _ := hrr
          have hcm := chunk_mem k ((b :: s').drop 561)
          have hlp := ev_rsver_loop (a :: p') (b :: s') (recB (i : Int) m (((b :: s').drop 1).take 560)).1 (i : Int) k hk3 hs k 0 [] (by omega) rfl
          rw [List.nil_append, show 561 + 16 * 0 = 561 from rfl, show ((0 : Nat) : Int) = 0 from rfl, show (561 : Int) + 16 * 0 = 561 from rfl] at hlp
          have e8 : List.take (llen (a :: p') - 1).toNat (List.drop (Int.toNat 1) (a :: p')) = p' := List.take_of_length_le (by rw [llen_eq]; simp)
          generalize (recB (i : Int) m (((b :: s').drop 1).take 560)).1 = x at *
          rw [Y_go]; conv => lhs; whnf
          rw [ine_f (by (simp only [sha256_len, lsB_len, lvB_len, chunk_len, LL] at * <;> omega))]
          conv => lhs; whnf
          rw [hgp]; conv => lhs; whnf
          rw [hpk]; conv => lhs; whnf
          rw [ilt_f (by omega)]
          conv => lhs; whnf
          rw [hgp]; conv => lhs; whnf
          rw [imul_eq (by omega)]
          rw [iadd_eq (by omega)]
          rw [hpk]; conv => lhs; whnf
          rw [ine_f (by (simp only [sha256_len, lsB_len, lvB_len, chunk_len, LL] at * <;> omega))]
          conv => lhs; whnf
          rw [hgs]; conv => lhs; whnf
          rw [hsi]; conv => lhs; whnf
          rw [hsh]; conv => lhs; whnf
          rw [ile_f (by omega)]
          conv => lhs; whnf
          rw [hgs]; conv => lhs; whnf
          rw [Y_go]; conv => lhs; whnf
          rw [hsi]; conv => lhs; whnf
          rw [lcut_s (by omega)]
          conv => lhs; whnf
          dsimp -iota -beta -eta -zeta only
          rw [toReq_call]
          rw [hrr]
          conv => lhs; whnf
          dsimp -iota -beta -eta -zeta only
          rw [toReq_loop]
          rw [hlp]
          conv => lhs; whnf
          dsimp -iota -beta -eta -zeta only
          rw [toReq_call]
          rw [ev_rclimb _ _ _ (by omega) hcm]
          conv => lhs; whnf
          rw [lcut_s (by (simp only [sha256_len, lsB_len, lvB_len, chunk_len, LL] at * <;> omega))]
          conv => lhs; whnf
          dsimp -iota -beta -eta -zeta only
          rw [toReq_call]
          rw [e8, ev_same _ _ (climb_le (by omega))]
          conv => lhs; whnf
          dsimp -iota -beta -eta -zeta only
          rw [drw (by kernel_rfl)]; conv => lhs; whnf
          rw [bnot_eq]; conv => lhs; whnf
          rcases Bool.eq_false_or_eq_true (decide (climbB x (↑i) (chunkB k (List.drop 561 (b :: s'))) = p')) with hc0 | hc0
          · rw [hc0]; replace hc0 := of_decide_eq_true hc0; try simp only at hc0
            conv => lhs; whnf
            rw [if_pos hc0]
          · rw [hc0]; replace hc0 := of_decide_eq_false hc0; try simp only at hc0
            conv => lhs; whnf
            rw [if_neg hc0]
        · rw [verK_no (fun h => hi2 (by have h4 := h.2.2.2; change b.toNat < 2 ^ a.toNat at h4; rw [hk, hi] at h4; exact h4))]
          rw [Y_go]; conv => lhs; whnf
          rw [ine_f (by (simp only [sha256_len, lsB_len, lvB_len, chunk_len, LL] at * <;> omega))]
          conv => lhs; whnf
          rw [hgp]; conv => lhs; whnf
          rw [hpk]; conv => lhs; whnf
          rw [ilt_f (by omega)]
          conv => lhs; whnf
          rw [hgp]; conv => lhs; whnf
          rw [imul_eq (by omega)]
          rw [iadd_eq (by omega)]
          rw [hpk]; conv => lhs; whnf
          rw [ine_f (by (simp only [sha256_len, lsB_len, lvB_len, chunk_len, LL] at * <;> omega))]
          conv => lhs; whnf
          rw [hgs]; conv => lhs; whnf
          rw [hsi]; conv => lhs; whnf
          rw [hsh]; conv => lhs; whnf
          rw [ile_t (by omega)]
          conv => lhs; whnf
      · rw [verK_no (fun h => hs (by have h4 := h.2.2.1; change _ = 561 + 16 * a.toNat at h4; rw [hk] at h4; exact h4))]
        rw [Y_go]; conv => lhs; whnf
        rw [ine_f (by (simp only [sha256_len, lsB_len, lvB_len, chunk_len, LL] at * <;> omega))]
        conv => lhs; whnf
        rw [hgp]; conv => lhs; whnf
        rw [hpk]; conv => lhs; whnf
        rw [ilt_f (by omega)]
        conv => lhs; whnf
        rw [hgp]; conv => lhs; whnf
        rw [imul_eq (by omega)]
        rw [iadd_eq (by omega)]
        rw [hpk]; conv => lhs; whnf
        rw [ine_t (by (simp only [sha256_len, lsB_len, lvB_len, chunk_len, LL] at * <;> omega))]
        conv => lhs; whnf
    · rw [verK_no (fun h => hk3 (by have h4 := h.2.1; change a.toNat ≤ 3 at h4; omega))]
      rw [Y_go]; conv => lhs; whnf
      rw [ine_f (by (simp only [sha256_len, lsB_len, lvB_len, chunk_len, LL] at * <;> omega))]
      conv => lhs; whnf
      rw [hgp]; conv => lhs; whnf
      rw [hpk]; conv => lhs; whnf
      rw [ilt_t (by omega)]
      conv => lhs; whnf
  · rw [verK_no (fun h => hp h.1)]
    rw [Y_go]; conv => lhs; whnf
    rw [ine_t (by (simp only [sha256_len, lsB_len, lvB_len, chunk_len, LL] at * <;> omega))]
    conv => lhs; whnf
end Go.Proofs.YtfjcmolccckhhaaDoor

namespace Go.Ax
open Go Go.Eng Go.RowKit
set_option linter.unusedVariables false
set_option linter.unusedSimpArgs false
theorem ibit_eq (op : BinOp) (a b : Int) : ibit op a b = bits op .i64 a b := by rw [ibit_d]; rfl
theorem fr1_len (tag : Int) (a : List UInt8) : (frameB tag [a]).length = 5 + a.length := by
  simp [frameB, fieldsB, len4_len]; omega
theorem fr2_len (tag : Int) (a b : List UInt8) : (frameB tag [a, b]).length = 9 + a.length + b.length := by
  simp [frameB, fieldsB, len4_len]; omega
theorem fr3_len (tag : Int) (a b c : List UInt8) : (frameB tag [a, b, c]).length = 13 + a.length + b.length + c.length := by
  simp [frameB, fieldsB, len4_len]; omega
theorem irem_bd (n : Int) {m : Int} (h : 1 ≤ m) : -m < irem n m ∧ irem n m < m := by
  rw [irem_d]
  exact ⟨Int.lt_tmod_of_pos n (by omega), Int.tmod_lt_of_pos n (by omega)⟩
theorem irem_mod (n : Int) {m : Int} (h : 1 ≤ m) : n % m = irem n m % m := by
  rw [irem_d]
  show n % m = n.tmod m % m
  rw [Int.tmod_def, Int.sub_mul_emod_self_left]
theorem irem_pos {n m : Int} (h : 1 ≤ m) (h0 : 0 ≤ irem n m) : irem n m = n % m := by
  rw [irem_mod n h, Int.emod_eq_of_lt h0 (irem_bd n h).2]
theorem irem_neg {n m : Int} (h : 1 ≤ m) (h0 : irem n m < 0) : irem n m + m = n % m := by
  have hb := irem_bd n h
  rw [irem_mod n h, ← Int.add_emod_right, Int.emod_eq_of_lt (by omega) (by omega)]
theorem beB_one (x : Int) : beB 1 (UInt64.ofInt x) = [UInt8.ofInt x] := by
  have h : (UInt64.ofInt x).toUInt8 = UInt8.ofInt x := by
    apply UInt8.toNat_inj.1
    rw [UInt64.toNat_toUInt8, UInt64.ofInt, UInt8.ofInt, UInt64.toNat_ofNat', UInt8.toNat_ofNat']
    omega
  have h2 : (UInt64.ofInt x) >>> UInt64.ofNat (8 * 0) = UInt64.ofInt x := by
    apply UInt64.toNat_inj.1
    rw [UInt64.toNat_shiftRight]; simp
  rw [beB, h2, h]; rfl
structure Pub where
  kind : Int
  attr : Int
  height : Int
  policy : List UInt8
  unique : List UInt8
deriving DecidableEq
def pub0 : Pub := ⟨0, 0, 0, [], []⟩
def uniq (k : Int) : Int := if k = 2 then 17 else 32
theorem uniq_bd (k : Int) : 17 ≤ uniq k ∧ uniq k ≤ 32 := by unfold uniq; split <;> omega
def chkP (p : Pub) : Int :=
  if p.kind < 1 ∨ 3 < p.kind then 19
  else if p.attr < 0 ∨ 7 < p.attr ∨ (bits .and .i64 p.attr 4 ≠ 0 ∧ p.kind ≠ 2) ∨ (bits .and .i64 p.attr 1 = 0 ∧ p.policy.length = 0) then 20
  else if p.height < 0 ∨ 3 < p.height ∨ (p.height ≠ 0 ∧ p.kind ≠ 2) ∨ (p.policy.length ≠ 0 ∧ p.policy.length ≠ 32) ∨ (p.unique.length : Int) ≠ uniq p.kind then 1 else 0
def encP (p : Pub) : List UInt8 := blobB (blobB [UInt8.ofInt p.kind, UInt8.ofInt p.attr, UInt8.ofInt p.height] p.policy) p.unique
def decP (b : List UInt8) : Pub × Int :=
  let k := rdU b 0 0 1
  let a := rdU b k.2.1 k.2.2 1
  let h := rdU b a.2.1 a.2.2 1
  let o := rdB b h.2.1 h.2.2 32
  let u := rdB b o.2.1 o.2.2 32
  let e := rdE b u.2.1 u.2.2
  if e ≠ 0 then (pub0, e) else if chkP ⟨k.1, a.1, h.1, o.1, u.1⟩ ≠ 0 then (pub0, chkP ⟨k.1, a.1, h.1, o.1, u.1⟩) else (⟨k.1, a.1, h.1, o.1, u.1⟩, 0)
structure OkP (p : Pub) : Prop where
  kind : 1 ≤ p.kind ∧ p.kind ≤ 3
  attr : 0 ≤ p.attr ∧ p.attr ≤ 7
  height : 0 ≤ p.height ∧ p.height ≤ 3
  policy : p.policy.length ≤ 32
  unique : p.unique.length ≤ 32
theorem okP_of {p : Pub} (h : chkP p = 0) : OkP p := by
  unfold chkP at h
  split at h
  · simp at h
  rename_i h1
  split at h
  · simp at h
  rename_i h2
  split at h
  · simp at h
  rename_i h3
  have hu : uniq p.kind = 17 ∨ uniq p.kind = 32 := by unfold uniq; split; exact .inl rfl; exact .inr rfl
  refine ⟨by omega, by omega, by omega, by omega, by omega⟩
def flatP (p : Pub) : List UInt8 :=
  beB 1 (UInt64.ofInt p.kind) ++ (beB 1 (UInt64.ofInt p.attr) ++ (beB 1 (UInt64.ofInt p.height) ++ (len2 p.policy.length ++ p.policy ++ (len2 p.unique.length ++ p.unique ++ []))))
theorem encP_flat {p : Pub} (hp : p.policy.length ≤ 65535) (hu : p.unique.length ≤ 65535) : encP p = flatP p := by
  unfold encP flatP
  rw [blobB_eq hp, blobB_eq hu, beB_one, beB_one, beB_one]
  simp only [List.append_assoc, List.append_nil, List.cons_append, List.nil_append]
theorem encP_len {p : Pub} (hp : p.policy.length ≤ 65535) (hu : p.unique.length ≤ 65535) : (encP p).length = 7 + p.policy.length + p.unique.length := by
  rw [encP_flat hp hu]
  simp only [flatP, List.length_append, beB_len, len2_len, List.length_nil]; omega
structure Evi where
  machine : Int
  attest : List UInt8
  sig : List UInt8
  log : List UInt8
deriving DecidableEq
def evi0 : Evi := ⟨0, [], [], []⟩
def CanE (x : Evi) : Prop := 1 ≤ x.machine ∧ x.machine ≤ 4 ∧ x.attest.length ≤ 1024 ∧ x.sig.length ≤ 1024 ∧ x.log.length ≤ 8192
instance (x : Evi) : Decidable (CanE x) := by unfold CanE; infer_instance
def formE (x : Evi) : List UInt8 := blobB (blobB (blobB [UInt8.ofInt x.machine] x.attest) x.sig) x.log
def encE (x : Evi) : List UInt8 := if CanE x then formE x else []
def decE (b : List UInt8) : Evi × Int :=
  let m := rdU b 0 0 1
  let a := rdB b m.2.1 m.2.2 1024
  let s := rdB b a.2.1 a.2.2 1024
  let l := rdB b s.2.1 s.2.2 8192
  if rdE b l.2.1 l.2.2 ≠ 0 ∨ m.1 < 1 ∨ 4 < m.1 then (evi0, 30) else (⟨m.1, a.1, s.1, l.1⟩, 0)
def flatE (x : Evi) : List UInt8 := beB 1 (UInt64.ofInt x.machine) ++ (len2 x.attest.length ++ x.attest ++ (len2 x.sig.length ++ x.sig ++ (len2 x.log.length ++ x.log ++ [])))
end Go.Ax

namespace Go.Ax
open Go.Eng
end Go.Ax
namespace Go.Proofs.YtfjcmolccckhhaaDoor
open Go Go.Ax Go.Eng
set_option linter.unusedVariables false
set_option linter.unusedSimpArgs false
attribute [local irreducible] iadd isub imul iquo irem ibit ineg ieq ine ilt ile ishl ishr beq' bnot and' seq' u8op u8rem u32op u64op u8shr u8shl u64shr u64shl u32shr u32shl i64w u8i u64i iu8 iu32 iu64 u8u64 u64u8 u32u8 u64cmp u8cmp u32cmp llen lget linb lset lcut lrep lapp lcpy lemp fits fitn ieqs sealed drawChk fpSame
attribute [local irreducible] pubK sigK verK
set_option maxHeartbeats 4000000
set_option maxRecDepth 100000
theorem ev_awake7 : Y E0 (.call 14 [] []) = some (.ret (.b true) []) := by
  have h1 := pubK_len (seed := [UInt8.ofNat 1]) (h := 0) (by omega)
  have h2 := sig_trip (seed := [UInt8.ofNat 1]) (m := [UInt8.ofNat 2]) (h := 0) (leaf := 0) (by omega) (by decide)
  rw [Y_go]; conv => lhs; whnf
  dsimp -iota -beta -eta -zeta only
  rw [toReq_call]
  rw [ev_spub _ _ (by (simp only [sha256_len, lsB_len, lvB_len, chunk_len, LL] at * <;> omega))]
  conv => lhs; whnf
  dsimp -iota -beta -eta -zeta only
  rw [toReq_call]
  rw [ev_ssign _ _ _ _ (by (simp only [sha256_len, lsB_len, lvB_len, chunk_len, LL] at * <;> omega)) (by (simp only [sha256_len, lsB_len, lvB_len, chunk_len, LL] at * <;> omega))]
  conv => lhs; whnf
  dsimp -iota -beta -eta -zeta only
  rw [toReq_call]
  rw [ev_sver _ _ _ (by simp), h2]
  conv => lhs; whnf
  dsimp -iota -beta -eta -zeta only
  rw [ieq_t (by (simp only [sha256_len, lsB_len, lvB_len, chunk_len, LL] at * <;> omega))]
  conv => lhs; whnf
  (congr 3; simp only [ieq_eq, ine_eq, ilt_eq, ile_eq, bnot_eq, and_eq, llen_eq]; first | rfl | (rw [decide_eq_decide]; omega) | (simp; omega))
theorem ev_short7 (a b : List UInt8) : Y E0 (.call 15 [.sl .u8 a, .sl .u8 b] []) = some (.ret (.b (decide (a.length ≤ 100 ∧ b.length ≤ 100))) []) := by
  rw [Y_go]; conv => lhs; whnf
  rcases Bool.eq_false_or_eq_true (ile (llen a) 100) with hc0 | hc0
  · rw [hc0]; replace hc0 := of_ile_t hc0; try simp only [llen_eq] at hc0
    conv => lhs; whnf
    exact congrArg (fun b => some (Rsp.ret (AV.b b) [])) (by rw [ile_eq, llen_eq]; apply decide_eq_decide.2; omega)
  · rw [hc0]; replace hc0 := of_ile_f hc0; try simp only [llen_eq] at hc0
    conv => lhs; whnf
    rw [decide_eq_false (by omega)]
end Go.Proofs.YtfjcmolccckhhaaDoor

namespace Go.Ax
open Go.Eng
theorem forms (seed m : List UInt8) : (∀ n : Nat, verK (pubK seed 0 ++ List.replicate n 0) m (sigK seed 0 0 m) = (0, decide (n = 0))) ∧
    (∀ k : Nat, verK (pubK seed 0) m ((sigK seed 0 0 m).take k) = (0, decide (561 ≤ k))) ∧
    (∀ h : UInt8, verK ([h] ++ (pubK seed 0).drop 1) m (sigK seed 0 0 m) = (0, decide (h = 0))) ∧
    (∀ x : UInt8, x ≠ 0 → verK (pubK seed 0) m ([x] ++ (sigK seed 0 0 m).drop 1) = (0, false)) := by
  have ht := sig_trip (seed := seed) (m := m) (h := 0) (leaf := 0) (by omega) (by decide)
  have hp := pubK_len (seed := seed) (h := 0) (by omega)
  have hs := sigK_len (seed := seed) (m := m) (h := 0) (leaf := 0) (by omega) (by decide)
  obtain ⟨P, hP⟩ : ∃ P, pubK seed 0 = 0 :: P := ⟨_, by rw [pubK, if_pos (by omega)]; rfl⟩
  obtain ⟨S, hS⟩ : ∃ S, sigK seed 0 0 m = 0 :: S := ⟨_, by rw [sigK, if_pos ⟨by omega, by decide⟩]; rfl⟩
  rw [hP] at hp
  rw [hS] at hs
  rw [hP, hS] at ht
  rw [hP, hS]
  simp only [List.length_cons] at hp hs
  rw [show (0 : Int).toNat = 0 from rfl] at hs
  refine ⟨fun n => ?_, fun k => ?_, fun h => ?_, fun x hx => ?_⟩
  · by_cases hn : n = 0
    · subst hn; simpa using ht
    · rw [decide_eq_false hn]
      exact verK_no fun f => by have := f.1; simp at this; omega
  · by_cases hk : 561 ≤ k
    · rw [decide_eq_true hk, List.take_of_length_le (by simp only [List.length_cons]; omega)]; exact ht
    · rw [decide_eq_false hk]
      exact verK_no fun f => by
        have := f.2.2.1
        rw [show (List.getD (0 :: P) 0 0 : UInt8) = 0 from rfl] at this
        rw [List.length_take] at this
        simp at this; omega
  · by_cases hh : h = 0
    · subst hh; rw [decide_eq_true rfl]; exact ht
    · rw [decide_eq_false hh]
      exact verK_no fun f => by
        have h1 := f.2.2.1
        rw [show (List.getD ([h] ++ (0 :: P).drop 1) 0 0 : UInt8) = h from rfl] at h1
        simp only [List.length_cons] at h1
        have : h.toNat ≠ 0 := fun e => hh (UInt8.toNat_inj.1 e)
        omega
  · exact verK_no fun f => by
      have h1 := f.2.2.2
      rw [show (List.getD (0 :: P) 0 0 : UInt8) = 0 from rfl, show (List.getD ([x] ++ (0 :: S).drop 1) 0 0 : UInt8) = x from rfl] at h1
      have : x.toNat ≠ 0 := fun e => hx (UInt8.toNat_inj.1 e)
      have h0 : (0 : UInt8).toNat = 0 := rfl
      rw [h0] at h1
      omega
theorem beqS (a : Bool) : beq' a a = true := by rw [beq_eq]; exact beq_self_eq_true _
theorem leaf_ne (h : UInt8) : (1 : UInt8) + (h &&& 127) ≠ 0 := by
  intro e
  have h1 : ((1 : UInt8) + (h &&& 127)).toNat = 0 := by rw [e]; rfl
  rw [UInt8.toNat_add, UInt8.toNat_and] at h1
  have h2 : h.toNat &&& (127 : UInt8).toNat = h.toNat % 128 := Nat.and_two_pow_sub_one_eq_mod h.toNat 7
  rw [h2] at h1
  have h3 : (1 : UInt8).toNat = 1 := rfl
  rw [h3] at h1
  omega
end Go.Ax
namespace Go.Proofs.YtfjcmolccckhhaaDoor
open Go Go.Ax Go.Eng
set_option linter.unusedVariables false
set_option linter.unusedSimpArgs false
attribute [local irreducible] iadd isub imul iquo irem ibit ineg ieq ine ilt ile ishl ishr beq' bnot and' seq' u8op u8rem u32op u64op u8shr u8shl u64shr u64shl u32shr u32shl i64w u8i u64i iu8 iu32 iu64 u8u64 u64u8 u32u8 u64cmp u8cmp u32cmp llen lget linb lset lcut lrep lapp lcpy lemp fits fitn ieqs sealed drawChk fpSame
attribute [local irreducible] pubK sigK verK
set_option maxHeartbeats 4000000
set_option maxRecDepth 100000
theorem ev_SignerForms (seed m raw : List UInt8) (n k : Int) (h : UInt8) : Y E0 (.call 4 [.sl .u8 seed, .sl .u8 m, .sl .u8 raw, .i n, .i k, .u8 h] []) = some (.ret (.b true) []) := by
  have h1 := sigK_len (seed := seed) (m := m) (h := 0) (leaf := 0) (by omega) (by decide)
  have h2 := pubK_len (seed := seed) (h := 0) (by omega)
  obtain ⟨f1, f2, f3, f4⟩ := forms seed m
  rw [show (0 : Int).toNat = 0 from rfl] at h1
  have g1 : 0 ≤ n → verK (lapp (pubK seed 0) (lrep n 0)) m (sigK seed 0 0 m) = (0, ieq n 0) := fun hn => by
    rw [lapp_eq, lrep_eq, f1, ieq_eq]
    exact congrArg (Prod.mk (0 : Int)) (decide_eq_decide.2 (by omega))
  have g2 : 0 ≤ k → k ≤ 561 → verK (pubK seed 0) m (List.take k.toNat (sigK seed 0 0 m)) = (0, ieq k 561) := fun hn hk => by
    rw [f2, ieq_eq]
    exact congrArg (Prod.mk (0 : Int)) (decide_eq_decide.2 (by omega))
  have g3 : verK (lapp [h] (List.take (llen (pubK seed 0) - 1).toNat (List.drop (Int.toNat 1) (pubK seed 0)))) m (sigK seed 0 0 m) = (0, u8cmp BinOp.eql h (UInt8.ofNat 0)) := by
    rw [lapp_eq, show Int.toNat 1 = 1 from rfl, List.take_of_length_le (by rw [List.length_drop, llen_eq]; omega), f3, u8cmp_eql, ieq_eq]
    refine congrArg (Prod.mk (0 : Int)) (decide_eq_decide.2 ⟨fun e => by rw [e]; rfl, fun e => UInt8.toNat_inj.1 (by have : ((h.toNat : Int)) = 0 := e; show h.toNat = 0; omega)⟩)
  have g4 : verK (pubK seed 0) m (lapp [u8op BinOp.add (UInt8.ofNat 1) (u8op BinOp.and h (UInt8.ofNat 127))] (List.take (llen (sigK seed 0 0 m) - 1).toNat (List.drop (Int.toNat 1) (sigK seed 0 0 m)))) = (0, false) := by
    rw [lapp_eq, show Int.toNat 1 = 1 from rfl, List.take_of_length_le (by rw [List.length_drop, llen_eq]; omega)]
    exact f4 _ (by rw [u8op_d]; exact leaf_ne h)
  rw [Y_go]; conv => lhs; whnf
  dsimp -iota -beta -eta -zeta only
  rw [toReq_call]
  rw [ev_awake7]
  conv => lhs; whnf
  rw [bnot_eq]; conv => lhs; whnf
  dsimp -iota -beta -eta -zeta only
  rw [toReq_call]
  rw [ev_short7 _ _]
  conv => lhs; whnf
  rw [bnot_eq]; conv => lhs; whnf
  rcases Bool.eq_false_or_eq_true (decide (seed.length ≤ 100 ∧ m.length ≤ 100)) with hc0 | hc0
  · rw [hc0]; replace hc0 := of_decide_eq_true hc0; try simp only at hc0
    conv => lhs; whnf
    rcases Bool.eq_false_or_eq_true (ilt 600 (llen raw)) with hc1 | hc1
    · rw [hc1]; replace hc1 := of_ilt_t hc1; try simp only [llen_eq] at hc1
      conv => lhs; whnf
    · rw [hc1]; replace hc1 := of_ilt_f hc1; try simp only [llen_eq] at hc1
      conv => lhs; whnf
      rcases Bool.eq_false_or_eq_true (ilt n 0) with hc2 | hc2
      · rw [hc2]; replace hc2 := of_ilt_t hc2; try simp only [llen_eq] at hc2
        conv => lhs; whnf
      · rw [hc2]; replace hc2 := of_ilt_f hc2; try simp only [llen_eq] at hc2
        conv => lhs; whnf
        rcases Bool.eq_false_or_eq_true (ilt 20 n) with hc3 | hc3
        · rw [hc3]; replace hc3 := of_ilt_t hc3; try simp only [llen_eq] at hc3
          conv => lhs; whnf
        · rw [hc3]; replace hc3 := of_ilt_f hc3; try simp only [llen_eq] at hc3
          conv => lhs; whnf
          rcases Bool.eq_false_or_eq_true (ilt k 0) with hc4 | hc4
          · rw [hc4]; replace hc4 := of_ilt_t hc4; try simp only [llen_eq] at hc4
            conv => lhs; whnf
          · rw [hc4]; replace hc4 := of_ilt_f hc4; try simp only [llen_eq] at hc4
            conv => lhs; whnf
            rcases Bool.eq_false_or_eq_true (ilt 561 k) with hc5 | hc5
            · rw [hc5]; replace hc5 := of_ilt_t hc5; try simp only [llen_eq] at hc5
              conv => lhs; whnf
            · rw [hc5]; replace hc5 := of_ilt_f hc5; try simp only [llen_eq] at hc5
              conv => lhs; whnf
              dsimp -iota -beta -eta -zeta only
              rw [toReq_call]
              rw [ev_rspub _ _ (by omega)]
              conv => lhs; whnf
              dsimp -iota -beta -eta -zeta only
              rw [toReq_call]
              rw [ev_rssign _ _ _ _ (by omega) (by omega)]
              conv => lhs; whnf
              rw [Y_go]; conv => lhs; whnf
              dsimp -iota -beta -eta -zeta only
              rw [toReq_call]
              rw [ev_copy _ (by omega)]
              conv => lhs; whnf
              rw [ile_t (by omega)]
              conv => lhs; whnf
              rw [fits_t (by (simp only [sha256_len, lsB_len, lvB_len, chunk_len, LL] at * <;> omega))]
              conv => lhs; whnf
              dsimp -iota -beta -eta -zeta only
              rw [toReq_call]
              rw [ev_sver _ _ _ (by omega), g1 (by omega)]
              conv => lhs; whnf
              dsimp -iota -beta -eta -zeta only
              rw [lcut_0 (by omega)]
              conv => lhs; whnf
              dsimp -iota -beta -eta -zeta only
              rw [toReq_call]
              rw [ev_sver _ _ _ (by omega), g2 (by omega) (by omega)]
              conv => lhs; whnf
              dsimp -iota -beta -eta -zeta only
              rw [lcut_s (by (simp only [sha256_len, lsB_len, lvB_len, chunk_len, LL] at * <;> omega))]
              conv => lhs; whnf
              rw [fits_t (by (simp only [sha256_len, lsB_len, lvB_len, chunk_len, LL] at * <;> omega))]
              conv => lhs; whnf
              dsimp -iota -beta -eta -zeta only
              rw [toReq_call]
              rw [ev_sver _ _ _ (by omega), g3]
              conv => lhs; whnf
              dsimp -iota -beta -eta -zeta only
              rw [lcut_s (by (simp only [sha256_len, lsB_len, lvB_len, chunk_len, LL] at * <;> omega))]
              conv => lhs; whnf
              rw [fits_t (by (simp only [sha256_len, lsB_len, lvB_len, chunk_len, LL] at * <;> omega))]
              conv => lhs; whnf
              dsimp -iota -beta -eta -zeta only
              rw [toReq_call]
              rw [ev_sver _ _ _ (by omega), g4]
              conv => lhs; whnf
              dsimp -iota -beta -eta -zeta only
              rw [toReq_call]
              rw [ev_sver _ _ _ (by omega)]
              conv => lhs; whnf
              dsimp -iota -beta -eta -zeta only
              rw [toReq_call]
              rw [ev_rsver _ _ _ (by omega)]
              conv => lhs; whnf
              rw [beqS]; conv => lhs; whnf
              rw [beqS]; conv => lhs; whnf
              rw [beqS]; conv => lhs; whnf
              rw [Y_go]; conv => lhs; whnf
              rw [bnot_eq]; conv => lhs; whnf
              rw [beqS]; conv => lhs; whnf
              rw [iadd_eq (a := 0) (b := 0) (by omega)]
              rw [iadd_eq (a := 0 + 0) (b := 0) (by omega)]
              rw [iadd_eq (by omega)]
              rw [ieq_t (by omega)]
              conv => lhs; whnf
              (congr 3; simp only [ieq_eq, ine_eq, ilt_eq, ile_eq, bnot_eq, and_eq, llen_eq]; first | rfl | (rw [decide_eq_decide]; omega) | (simp; omega))
  · rw [hc0]; replace hc0 := of_decide_eq_false hc0; try simp only at hc0
    conv => lhs; whnf
end Go.Proofs.YtfjcmolccckhhaaDoor
