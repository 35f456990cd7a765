/-
  Own texts, laid together for this claim: contracts of functions of the program and its references, used by the statements of this seat.
-/
import Derived.Test.YtlaglaehkhmklaaDoorMsa
/-
  Own text: one-time signatures: public values, signatures, what they lead to.
-/
namespace Go.Ax
open Go.Eng
def walkB (leaf : Int) (st : Nat → List UInt8) (fr to : Nat → Int) (n : Nat) : List UInt8 := (List.range n).flatMap fun (c : Nat) => stepsB (to c - fr c).toNat leaf c (fr c) (st c)
theorem walkB_succ (leaf : Int) (st : Nat → List UInt8) (fr to : Nat → Int) (n : Nat) : walkB leaf st fr to (n + 1) = walkB leaf st fr to n ++ stepsB (to n - fr n).toNat leaf n (fr n) (st n) := by
  unfold walkB; rw [List.range_succ, List.flatMap_append]; simp
theorem walkB_len (leaf : Int) (st : Nat → List UInt8) (fr to : Nat → Int) (m : Nat) (hs : ∀ c, c < m → (st c).length = 16) : ∀ n, n ≤ m → (walkB leaf st fr to n).length = 16 * n
  | 0, _ => rfl
  | n + 1, h => by rw [walkB_succ, List.length_append, walkB_len leaf st fr to m hs n (by omega), stepsB_16 _ _ _ _ _ (hs n (by omega))]; omega
def publicB (seed : List UInt8) (leaf : Int) : List UInt8 := if 0 ≤ leaf ∧ leaf ≤ 255 then valueB leaf (walkB leaf (fun c => firstB seed leaf c) (fun c => 0) (fun c => 15) 35) else []
def signB (seed : List UInt8) (leaf : Int) (m : List UInt8) : List UInt8 := if 0 ≤ leaf ∧ leaf ≤ 255 then walkB leaf (fun c => firstB seed leaf c) (fun c => 0) (fun c => (digB m).getD c 0) 35 else []
def recB (leaf : Int) (m sig : List UInt8) : List UInt8 × Bool := if (0 ≤ leaf ∧ leaf ≤ 255) ∧ sig.length = 560 then (valueB leaf (walkB leaf (fun c => (sig.drop (16 * c)).take 16) (fun c => (digB m).getD c 0) (fun c => 15) 35), true) else ([], false)
theorem digB_len (m : List UInt8) : (digB m).length = 35 := by simp [digB, digH, digs_len, msgH_len]
theorem digs_mem : ∀ (l : List UInt8), ∀ x ∈ digs l, 0 ≤ x ∧ x ≤ 15
  | [], x, h => by cases h
  | b :: l, x, h => by
    simp only [digs, List.flatMap_cons, List.mem_append, List.mem_cons, List.not_mem_nil, or_false] at h
    rcases h with (rfl | rfl) | h
    · exact hi_bd b
    · exact lo_bd b
    · exact digs_mem l x h
theorem digB_mem (m : List UInt8) : ∀ x ∈ digB m, 0 ≤ x ∧ x ≤ 15 := by
  intro x hx
  have h1 := dsum_bd (msgH m)
  rw [msgH_len] at h1
  simp only [digB, digH, List.mem_append, List.mem_cons, List.not_mem_nil, or_false] at hx
  rcases hx with hx | rfl | rfl | rfl
  · exact digs_mem _ x hx
  · omega
  · omega
  · omega
end Go.Ax
namespace Go.Proofs.YtlaglaehkhmklaaDoor
open Go Go.Ax Go.Eng
set_option linter.unusedVariables false
set_option linter.unusedSimpArgs false
attribute [local irreducible] iadd isub imul iquo irem ibit ineg ieq ine ilt ile ishl ishr beq' bnot and' seq' u8op u32op u64op u8shr u8shl u64shr u64shl u32shr u32shl i64w u8i u64i iu8 iu32 iu64 u8u64 u64u8 u32u8 u64cmp u8cmp u32cmp llen lget linb lset lcut lrep lapp lcpy lemp fits fitn sealed drawChk fpSame
set_option maxHeartbeats 1000000
set_option maxRecDepth 100000
theorem ev_valid (l : Int) : Y E0 (.call 50 [.i l] []) = some (.ret (.b (decide (0 ≤ l ∧ l ≤ 255))) []) := by
  rw [Y_go]; conv => lhs; whnf
  rcases Bool.eq_false_or_eq_true (ile 0 l) with hc0 | hc0
  · rw [hc0]; replace hc0 := of_ile_t hc0; try simp only [llen_eq] at hc0
    conv => lhs; whnf
    (congr 3; simp only [ieq_eq, ine_eq, ilt_eq, ile_eq, bnot_eq, and_eq, llen_eq]; first | rfl | (rw [decide_eq_decide]; omega) | (simp; omega))
  · rw [hc0]; replace hc0 := of_ile_f hc0; try simp only [llen_eq] at hc0
    conv => lhs; whnf
    (rw [decide_eq_false (by omega)])
theorem ev_P_1 (leaf c : Int) (seed : List UInt8) (hx : seed.length ≤ 1000000) : Y E0 (.call 51 [.i c, .pa 0 0, .pa 1 0] [.var [.sl .u8 seed], .var [.i leaf]]) = some (.ret (.sl .u8 (firstB seed leaf c)) [some (.var [.sl .u8 seed]), some (.var [.i leaf])]) := by
  rw [Y_go]; conv => lhs; whnf
  rw [toReq_call]
  rw [ev_first _ _ _ (by omega)]
  conv => lhs; whnf
theorem ev_S_1 (leaf c : Int) (seed : List UInt8) (hx : seed.length ≤ 1000000) : Y E0 (.call 60 [.i c, .pa 0 0, .pa 1 0] [.var [.sl .u8 seed], .var [.i leaf]]) = some (.ret (.sl .u8 (firstB seed leaf c)) [some (.var [.sl .u8 seed]), some (.var [.i leaf])]) := by
  rw [Y_go]; conv => lhs; whnf
  rw [toReq_call]
  rw [ev_first _ _ _ (by omega)]
  conv => lhs; whnf
theorem ev_P_2 (c : Int) : Y E0 (.call 55 [.i c] []) = some (.ret (.i 0) []) := by
  rw [Y_go]; conv => lhs; whnf
theorem ev_P_3 (c : Int) : Y E0 (.call 56 [.i c] []) = some (.ret (.i 15) []) := by
  rw [Y_go]; conv => lhs; whnf
theorem ev_S_2 (c : Int) : Y E0 (.call 61 [.i c] []) = some (.ret (.i 0) []) := by
  rw [Y_go]; conv => lhs; whnf
theorem ev_R_3 (c : Int) : Y E0 (.call 65 [.i c] []) = some (.ret (.i 15) []) := by
  rw [Y_go]; conv => lhs; whnf
theorem ev_S_3 (c : Nat) (d : List Int) (hc : c < d.length) : Y E0 (.call 62 [.i c, .pa 0 0] [.var [.sl .i64 d]]) = some (.ret (.i d[c]) [some (.var [.sl .i64 d])]) := by
  rw [Y_go]; conv => lhs; whnf
  rw [lget_n (by omega)]
  conv => lhs; whnf
theorem ev_R_2 (c : Nat) (d : List Int) (hc : c < d.length) : Y E0 (.call 64 [.i c, .pa 0 0] [.var [.sl .i64 d]]) = some (.ret (.i d[c]) [some (.var [.sl .i64 d])]) := by
  rw [Y_go]; conv => lhs; whnf
  rw [lget_n (by omega)]
  conv => lhs; whnf
theorem ev_R_1 (c : Nat) (s : List UInt8) (hc : c < 35) (hs : s.length = 560) : Y E0 (.call 63 [.i c, .pa 0 0] [.var [.sl .u8 s]]) = some (.ret (.sl .u8 ((s.drop (16 * c)).take 16)) [some (.var [.sl .u8 s])]) := by
  have hct : lcut s (imul c 16) (imul (iadd c 1) 16) = some ((s.drop (16 * c)).take 16) := by
    rw [iadd_eq (by omega), imul_eq (by omega), imul_eq (by omega), lcut_s (by omega), show ((c : Int) * 16).toNat = 16 * c from by omega, show (((c : Int) + 1) * 16 - (c : Int) * 16).toNat = 16 from by omega]
  rw [Y_go]; conv => lhs; whnf
  rw [imul_eq (by omega)]
  rw [iadd_eq (by omega)]
  rw [imul_eq (by omega)]
  rw [lcut_s (by omega)]
  conv => lhs; whnf
  rw [show ((c : Int) * 16).toNat = 16 * c from by omega, show (((c : Int) + 1) * 16 - (c : Int) * 16).toNat = 16 from by omega]
theorem ev_walk_p_in (leaf : Int) (seed : List UInt8) (hx : seed.length ≤ 1000000) (acc : List UInt8) (c : Nat) (hc : c < 35) (ha : acc.length ≤ 1000) : ∀ (k : Nat) (q : Int) (x : List UInt8), 0 ≤ q → ((15 : Int) - q).toNat = k → x.length ≤ 1000000 →
    Y E0 (.loop 54 1 2 3 [(0, .i leaf), (1, AV.fn 51 [] [.pa 0 0, .pa 1 0]), (2, AV.fn 55 [] []), (3, AV.fn 56 [] []), (9, .nm 2), (10, .i c), (11, .sl .u8 x), (12, .i q), (13, .i c)] [(0, some (Rs.var [.sl .u8 seed])), (1, some (Rs.var [.i leaf])), (2, some (.row 5 .u8 acc))]) = some (.fin (.exit 2) 3 [(0, .i leaf), (1, AV.fn 51 [] [.pa 0 0, .pa 1 0]), (2, AV.fn 55 [] []), (3, AV.fn 56 [] []), (9, .nm 2), (11, .sl .u8 (stepsB k leaf c q x)), (13, .i c)] [(0, some (Rs.var [.sl .u8 seed])), (1, some (Rs.var [.i leaf])), (2, some (.row 5 .u8 acc))])
  | 0, q, x, h0, hk, hx' => by
    rw [Y_go]; conv => lhs; whnf
    rw [toReq_call]
    rw [ev_P_3 _]
    conv => lhs; whnf
    rw [ilt_f (by omega)]
    conv => lhs; whnf
    rfl
  | k + 1, q, x, h0, hk, hx' => by
    have ih := ev_walk_p_in leaf seed hx acc c hc ha k (q + 1) (stepB leaf c q x) (by omega) (by omega) (by rw [stepB_len]; omega)
    rw [Y_go]; conv => lhs; whnf
    rw [toReq_call]
    rw [ev_P_3 _]
    conv => lhs; whnf
    rw [ilt_t (by omega)]
    conv => lhs; whnf
    rw [toReq_call]
    rw [ev_next _ _ _ _ (by omega)]
    conv => lhs; whnf
    rw [iadd_eq (by omega)]
    refine (congrArg (Y E0) ?_).trans ih; (try simp only [Rq.loop.injEq, Rq.call.injEq, Rq.ops.injEq, List.cons.injEq, Prod.mk.injEq, AV.i.injEq, AV.sl.injEq, AV.st.injEq, AV.b.injEq, AV.u8.injEq, AV.nm.injEq, Option.some.injEq, Rs.row.injEq, Rs.var.injEq, heq_eq_eq, true_and, and_true]); (try (repeat' apply And.intro)); all_goals first | (with_reducible rfl) | omega | (rw [iadd_eq (by omega)]; omega) | (rw [isub_eq (by omega)]; omega)
theorem ev_walk_p_loop (leaf : Int) (seed : List UInt8) (hx : seed.length ≤ 1000000) : ∀ (k c : Nat) (acc : List UInt8), c + k = 35 → acc = walkB leaf (fun c => firstB seed leaf c) (fun c => (0 : Int)) (fun c => (15 : Int)) c → acc.length ≤ 16 * c →
    Y E0 (.loop 54 0 2 3 [(0, .i leaf), (1, AV.fn 51 [] [.pa 0 0, .pa 1 0]), (2, AV.fn 55 [] []), (3, AV.fn 56 [] []), (9, .nm 2), (13, .i c)] [(0, some (Rs.var [.sl .u8 seed])), (1, some (Rs.var [.i leaf])), (2, some (.row 5 .u8 acc))]) = some (.fin (.exit 0) 2 [(9, .sl .u8 (walkB leaf (fun c => firstB seed leaf c) (fun c => (0 : Int)) (fun c => (15 : Int)) 35))] [(0, some (Rs.var [.sl .u8 seed])), (1, some (Rs.var [.i leaf]))])
  | 0, c, acc, hc, he, ha => by
    obtain rfl : c = 35 := by omega
    rw [← he]
    rw [Y_go]; conv => lhs; whnf
    rw [ilt_f (by omega)]
    conv => lhs; whnf
  | k + 1, c, acc, hc, he, ha => by
    have hin := ev_walk_p_in leaf seed hx acc c (by omega) (by omega)
    have hst : (firstB seed leaf c).length = 16 := by exact firstB_len _ _ _
    have hsl := stepsB_16 ((15 : Int) - (0 : Int)).toNat leaf c ((0 : Int)) _ hst
    have ih := ev_walk_p_loop leaf seed hx k (c + 1) (acc ++ stepsB ((15 : Int) - (0 : Int)).toNat leaf c ((0 : Int)) (firstB seed leaf c)) (by omega) (by rw [walkB_succ, ← he]) (by rw [List.length_append, hsl]; omega)
    rw [show ((c + 1 : Nat) : Int) = (c : Int) + 1 from by omega] at ih
    rw [Y_go]; conv => lhs; whnf
    rw [ilt_t (by omega)]
    conv => lhs; whnf
    rw [toReq_call]
    rw [ev_P_1 _ _ _ (by omega)]
    conv => lhs; whnf
    rw [toReq_call]
    rw [ev_P_2 _]
    conv => lhs; whnf
    rw [toReq_loop]
    rw [hin _ _ _ (by omega) rfl (by omega)]
    conv => lhs; whnf
    rw [fits_t (by (simp only [sha256_len, msgH_len, digs_len, stepB_len, firstB_len, LL] at * <;> omega))]
    conv => lhs; whnf
    rw [iadd_eq (by omega)]
    refine (congrArg (Y E0) ?_).trans ih; (try simp only [Rq.loop.injEq, Rq.call.injEq, Rq.ops.injEq, List.cons.injEq, Prod.mk.injEq, AV.i.injEq, AV.sl.injEq, AV.st.injEq, AV.b.injEq, AV.u8.injEq, AV.nm.injEq, Option.some.injEq, Rs.row.injEq, Rs.var.injEq, heq_eq_eq, true_and, and_true]); (try (repeat' apply And.intro)); all_goals first | (with_reducible rfl) | omega | (rw [iadd_eq (by omega)]; omega) | (rw [isub_eq (by omega)]; omega) | (rw [lapp_eq]; done) | (rw [lapp_eq]; rfl)
theorem ev_walk_p (leaf : Int) (seed : List UInt8) (hx : seed.length ≤ 1000000) : Y E0 (.call 54 [.i leaf, AV.fn 51 [] [.pa 0 0, .pa 1 0], AV.fn 55 [] [], AV.fn 56 [] []] [Rs.var [.sl .u8 seed], Rs.var [.i leaf]]) = some (.ret (.sl .u8 (walkB leaf (fun c => firstB seed leaf c) (fun c => (0 : Int)) (fun c => (15 : Int)) 35)) [some (Rs.var [.sl .u8 seed]), some (Rs.var [.i leaf])]) := by
  have h0 := ev_walk_p_loop leaf seed hx 35 0 [] (by omega) rfl (by simp)
  rw [show ((0 : Nat) : Int) = 0 from rfl] at h0
  rw [Y_go]; conv => lhs; whnf
  rw [toReq_loop]
  exact h0 ▸ rfl
theorem ev_walk_s_in (leaf : Int) (seed : List UInt8) (d : List Int) (hx : seed.length ≤ 1000000) (hd : d.length = 35) (hdb : ∀ x ∈ d, 0 ≤ x ∧ x ≤ 15) (acc : List UInt8) (c : Nat) (hc : c < 35) (ha : acc.length ≤ 1000) : ∀ (k : Nat) (q : Int) (x : List UInt8), 0 ≤ q → (d.getD c 0 - q).toNat = k → x.length ≤ 1000000 →
    Y E0 (.loop 54 1 3 4 [(0, .i leaf), (1, AV.fn 60 [] [.pa 0 0, .pa 1 0]), (2, AV.fn 61 [] []), (3, AV.fn 62 [] [.pa 2 0]), (9, .nm 3), (10, .i c), (11, .sl .u8 x), (12, .i q), (13, .i c)] [(0, some (Rs.var [.sl .u8 seed])), (1, some (Rs.var [.i leaf])), (2, some (Rs.var [.sl .i64 d])), (3, some (.row 5 .u8 acc))]) = some (.fin (.exit 2) 4 [(0, .i leaf), (1, AV.fn 60 [] [.pa 0 0, .pa 1 0]), (2, AV.fn 61 [] []), (3, AV.fn 62 [] [.pa 2 0]), (9, .nm 3), (11, .sl .u8 (stepsB k leaf c q x)), (13, .i c)] [(0, some (Rs.var [.sl .u8 seed])), (1, some (Rs.var [.i leaf])), (2, some (Rs.var [.sl .i64 d])), (3, some (.row 5 .u8 acc))])
  | 0, q, x, h0, hk, hx' => by
    have hdc := hdb _ (List.getElem_mem (l := d) (n := c) (by omega))
    have hgd : d.getD c 0 = d[c]'(by omega) := by simp [List.getD, show c < d.length by omega]
    rw [Y_go]; conv => lhs; whnf
    rw [toReq_call]
    rw [ev_S_3 _ _ (by omega)]
    conv => lhs; whnf
    rw [ilt_f (by omega)]
    conv => lhs; whnf
    rfl
  | k + 1, q, x, h0, hk, hx' => by
    have hdc := hdb _ (List.getElem_mem (l := d) (n := c) (by omega))
    have hgd : d.getD c 0 = d[c]'(by omega) := by simp [List.getD, show c < d.length by omega]
    have ih := ev_walk_s_in leaf seed d hx hd hdb acc c hc ha k (q + 1) (stepB leaf c q x) (by omega) (by omega) (by rw [stepB_len]; omega)
    rw [Y_go]; conv => lhs; whnf
    rw [toReq_call]
    rw [ev_S_3 _ _ (by omega)]
    conv => lhs; whnf
    rw [ilt_t (by omega)]
    conv => lhs; whnf
    rw [toReq_call]
    rw [ev_next _ _ _ _ (by omega)]
    conv => lhs; whnf
    rw [iadd_eq (by omega)]
    refine (congrArg (Y E0) ?_).trans ih; (try simp only [Rq.loop.injEq, Rq.call.injEq, Rq.ops.injEq, List.cons.injEq, Prod.mk.injEq, AV.i.injEq, AV.sl.injEq, AV.st.injEq, AV.b.injEq, AV.u8.injEq, AV.nm.injEq, Option.some.injEq, Rs.row.injEq, Rs.var.injEq, heq_eq_eq, true_and, and_true]); (try (repeat' apply And.intro)); all_goals first | (with_reducible rfl) | omega | (rw [iadd_eq (by omega)]; omega) | (rw [isub_eq (by omega)]; omega)
theorem ev_walk_s_loop (leaf : Int) (seed : List UInt8) (d : List Int) (hx : seed.length ≤ 1000000) (hd : d.length = 35) (hdb : ∀ x ∈ d, 0 ≤ x ∧ x ≤ 15) : ∀ (k c : Nat) (acc : List UInt8), c + k = 35 → acc = walkB leaf (fun c => firstB seed leaf c) (fun c => (0 : Int)) (fun c => d.getD c 0) c → acc.length ≤ 16 * c →
    Y E0 (.loop 54 0 3 4 [(0, .i leaf), (1, AV.fn 60 [] [.pa 0 0, .pa 1 0]), (2, AV.fn 61 [] []), (3, AV.fn 62 [] [.pa 2 0]), (9, .nm 3), (13, .i c)] [(0, some (Rs.var [.sl .u8 seed])), (1, some (Rs.var [.i leaf])), (2, some (Rs.var [.sl .i64 d])), (3, some (.row 5 .u8 acc))]) = some (.fin (.exit 0) 3 [(9, .sl .u8 (walkB leaf (fun c => firstB seed leaf c) (fun c => (0 : Int)) (fun c => d.getD c 0) 35))] [(0, some (Rs.var [.sl .u8 seed])), (1, some (Rs.var [.i leaf])), (2, some (Rs.var [.sl .i64 d]))])
  | 0, c, acc, hc, he, ha => by
    obtain rfl : c = 35 := by omega
    rw [← he]
    rw [Y_go]; conv => lhs; whnf
    rw [ilt_f (by omega)]
    conv => lhs; whnf
  | k + 1, c, acc, hc, he, ha => by
    have hdc := hdb _ (List.getElem_mem (l := d) (n := c) (by omega))
    have hgd : d.getD c 0 = d[c]'(by omega) := by simp [List.getD, show c < d.length by omega]
    have hin := ev_walk_s_in leaf seed d hx hd hdb acc c (by omega) (by omega)
    have hst : (firstB seed leaf c).length = 16 := by exact firstB_len _ _ _
    have hsl := stepsB_16 (d.getD c 0 - (0 : Int)).toNat leaf c ((0 : Int)) _ hst
    have ih := ev_walk_s_loop leaf seed d hx hd hdb k (c + 1) (acc ++ stepsB (d.getD c 0 - (0 : Int)).toNat leaf c ((0 : Int)) (firstB seed leaf c)) (by omega) (by rw [walkB_succ, ← he]) (by rw [List.length_append, hsl]; omega)
    rw [show ((c + 1 : Nat) : Int) = (c : Int) + 1 from by omega] at ih
    rw [Y_go]; conv => lhs; whnf
    rw [ilt_t (by omega)]
    conv => lhs; whnf
    rw [toReq_call]
    rw [ev_S_1 _ _ _ (by omega)]
    conv => lhs; whnf
    rw [toReq_call]
    rw [ev_S_2 _]
    conv => lhs; whnf
    rw [toReq_loop]
    rw [hin _ _ _ (by omega) rfl (by omega)]
    conv => lhs; whnf
    rw [fits_t (by (simp only [sha256_len, msgH_len, digs_len, stepB_len, firstB_len, LL] at * <;> omega))]
    conv => lhs; whnf
    rw [iadd_eq (by omega)]
    refine (congrArg (Y E0) ?_).trans ih; (try simp only [Rq.loop.injEq, Rq.call.injEq, Rq.ops.injEq, List.cons.injEq, Prod.mk.injEq, AV.i.injEq, AV.sl.injEq, AV.st.injEq, AV.b.injEq, AV.u8.injEq, AV.nm.injEq, Option.some.injEq, Rs.row.injEq, Rs.var.injEq, heq_eq_eq, true_and, and_true]); (try (repeat' apply And.intro)); all_goals first | (with_reducible rfl) | omega | (rw [iadd_eq (by omega)]; omega) | (rw [isub_eq (by omega)]; omega) | (rw [lapp_eq]; done) | (rw [lapp_eq]; rfl)
theorem ev_walk_s (leaf : Int) (seed : List UInt8) (d : List Int) (hx : seed.length ≤ 1000000) (hd : d.length = 35) (hdb : ∀ x ∈ d, 0 ≤ x ∧ x ≤ 15) : Y E0 (.call 54 [.i leaf, AV.fn 60 [] [.pa 0 0, .pa 1 0], AV.fn 61 [] [], AV.fn 62 [] [.pa 2 0]] [Rs.var [.sl .u8 seed], Rs.var [.i leaf], Rs.var [.sl .i64 d]]) = some (.ret (.sl .u8 (walkB leaf (fun c => firstB seed leaf c) (fun c => (0 : Int)) (fun c => d.getD c 0) 35)) [some (Rs.var [.sl .u8 seed]), some (Rs.var [.i leaf]), some (Rs.var [.sl .i64 d])]) := by
  have h0 := ev_walk_s_loop leaf seed d hx hd hdb 35 0 [] (by omega) rfl (by simp)
  rw [show ((0 : Nat) : Int) = 0 from rfl] at h0
  rw [Y_go]; conv => lhs; whnf
  rw [toReq_loop]
  exact h0 ▸ rfl
theorem ev_walk_r_in (leaf : Int) (sig : List UInt8) (d : List Int) (hx : sig.length = 560) (hd : d.length = 35) (hdb : ∀ x ∈ d, 0 ≤ x ∧ x ≤ 15) (acc : List UInt8) (c : Nat) (hc : c < 35) (ha : acc.length ≤ 1000) : ∀ (k : Nat) (q : Int) (x : List UInt8), 0 ≤ q → ((15 : Int) - q).toNat = k → x.length ≤ 1000000 →
    Y E0 (.loop 54 1 2 3 [(0, .i leaf), (1, AV.fn 63 [] [.pa 0 0]), (2, AV.fn 64 [] [.pa 1 0]), (3, AV.fn 65 [] []), (9, .nm 2), (10, .i c), (11, .sl .u8 x), (12, .i q), (13, .i c)] [(0, some (Rs.var [.sl .u8 sig])), (1, some (Rs.var [.sl .i64 d])), (2, some (.row 5 .u8 acc))]) = some (.fin (.exit 2) 3 [(0, .i leaf), (1, AV.fn 63 [] [.pa 0 0]), (2, AV.fn 64 [] [.pa 1 0]), (3, AV.fn 65 [] []), (9, .nm 2), (11, .sl .u8 (stepsB k leaf c q x)), (13, .i c)] [(0, some (Rs.var [.sl .u8 sig])), (1, some (Rs.var [.sl .i64 d])), (2, some (.row 5 .u8 acc))])
  | 0, q, x, h0, hk, hx' => by
    have hdc := hdb _ (List.getElem_mem (l := d) (n := c) (by omega))
    have hgd : d.getD c 0 = d[c]'(by omega) := by simp [List.getD, show c < d.length by omega]
    have hct : lcut sig (imul c 16) (imul (iadd c 1) 16) = some ((sig.drop (16 * c)).take 16) := by
      rw [iadd_eq (by omega), imul_eq (by omega), imul_eq (by omega), lcut_s (by omega), show ((c : Int) * 16).toNat = 16 * c from by omega, show (((c : Int) + 1) * 16 - (c : Int) * 16).toNat = 16 from by omega]
    rw [Y_go]; conv => lhs; whnf
    rw [toReq_call]
    rw [ev_R_3 _]
    conv => lhs; whnf
    rw [ilt_f (by omega)]
    conv => lhs; whnf
    rfl
  | k + 1, q, x, h0, hk, hx' => by
    have hdc := hdb _ (List.getElem_mem (l := d) (n := c) (by omega))
    have hgd : d.getD c 0 = d[c]'(by omega) := by simp [List.getD, show c < d.length by omega]
    have hct : lcut sig (imul c 16) (imul (iadd c 1) 16) = some ((sig.drop (16 * c)).take 16) := by
      rw [iadd_eq (by omega), imul_eq (by omega), imul_eq (by omega), lcut_s (by omega), show ((c : Int) * 16).toNat = 16 * c from by omega, show (((c : Int) + 1) * 16 - (c : Int) * 16).toNat = 16 from by omega]
    have ih := ev_walk_r_in leaf sig d hx hd hdb acc c hc ha k (q + 1) (stepB leaf c q x) (by omega) (by omega) (by rw [stepB_len]; omega)
    rw [Y_go]; conv => lhs; whnf
    rw [toReq_call]
    rw [ev_R_3 _]
    conv => lhs; whnf
    rw [ilt_t (by omega)]
    conv => lhs; whnf
    rw [toReq_call]
    rw [ev_next _ _ _ _ (by omega)]
    conv => lhs; whnf
    rw [iadd_eq (by omega)]
    refine (congrArg (Y E0) ?_).trans ih; (try simp only [Rq.loop.injEq, Rq.call.injEq, Rq.ops.injEq, List.cons.injEq, Prod.mk.injEq, AV.i.injEq, AV.sl.injEq, AV.st.injEq, AV.b.injEq, AV.u8.injEq, AV.nm.injEq, Option.some.injEq, Rs.row.injEq, Rs.var.injEq, heq_eq_eq, true_and, and_true]); (try (repeat' apply And.intro)); all_goals first | (with_reducible rfl) | omega | (rw [iadd_eq (by omega)]; omega) | (rw [isub_eq (by omega)]; omega)
theorem ev_walk_r_loop (leaf : Int) (sig : List UInt8) (d : List Int) (hx : sig.length = 560) (hd : d.length = 35) (hdb : ∀ x ∈ d, 0 ≤ x ∧ x ≤ 15) : ∀ (k c : Nat) (acc : List UInt8), c + k = 35 → acc = walkB leaf (fun c => (sig.drop (16 * c)).take 16) (fun c => d.getD c 0) (fun c => (15 : Int)) c → acc.length ≤ 16 * c →
    Y E0 (.loop 54 0 2 3 [(0, .i leaf), (1, AV.fn 63 [] [.pa 0 0]), (2, AV.fn 64 [] [.pa 1 0]), (3, AV.fn 65 [] []), (9, .nm 2), (13, .i c)] [(0, some (Rs.var [.sl .u8 sig])), (1, some (Rs.var [.sl .i64 d])), (2, some (.row 5 .u8 acc))]) = some (.fin (.exit 0) 2 [(9, .sl .u8 (walkB leaf (fun c => (sig.drop (16 * c)).take 16) (fun c => d.getD c 0) (fun c => (15 : Int)) 35))] [(0, some (Rs.var [.sl .u8 sig])), (1, some (Rs.var [.sl .i64 d]))])
  | 0, c, acc, hc, he, ha => by
    obtain rfl : c = 35 := by omega
    rw [← he]
    rw [Y_go]; conv => lhs; whnf
    rw [ilt_f (by omega)]
    conv => lhs; whnf
  | k + 1, c, acc, hc, he, ha => by
    have hdc := hdb _ (List.getElem_mem (l := d) (n := c) (by omega))
    have hgd : d.getD c 0 = d[c]'(by omega) := by simp [List.getD, show c < d.length by omega]
    have hct : lcut sig (imul c 16) (imul (iadd c 1) 16) = some ((sig.drop (16 * c)).take 16) := by
      rw [iadd_eq (by omega), imul_eq (by omega), imul_eq (by omega), lcut_s (by omega), show ((c : Int) * 16).toNat = 16 * c from by omega, show (((c : Int) + 1) * 16 - (c : Int) * 16).toNat = 16 from by omega]
    have hin := ev_walk_r_in leaf sig d hx hd hdb acc c (by omega) (by omega)
    have hst : ((sig.drop (16 * c)).take 16).length = 16 := by simp; omega
    have hsl := stepsB_16 ((15 : Int) - d.getD c 0).toNat leaf c (d.getD c 0) _ hst
    have ih := ev_walk_r_loop leaf sig d hx hd hdb k (c + 1) (acc ++ stepsB ((15 : Int) - d.getD c 0).toNat leaf c (d.getD c 0) ((sig.drop (16 * c)).take 16)) (by omega) (by rw [walkB_succ, ← he]) (by rw [List.length_append, hsl]; omega)
    rw [show ((c + 1 : Nat) : Int) = (c : Int) + 1 from by omega] at ih
    rw [hgd] at ih
    rw [hgd] at hsl
    rw [Y_go]; conv => lhs; whnf
    rw [ilt_t (by omega)]
    conv => lhs; whnf
    rw [toReq_call]
    rw [ev_R_1 _ _ (by omega) (by omega)]
    conv => lhs; whnf
    rw [toReq_call]
    rw [ev_R_2 _ _ (by omega)]
    conv => lhs; whnf
    rw [toReq_loop]
    rw [hin _ _ _ (by omega) rfl (by omega)]
    conv => lhs; whnf
    rw [fits_t (by (simp only [sha256_len, msgH_len, digs_len, stepB_len, firstB_len, LL] at * <;> omega))]
    conv => lhs; whnf
    rw [iadd_eq (by omega)]
    refine (congrArg (Y E0) ?_).trans ih; (try simp only [Rq.loop.injEq, Rq.call.injEq, Rq.ops.injEq, List.cons.injEq, Prod.mk.injEq, AV.i.injEq, AV.sl.injEq, AV.st.injEq, AV.b.injEq, AV.u8.injEq, AV.nm.injEq, Option.some.injEq, Rs.row.injEq, Rs.var.injEq, heq_eq_eq, true_and, and_true]); (try (repeat' apply And.intro)); all_goals first | (with_reducible rfl) | omega | (rw [iadd_eq (by omega)]; omega) | (rw [isub_eq (by omega)]; omega) | (rw [lapp_eq]; done) | (rw [lapp_eq]; rfl)
theorem ev_walk_r (leaf : Int) (sig : List UInt8) (d : List Int) (hx : sig.length = 560) (hd : d.length = 35) (hdb : ∀ x ∈ d, 0 ≤ x ∧ x ≤ 15) : Y E0 (.call 54 [.i leaf, AV.fn 63 [] [.pa 0 0], AV.fn 64 [] [.pa 1 0], AV.fn 65 [] []] [Rs.var [.sl .u8 sig], Rs.var [.sl .i64 d]]) = some (.ret (.sl .u8 (walkB leaf (fun c => (sig.drop (16 * c)).take 16) (fun c => d.getD c 0) (fun c => (15 : Int)) 35)) [some (Rs.var [.sl .u8 sig]), some (Rs.var [.sl .i64 d])]) := by
  have h0 := ev_walk_r_loop leaf sig d hx hd hdb 35 0 [] (by omega) rfl (by simp)
  rw [show ((0 : Nat) : Int) = 0 from rfl] at h0
  rw [Y_go]; conv => lhs; whnf
  rw [toReq_loop]
  exact h0 ▸ rfl
theorem ev_public (leaf : Int) (seed : List UInt8) (hx : seed.length ≤ 1000000) : Y E0 (.call 32 [.sl .u8 seed, .i leaf] []) = some (.ret (.sl .u8 (publicB seed leaf)) []) := by
  rw [Y_go]; conv => lhs; whnf
  rw [toReq_call]
  rw [ev_valid _]
  conv => lhs; whnf
  rw [bnot_eq]; conv => lhs; whnf
  rcases Bool.eq_false_or_eq_true (decide (0 ≤ leaf ∧ leaf ≤ 255)) with hc0 | hc0
  · rw [hc0]; replace hc0 := of_decide_eq_true hc0; try simp only at hc0
    conv => lhs; whnf
    rw [toReq_call]
    rw [ev_walk_p _ _ (by omega)]
    conv => lhs; whnf
    rw [fpSame_t (by rfl)]; conv => lhs; whnf
    rw [toReq_call]
    rw [ev_value _ _ (by rw [walkB_len _ _ _ _ 35 (fun c _ => firstB_len _ _ _) 35 (Nat.le_refl _)]; omega)]
    conv => lhs; whnf
    rw [drw (by kernel_rfl)]; conv => lhs; whnf
    unfold publicB; (repeat (first | rw [if_pos (by first | omega | decide | assumption | (simp only [sha256_len, msgH_len, digs_len, stepB_len, firstB_len, LL] at * <;> omega) | (simp; omega))] | rw [if_neg (by first | omega | decide | assumption | (simp only [sha256_len, msgH_len, digs_len, stepB_len, firstB_len, LL] at * <;> omega) | (simp; omega))])); try simp only [NO]
  · rw [hc0]; replace hc0 := of_decide_eq_false hc0; try simp only at hc0
    conv => lhs; whnf
    unfold publicB; (repeat (first | rw [if_pos (by first | omega | decide | assumption | (simp only [sha256_len, msgH_len, digs_len, stepB_len, firstB_len, LL] at * <;> omega) | (simp; omega))] | rw [if_neg (by first | omega | decide | assumption | (simp only [sha256_len, msgH_len, digs_len, stepB_len, firstB_len, LL] at * <;> omega) | (simp; omega))])); try simp only [NO]
theorem ev_sign (leaf : Int) (seed m : List UInt8) (hx : seed.length ≤ 1000000) (hm : m.length ≤ 1000000) : Y E0 (.call 35 [.sl .u8 seed, .i leaf, .sl .u8 m] []) = some (.ret (.sl .u8 (signB seed leaf m)) []) := by
  rw [Y_go]; conv => lhs; whnf
  rw [toReq_call]
  rw [ev_valid _]
  conv => lhs; whnf
  rw [bnot_eq]; conv => lhs; whnf
  rcases Bool.eq_false_or_eq_true (decide (0 ≤ leaf ∧ leaf ≤ 255)) with hc0 | hc0
  · rw [hc0]; replace hc0 := of_decide_eq_true hc0; try simp only at hc0
    conv => lhs; whnf
    rw [toReq_call]
    rw [ev_digits _ (by omega)]
    conv => lhs; whnf
    rw [toReq_call]
    rw [ev_walk_s leaf seed (digB m) hx (digB_len m) (digB_mem m)]
    conv => lhs; whnf
    rw [fpSame_t (by rfl)]; conv => lhs; whnf
    unfold signB; (repeat (first | rw [if_pos (by first | omega | decide | assumption | (simp only [sha256_len, msgH_len, digs_len, stepB_len, firstB_len, LL] at * <;> omega) | (simp; omega))] | rw [if_neg (by first | omega | decide | assumption | (simp only [sha256_len, msgH_len, digs_len, stepB_len, firstB_len, LL] at * <;> omega) | (simp; omega))])); try simp only [NO]
  · rw [hc0]; replace hc0 := of_decide_eq_false hc0; try simp only at hc0
    conv => lhs; whnf
    unfold signB; (repeat (first | rw [if_pos (by first | omega | decide | assumption | (simp only [sha256_len, msgH_len, digs_len, stepB_len, firstB_len, LL] at * <;> omega) | (simp; omega))] | rw [if_neg (by first | omega | decide | assumption | (simp only [sha256_len, msgH_len, digs_len, stepB_len, firstB_len, LL] at * <;> omega) | (simp; omega))])); try simp only [NO]
theorem ev_recover (leaf : Int) (m s : List UInt8) (hx : m.length ≤ 1000000) : Y E0 (.call 37 [.i leaf, .sl .u8 m, .sl .u8 s] []) = some (.ret (.tup [.sl .u8 (recB leaf m s).1, .b (recB leaf m s).2]) []) := by
  rw [Y_go]; conv => lhs; whnf
  rw [toReq_call]
  rw [ev_valid _]
  conv => lhs; whnf
  rw [bnot_eq]; conv => lhs; whnf
  rcases Bool.eq_false_or_eq_true (decide (0 ≤ leaf ∧ leaf ≤ 255)) with hc0 | hc0
  · rw [hc0]; replace hc0 := of_decide_eq_true hc0; try simp only at hc0
    conv => lhs; whnf
    rcases Bool.eq_false_or_eq_true (ine (llen s) 560) with hc1 | hc1
    · rw [hc1]; replace hc1 := of_ine_t hc1; try simp only [llen_eq] at hc1
      conv => lhs; whnf
      unfold recB; (repeat (first | rw [if_pos (by first | omega | decide | assumption | (simp only [sha256_len, msgH_len, digs_len, stepB_len, firstB_len, LL] at * <;> omega) | (simp; omega))] | rw [if_neg (by first | omega | decide | assumption | (simp only [sha256_len, msgH_len, digs_len, stepB_len, firstB_len, LL] at * <;> omega) | (simp; omega))])); try simp only [NO]
    · rw [hc1]; replace hc1 := of_ine_f hc1; try simp only [llen_eq] at hc1
      conv => lhs; whnf
      rw [toReq_call]
      rw [ev_digits _ (by omega)]
      conv => lhs; whnf
      rw [toReq_call]
      rw [ev_walk_r leaf s (digB m) (by omega) (digB_len m) (digB_mem m)]
      conv => lhs; whnf
      rw [fpSame_t (by rfl)]; conv => lhs; whnf
      rw [toReq_call]
      rw [ev_value _ _ (by rw [walkB_len _ _ _ _ 35 (fun c hc => by simp; omega) 35 (Nat.le_refl _)]; omega)]
      conv => lhs; whnf
      unfold recB; (repeat (first | rw [if_pos (by first | omega | decide | assumption | (simp only [sha256_len, msgH_len, digs_len, stepB_len, firstB_len, LL] at * <;> omega) | (simp; omega))] | rw [if_neg (by first | omega | decide | assumption | (simp only [sha256_len, msgH_len, digs_len, stepB_len, firstB_len, LL] at * <;> omega) | (simp; omega))])); try simp only [NO]
  · rw [hc0]; replace hc0 := of_decide_eq_false hc0; try simp only at hc0
    conv => lhs; whnf
    unfold recB; (repeat (first | rw [if_pos (by first | omega | decide | assumption | (simp only [sha256_len, msgH_len, digs_len, stepB_len, firstB_len, LL] at * <;> omega) | (simp; omega))] | rw [if_neg (by first | omega | decide | assumption | (simp only [sha256_len, msgH_len, digs_len, stepB_len, firstB_len, LL] at * <;> omega) | (simp; omega))])); try simp only [NO]
theorem ev_rpublic_loop (leaf : Int) (seed : List UInt8) (hx : seed.length ≤ 1000000) : ∀ (k c : Nat) (acc : List UInt8), c + k = 35 → acc = walkB leaf (fun c => firstB seed leaf c) (fun c => (0 : Int)) (fun c => (15 : Int)) c → acc.length ≤ 16 * c →
    Y E0 (.loop 33 0 0 1 [(0, .sl .u8 seed), (1, .i leaf), (5, .nm 0), (6, .i c)] [(0, some (.row 5 .u8 acc))]) = some (.fin (.exit 0) 0 [(1, .i leaf), (5, .sl .u8 (walkB leaf (fun c => firstB seed leaf c) (fun c => (0 : Int)) (fun c => (15 : Int)) 35))] [])
  | 0, c, acc, hc, he, ha => by
    obtain rfl : c = 35 := by omega
    rw [← he]
    rw [Y_go]; conv => lhs; whnf
    rw [ilt_f (by omega)]
    conv => lhs; whnf
  | k + 1, c, acc, hc, he, ha => by
    have hst : (firstB seed leaf c).length = 16 := by exact firstB_len _ _ _
    have hsl := stepsB_16 ((15 : Int) - (0 : Int)).toNat leaf c ((0 : Int)) _ hst
    have ih := ev_rpublic_loop leaf seed hx k (c + 1) (acc ++ stepsB ((15 : Int) - (0 : Int)).toNat leaf c ((0 : Int)) (firstB seed leaf c)) (by omega) (by rw [walkB_succ, ← he]) (by rw [List.length_append, hsl]; omega)
    rw [show ((c + 1 : Nat) : Int) = (c : Int) + 1 from by omega] at ih
    skip
    rw [Y_go]; conv => lhs; whnf
    rw [ilt_t (by omega)]
    conv => lhs; whnf
    rw [toReq_call]
    rw [ev_rstart _ _ _ (by omega)]
    conv => lhs; whnf
    rw [toReq_call]
    rw [ev_rsteps _ _ _ _ _ (by omega) (by omega) (by omega)]
    conv => lhs; whnf
    rw [fits_t (by (simp only [sha256_len, msgH_len, digs_len, stepB_len, firstB_len, LL] at * <;> omega))]
    conv => lhs; whnf
    rw [iadd_eq (by omega)]
    refine (congrArg (Y E0) ?_).trans ih; (try simp only [Rq.loop.injEq, Rq.call.injEq, Rq.ops.injEq, List.cons.injEq, Prod.mk.injEq, AV.i.injEq, AV.sl.injEq, AV.st.injEq, AV.b.injEq, AV.u8.injEq, AV.nm.injEq, Option.some.injEq, Rs.row.injEq, Rs.var.injEq, heq_eq_eq, true_and, and_true]); (try (repeat' apply And.intro)); all_goals first | (with_reducible rfl) | omega | (rw [iadd_eq (by omega)]; omega) | (rw [isub_eq (by omega)]; omega) | (rw [lapp_eq]; done) | (rw [lapp_eq]; rfl)
theorem ev_rsign_loop (leaf : Int) (seed : List UInt8) (d : List Int) (hx : seed.length ≤ 1000000) (hd : d.length = 35) (hdb : ∀ x ∈ d, 0 ≤ x ∧ x ≤ 15) : ∀ (k c : Nat) (acc : List UInt8), c + k = 35 → acc = walkB leaf (fun c => firstB seed leaf c) (fun c => (0 : Int)) (fun c => d.getD c 0) c → acc.length ≤ 16 * c →
    Y E0 (.loop 36 0 0 1 [(0, .sl .u8 seed), (1, .i leaf), (7, .sl .i64 d), (8, .nm 0), (9, .i c)] [(0, some (.row 5 .u8 acc))]) = some (.fin (.exit 0) 1 [(8, .nm 0)] [(0, some (.row 5 .u8 (walkB leaf (fun c => firstB seed leaf c) (fun c => (0 : Int)) (fun c => d.getD c 0) 35)))])
  | 0, c, acc, hc, he, ha => by
    obtain rfl : c = 35 := by omega
    rw [← he]
    rw [Y_go]; conv => lhs; whnf
    rw [ilt_f (by omega)]
    conv => lhs; whnf
  | k + 1, c, acc, hc, he, ha => by
    have hdc := hdb _ (List.getElem_mem (l := d) (n := c) (by omega))
    have hgd : d.getD c 0 = d[c]'(by omega) := by simp [List.getD, show c < d.length by omega]
    have hst : (firstB seed leaf c).length = 16 := by exact firstB_len _ _ _
    have hsl := stepsB_16 (d.getD c 0 - (0 : Int)).toNat leaf c ((0 : Int)) _ hst
    have ih := ev_rsign_loop leaf seed d hx hd hdb k (c + 1) (acc ++ stepsB (d.getD c 0 - (0 : Int)).toNat leaf c ((0 : Int)) (firstB seed leaf c)) (by omega) (by rw [walkB_succ, ← he]) (by rw [List.length_append, hsl]; omega)
    rw [show ((c + 1 : Nat) : Int) = (c : Int) + 1 from by omega] at ih
    rw [hgd] at ih hsl
    rw [Y_go]; conv => lhs; whnf
    rw [ilt_t (by omega)]
    conv => lhs; whnf
    rw [lget_n (by omega)]
    conv => lhs; whnf
    rw [toReq_call]
    rw [ev_rstart _ _ _ (by omega)]
    conv => lhs; whnf
    rw [toReq_call]
    rw [ev_rsteps _ _ _ _ _ (by omega) (by omega) (by omega)]
    conv => lhs; whnf
    rw [fits_t (by (simp only [sha256_len, msgH_len, digs_len, stepB_len, firstB_len, LL] at * <;> omega))]
    conv => lhs; whnf
    rw [drw (by kernel_rfl)]; conv => lhs; whnf
    rw [iadd_eq (by omega)]
    refine (congrArg (Y E0) ?_).trans ih; (try simp only [Rq.loop.injEq, Rq.call.injEq, Rq.ops.injEq, List.cons.injEq, Prod.mk.injEq, AV.i.injEq, AV.sl.injEq, AV.st.injEq, AV.b.injEq, AV.u8.injEq, AV.nm.injEq, Option.some.injEq, Rs.row.injEq, Rs.var.injEq, heq_eq_eq, true_and, and_true]); (try (repeat' apply And.intro)); all_goals first | (with_reducible rfl) | omega | (rw [iadd_eq (by omega)]; omega) | (rw [isub_eq (by omega)]; omega) | (rw [lapp_eq]; done) | (rw [lapp_eq]; rfl)
theorem ev_rrecover_loop (leaf : Int) (sig : List UInt8) (d : List Int) (hx : sig.length = 560) (hd : d.length = 35) (hdb : ∀ x ∈ d, 0 ≤ x ∧ x ≤ 15) : ∀ (k c : Nat) (acc : List UInt8), c + k = 35 → acc = walkB leaf (fun c => (sig.drop (16 * c)).take 16) (fun c => d.getD c 0) (fun c => (15 : Int)) c → acc.length ≤ 16 * c →
    Y E0 (.loop 38 0 0 1 [(0, .i leaf), (2, .sl .u8 sig), (8, .sl .i64 d), (9, .nm 0), (10, .i c)] [(0, some (.row 5 .u8 acc))]) = some (.fin (.exit 0) 0 [(0, .i leaf), (9, .sl .u8 (walkB leaf (fun c => (sig.drop (16 * c)).take 16) (fun c => d.getD c 0) (fun c => (15 : Int)) 35))] [])
  | 0, c, acc, hc, he, ha => by
    obtain rfl : c = 35 := by omega
    rw [← he]
    rw [Y_go]; conv => lhs; whnf
    rw [ilt_f (by omega)]
    conv => lhs; whnf
  | k + 1, c, acc, hc, he, ha => by
    have hdc := hdb _ (List.getElem_mem (l := d) (n := c) (by omega))
    have hgd : d.getD c 0 = d[c]'(by omega) := by simp [List.getD, show c < d.length by omega]
    have hct : lcut sig (16 * (c : Int)) (16 * (c : Int) + 16) = some ((sig.drop (16 * c)).take 16) := by
      rw [lcut_s (by omega), show (16 * (c : Int)).toNat = 16 * c from by omega, show (16 * (c : Int) + 16 - 16 * (c : Int)).toNat = 16 from by omega]
    have hst : ((sig.drop (16 * c)).take 16).length = 16 := by simp; omega
    have hsl := stepsB_16 ((15 : Int) - d.getD c 0).toNat leaf c (d.getD c 0) _ hst
    have ih := ev_rrecover_loop leaf sig d hx hd hdb k (c + 1) (acc ++ stepsB ((15 : Int) - d.getD c 0).toNat leaf c (d.getD c 0) ((sig.drop (16 * c)).take 16)) (by omega) (by rw [walkB_succ, ← he]) (by rw [List.length_append, hsl]; omega)
    rw [show ((c + 1 : Nat) : Int) = (c : Int) + 1 from by omega] at ih
    rw [hgd] at ih hsl
    rw [Y_go]; conv => lhs; whnf
    rw [ilt_t (by omega)]
    conv => lhs; whnf
    rw [lget_n (by omega)]
    conv => lhs; whnf
    rw [imul_eq (by omega)]
    rw [iadd_eq (by omega)]
    rw [hct]; conv => lhs; whnf
    rw [toReq_call]
    rw [ev_rsteps _ _ _ _ _ (by omega) (by omega) (by omega)]
    conv => lhs; whnf
    rw [fits_t (by (simp only [sha256_len, msgH_len, digs_len, stepB_len, firstB_len, LL] at * <;> omega))]
    conv => lhs; whnf
    rw [drw (by kernel_rfl)]; conv => lhs; whnf
    rw [iadd_eq (by omega)]
    refine (congrArg (Y E0) ?_).trans ih; (try simp only [Rq.loop.injEq, Rq.call.injEq, Rq.ops.injEq, List.cons.injEq, Prod.mk.injEq, AV.i.injEq, AV.sl.injEq, AV.st.injEq, AV.b.injEq, AV.u8.injEq, AV.nm.injEq, Option.some.injEq, Rs.row.injEq, Rs.var.injEq, heq_eq_eq, true_and, and_true]); (try (repeat' apply And.intro)); all_goals first | (with_reducible rfl) | omega | (rw [iadd_eq (by omega)]; omega) | (rw [isub_eq (by omega)]; omega) | (rw [lapp_eq]; done) | (rw [lapp_eq]; rfl)
theorem ev_rpublic (leaf : Int) (seed : List UInt8) (hx : seed.length ≤ 1000000) : Y E0 (.call 33 [.sl .u8 seed, .i leaf] []) = some (.ret (.sl .u8 (publicB seed leaf)) []) := by
  have h0 := ev_rpublic_loop leaf seed hx 35 0 [] (by omega) rfl (by simp)
  rw [show ((0 : Nat) : Int) = 0 from rfl] at h0
  rw [Y_go]; conv => lhs; whnf
  rcases Bool.eq_false_or_eq_true (ilt leaf 0) with hc0 | hc0
  · rw [hc0]; replace hc0 := of_ilt_t hc0; try simp only [llen_eq] at hc0
    conv => lhs; whnf
    unfold publicB; (repeat (first | rw [if_pos (by first | omega | decide | assumption | (simp only [sha256_len, msgH_len, digs_len, stepB_len, firstB_len, LL] at * <;> omega) | (simp; omega))] | rw [if_neg (by first | omega | decide | assumption | (simp only [sha256_len, msgH_len, digs_len, stepB_len, firstB_len, LL] at * <;> omega) | (simp; omega))])); try simp only [NO]
  · rw [hc0]; replace hc0 := of_ilt_f hc0; try simp only [llen_eq] at hc0
    conv => lhs; whnf
    rcases Bool.eq_false_or_eq_true (ilt 255 leaf) with hc1 | hc1
    · rw [hc1]; replace hc1 := of_ilt_t hc1; try simp only [llen_eq] at hc1
      conv => lhs; whnf
      unfold publicB; (repeat (first | rw [if_pos (by first | omega | decide | assumption | (simp only [sha256_len, msgH_len, digs_len, stepB_len, firstB_len, LL] at * <;> omega) | (simp; omega))] | rw [if_neg (by first | omega | decide | assumption | (simp only [sha256_len, msgH_len, digs_len, stepB_len, firstB_len, LL] at * <;> omega) | (simp; omega))])); try simp only [NO]
    · rw [hc1]; replace hc1 := of_ilt_f hc1; try simp only [llen_eq] at hc1
      conv => lhs; whnf
      rw [toReq_loop]
      rw [h0]
      conv => lhs; whnf
      rw [toReq_call]
      rw [ev_rvalue _ _ (by rw [walkB_len _ _ _ _ 35 (fun c _ => firstB_len _ _ _) 35 (Nat.le_refl _)]; omega)]
      conv => lhs; whnf
      unfold publicB; (repeat (first | rw [if_pos (by first | omega | decide | assumption | (simp only [sha256_len, msgH_len, digs_len, stepB_len, firstB_len, LL] at * <;> omega) | (simp; omega))] | rw [if_neg (by first | omega | decide | assumption | (simp only [sha256_len, msgH_len, digs_len, stepB_len, firstB_len, LL] at * <;> omega) | (simp; omega))])); try simp only [NO]
theorem ev_rsign (leaf : Int) (seed m : List UInt8) (hx : seed.length ≤ 1000000) (hm : m.length ≤ 1000000) : Y E0 (.call 36 [.sl .u8 seed, .i leaf, .sl .u8 m] []) = some (.ret (.nm 0) [some (.row 5 .u8 (signB seed leaf m))]) := by
  have h0 := ev_rsign_loop leaf seed (digB m) hx (digB_len m) (digB_mem m) 35 0 [] (by omega) rfl (by simp)
  rw [show ((0 : Nat) : Int) = 0 from rfl] at h0
  rw [Y_go]; conv => lhs; whnf
  rcases Bool.eq_false_or_eq_true (ilt leaf 0) with hc0 | hc0
  · rw [hc0]; replace hc0 := of_ilt_t hc0; try simp only [llen_eq] at hc0
    conv => lhs; whnf
    unfold signB; (repeat (first | rw [if_pos (by first | omega | decide | assumption | (simp only [sha256_len, msgH_len, digs_len, stepB_len, firstB_len, LL] at * <;> omega) | (simp; omega))] | rw [if_neg (by first | omega | decide | assumption | (simp only [sha256_len, msgH_len, digs_len, stepB_len, firstB_len, LL] at * <;> omega) | (simp; omega))])); try simp only [NO]
  · rw [hc0]; replace hc0 := of_ilt_f hc0; try simp only [llen_eq] at hc0
    conv => lhs; whnf
    rcases Bool.eq_false_or_eq_true (ilt 255 leaf) with hc1 | hc1
    · rw [hc1]; replace hc1 := of_ilt_t hc1; try simp only [llen_eq] at hc1
      conv => lhs; whnf
      unfold signB; (repeat (first | rw [if_pos (by first | omega | decide | assumption | (simp only [sha256_len, msgH_len, digs_len, stepB_len, firstB_len, LL] at * <;> omega) | (simp; omega))] | rw [if_neg (by first | omega | decide | assumption | (simp only [sha256_len, msgH_len, digs_len, stepB_len, firstB_len, LL] at * <;> omega) | (simp; omega))])); try simp only [NO]
    · rw [hc1]; replace hc1 := of_ilt_f hc1; try simp only [llen_eq] at hc1
      conv => lhs; whnf
      rw [toReq_call]
      rw [ev_rdigits _ (by omega)]
      conv => lhs; whnf
      rw [toReq_loop]
      rw [h0]
      conv => lhs; whnf
      unfold signB; (repeat (first | rw [if_pos (by first | omega | decide | assumption | (simp only [sha256_len, msgH_len, digs_len, stepB_len, firstB_len, LL] at * <;> omega) | (simp; omega))] | rw [if_neg (by first | omega | decide | assumption | (simp only [sha256_len, msgH_len, digs_len, stepB_len, firstB_len, LL] at * <;> omega) | (simp; omega))])); try simp only [NO]
theorem ev_rrecover (leaf : Int) (m s : List UInt8) (hx : m.length ≤ 1000000) : Y E0 (.call 38 [.i leaf, .sl .u8 m, .sl .u8 s] []) = some (.ret (.tup [.sl .u8 (recB leaf m s).1, .b (recB leaf m s).2]) []) := by
  have h0 := fun h => ev_rrecover_loop leaf s (digB m) h (digB_len m) (digB_mem m) 35 0 [] (by omega) rfl (by simp)
  rw [show ((0 : Nat) : Int) = 0 from rfl] at h0
  rw [Y_go]; conv => lhs; whnf
  rcases Bool.eq_false_or_eq_true (ilt leaf 0) with hc0 | hc0
  · rw [hc0]; replace hc0 := of_ilt_t hc0; try simp only [llen_eq] at hc0
    conv => lhs; whnf
    unfold recB; (repeat (first | rw [if_pos (by first | omega | decide | assumption | (simp only [sha256_len, msgH_len, digs_len, stepB_len, firstB_len, LL] at * <;> omega) | (simp; omega))] | rw [if_neg (by first | omega | decide | assumption | (simp only [sha256_len, msgH_len, digs_len, stepB_len, firstB_len, LL] at * <;> omega) | (simp; omega))])); try simp only [NO]
  · rw [hc0]; replace hc0 := of_ilt_f hc0; try simp only [llen_eq] at hc0
    conv => lhs; whnf
    rcases Bool.eq_false_or_eq_true (ilt 255 leaf) with hc1 | hc1
    · rw [hc1]; replace hc1 := of_ilt_t hc1; try simp only [llen_eq] at hc1
      conv => lhs; whnf
      unfold recB; (repeat (first | rw [if_pos (by first | omega | decide | assumption | (simp only [sha256_len, msgH_len, digs_len, stepB_len, firstB_len, LL] at * <;> omega) | (simp; omega))] | rw [if_neg (by first | omega | decide | assumption | (simp only [sha256_len, msgH_len, digs_len, stepB_len, firstB_len, LL] at * <;> omega) | (simp; omega))])); try simp only [NO]
    · rw [hc1]; replace hc1 := of_ilt_f hc1; try simp only [llen_eq] at hc1
      conv => lhs; whnf
      rcases Bool.eq_false_or_eq_true (ine (llen s) 560) with hc2 | hc2
      · rw [hc2]; replace hc2 := of_ine_t hc2; try simp only [llen_eq] at hc2
        conv => lhs; whnf
        unfold recB; (repeat (first | rw [if_pos (by first | omega | decide | assumption | (simp only [sha256_len, msgH_len, digs_len, stepB_len, firstB_len, LL] at * <;> omega) | (simp; omega))] | rw [if_neg (by first | omega | decide | assumption | (simp only [sha256_len, msgH_len, digs_len, stepB_len, firstB_len, LL] at * <;> omega) | (simp; omega))])); try simp only [NO]
      · rw [hc2]; replace hc2 := of_ine_f hc2; try simp only [llen_eq] at hc2
        conv => lhs; whnf
        rw [toReq_call]
        rw [ev_rdigits _ (by omega)]
        conv => lhs; whnf
        rw [toReq_loop]
        rw [h0 (by omega)]
        conv => lhs; whnf
        rw [toReq_call]
        rw [ev_rvalue _ _ (by rw [walkB_len _ _ _ _ 35 (fun c hc => by simp; omega) 35 (Nat.le_refl _)]; omega)]
        conv => lhs; whnf
        unfold recB; (repeat (first | rw [if_pos (by first | omega | decide | assumption | (simp only [sha256_len, msgH_len, digs_len, stepB_len, firstB_len, LL] at * <;> omega) | (simp; omega))] | rw [if_neg (by first | omega | decide | assumption | (simp only [sha256_len, msgH_len, digs_len, stepB_len, firstB_len, LL] at * <;> omega) | (simp; omega))])); try simp only [NO]
end Go.Proofs.YtlaglaehkhmklaaDoor
/-
  Own text: the laws on one-time signatures, walked.
-/
namespace Go.Ax
open Go.Eng
theorem stepsB_add : ∀ (m n : Nat) (leaf c p : Int) (x : List UInt8), stepsB (m + n) leaf c p x = stepsB n leaf c (p + m) (stepsB m leaf c p x)
  | 0, n, leaf, c, p, x => by simp [stepsB]
  | m + 1, n, leaf, c, p, x => by
    rw [show m + 1 + n = (m + n) + 1 from by omega, stepsB, stepsB_add m n, stepsB]
    congr 1; omega
theorem walkB_get (leaf : Int) (st : Nat → List UInt8) (fr to : Nat → Int) (m : Nat) (hs : ∀ c, c < m → (st c).length = 16) : ∀ n, n ≤ m → ∀ c, c < n → ((walkB leaf st fr to n).drop (16 * c)).take 16 = stepsB (to c - fr c).toNat leaf c (fr c) (st c)
  | 0, _, c, hc => by omega
  | n + 1, hn, c, hc => by
    have hl := walkB_len leaf st fr to m hs n (by omega)
    rw [walkB_succ]
    by_cases h : c = n
    · subst h
      rw [List.drop_append, List.drop_eq_nil_of_le (by omega), hl, Nat.sub_self, List.drop_zero, List.nil_append]
      exact List.take_of_length_le (by rw [stepsB_16 _ _ _ _ _ (hs c (by omega))]; omega)
    · rw [List.drop_append_of_le_length (by omega), List.take_append_of_le_length (by rw [List.length_drop]; omega)]
      exact walkB_get leaf st fr to m hs n (by omega) c (by omega)
theorem walkB_congr {leaf : Int} {st st' : Nat → List UInt8} {fr fr' to to' : Nat → Int} : ∀ n, (∀ c, c < n → stepsB (to c - fr c).toNat leaf c (fr c) (st c) = stepsB (to' c - fr' c).toNat leaf c (fr' c) (st' c)) → walkB leaf st fr to n = walkB leaf st' fr' to' n
  | 0, _ => rfl
  | n + 1, h => by rw [walkB_succ, walkB_succ, walkB_congr n (fun c hc => h c (by omega)), h n (by omega)]
theorem dig_bd (m : List UInt8) (c : Nat) (hc : c < 35) : 0 ≤ (digB m).getD c 0 ∧ (digB m).getD c 0 ≤ 15 := by
  have hl := digB_len m
  have := digB_mem m _ (List.getElem_mem (l := digB m) (n := c) (by omega))
  simp only [List.getD, List.getElem?_eq_getElem (show c < (digB m).length by omega), Option.getD_some]; exact this
theorem signB_len {seed m : List UInt8} {leaf : Int} (h : 0 ≤ leaf ∧ leaf ≤ 255) : (signB seed leaf m).length = 560 := by
  unfold signB
  rw [if_pos h, walkB_len _ _ _ _ 35 (fun c _ => firstB_len _ _ _) 35 (Nat.le_refl _)]
theorem sign_le (seed m : List UInt8) (leaf : Int) : (signB seed leaf m).length ≤ 560 := by
  by_cases h : 0 ≤ leaf ∧ leaf ≤ 255
  · rw [signB_len h]; omega
  · unfold signB; rw [if_neg h]; simp
theorem ot_trip {seed m : List UInt8} {leaf : Int} (h : 0 ≤ leaf ∧ leaf ≤ 255) : recB leaf m (signB seed leaf m) = (publicB seed leaf, true) := by
  have hl := signB_len (seed := seed) (m := m) h
  unfold recB publicB
  rw [if_pos ⟨h, hl⟩, if_pos h]
  congr 2
  refine walkB_congr 35 fun c hc => ?_
  have hd := dig_bd m c hc
  have hg := walkB_get leaf (fun c => firstB seed leaf c) (fun c => (0 : Int)) (fun c => (digB m).getD c 0) 35 (fun c _ => firstB_len _ _ _) 35 (Nat.le_refl _) c hc
  unfold signB
  rw [if_pos h, hg]
  have := stepsB_add ((digB m).getD c 0 - 0).toNat (15 - (digB m).getD c 0).toNat leaf c 0 (firstB seed leaf c)
  rw [show ((digB m).getD c 0 - 0).toNat + (15 - (digB m).getD c 0).toNat = (15 - (0 : Int)).toNat from by omega, show (0 : Int) + (((digB m).getD c 0 - 0).toNat : Int) = (digB m).getD c 0 from by omega] at this
  exact this.symm
theorem public_le (seed : List UInt8) (leaf : Int) : (publicB seed leaf).length ≤ 16 := by
  unfold publicB; split
  · rw [valueB_len]; omega
  · simp
theorem rec_le (leaf : Int) (m s : List UInt8) : (recB leaf m s).1.length ≤ 16 := by
  unfold recB; split
  · simp only [valueB_len]; omega
  · simp
theorem rec_2 (leaf : Int) (m s : List UInt8) : (recB leaf m s).2 = decide ((0 ≤ leaf ∧ leaf ≤ 255) ∧ s.length = 560) := by
  unfold recB; split
  · rename_i h; simp only [decide_eq_true h]
  · rename_i h; simp only [decide_eq_false h]
theorem rec_0 {leaf : Int} {m s : List UInt8} (h : (recB leaf m s).2 = false) : (recB leaf m s).1 = [] := by
  rw [rec_2] at h
  unfold recB; rw [if_neg (of_decide_eq_false h)]
def sumD : List Int → Int
  | [] => 0
  | x :: l => 15 - x + sumD l
theorem sumD_app : ∀ l m : List Int, sumD (l ++ m) = sumD l + sumD m
  | [], m => by simp [sumD]
  | x :: l, m => by simp only [List.cons_append, sumD, sumD_app l m]; omega
theorem sumD_digs : ∀ l : List UInt8, sumD (digs l) = dsum l
  | [] => rfl
  | b :: l => by
    have := sumD_digs l
    simp only [digs] at *
    simp only [List.flatMap_cons, List.cons_append, List.nil_append, sumD, dsum, this]; omega
theorem sumD_bd : ∀ l : List Int, (∀ x ∈ l, 0 ≤ x ∧ x ≤ 15) → 0 ≤ sumD l ∧ sumD l ≤ 15 * l.length
  | [], _ => by simp [sumD]
  | x :: l, h => by
    have h1 := h x (by simp)
    have h2 := sumD_bd l (fun y hy => h y (by simp [hy]))
    simp only [sumD, List.length_cons]; omega
theorem digs16_len (m : List UInt8) : (digs (msgH m)).length = 32 := by rw [digs_len, msgH_len]
theorem digB_take (m : List UInt8) : (digB m).take 32 = digs (msgH m) := by
  unfold digB digH; rw [List.take_append_of_le_length (by rw [digs16_len]; omega), List.take_of_length_le (by rw [digs16_len]; omega)]
theorem digB_get (m : List UInt8) : lget (digB m) 32 = some (dsum (msgH m) / 256) ∧ lget (digB m) 33 = some (dsum (msgH m) / 16 % 16) ∧ lget (digB m) 34 = some (dsum (msgH m) % 16) := by
  have h := digs16_len m
  refine ⟨?_, ?_, ?_⟩
  · rw [show (32 : Int) = ((32 : Nat) : Int) from rfl, lget_nat]; unfold digB digH; rw [List.getElem?_append_right (by omega), h]; rfl
  · rw [show (33 : Int) = ((33 : Nat) : Int) from rfl, lget_nat]; unfold digB digH; rw [List.getElem?_append_right (by omega), h]; rfl
  · rw [show (34 : Int) = ((34 : Nat) : Int) from rfl, lget_nat]; unfold digB digH; rw [List.getElem?_append_right (by omega), h]; rfl
def anyGt : List Int → List Int → Bool
  | a :: x, b :: y => decide (b < a) || anyGt x y
  | _, _ => false
theorem anyGt_self : ∀ x : List Int, anyGt x x = false
  | [] => rfl
  | a :: x => by simp [anyGt, anyGt_self x]
theorem anyGt_app : ∀ (x1 y1 x2 y2 : List Int), x1.length = y1.length → anyGt (x1 ++ x2) (y1 ++ y2) = (anyGt x1 y1 || anyGt x2 y2)
  | [], [], x2, y2, _ => by simp [anyGt]
  | a :: x1, b :: y1, x2, y2, h => by simp only [List.cons_append, anyGt, anyGt_app x1 y1 x2 y2 (by simpa using h), Bool.or_assoc]
  | [], b :: y1, x2, y2, h => by simp at h
  | a :: x1, [], x2, y2, h => by simp at h
theorem sum_le : ∀ (x y : List Int), x.length = y.length → anyGt x y = false → sumD y ≤ sumD x ∧ (sumD x = sumD y → x = y)
  | [], [], _, _ => by simp [sumD]
  | a :: x, b :: y, h, hg => by
    simp only [anyGt, Bool.or_eq_false_iff, decide_eq_false_iff_not] at hg
    obtain ⟨h1, h2⟩ := sum_le x y (by simpa using h) hg.2
    simp only [sumD]
    refine ⟨by omega, fun e => ?_⟩
    obtain rfl : a = b := by omega
    rw [h2 (by omega)]
  | [], b :: y, h, _ => by simp at h
  | a :: x, [], h, _ => by simp at h
theorem cross1 (a b : List UInt8) (h : anyGt (digB a) (digB b) = false) : digB a = digB b := by
  unfold digB digH at h
  rw [anyGt_app _ _ _ _ (by rw [digs16_len, digs16_len]), Bool.or_eq_false_iff] at h
  obtain ⟨h1, h2⟩ := h
  obtain ⟨h3, h4⟩ := sum_le _ _ (by rw [digs16_len, digs16_len]) h1
  rw [sumD_digs, sumD_digs] at h3 h4
  simp only [anyGt, Bool.or_eq_false_iff, decide_eq_false_iff_not] at h2
  have e : dsum (msgH a) = dsum (msgH b) := by omega
  unfold digB digH
  rw [h4 e, e]
theorem cross (a b : List UInt8) : (anyGt (digB a) (digB b) == anyGt (digB b) (digB a)) = true ∧ (anyGt (digB a) (digB b) != decide (digB a = digB b)) = true := by
  by_cases h : digB a = digB b
  · rw [h, anyGt_self]; simp
  · cases h1 : anyGt (digB a) (digB b)
    · exact absurd (cross1 a b h1) h
    · cases h2 : anyGt (digB b) (digB a)
      · exact absurd (cross1 b a h2).symm h
      · simp [h]
end Go.Ax
namespace Go.Proofs.YtlaglaehkhmklaaDoor
open Go Go.Ax Go.Eng
set_option linter.unusedVariables false
set_option linter.unusedSimpArgs false
attribute [local irreducible] iadd isub imul iquo irem ibit ineg ieq ine ilt ile ishl ishr beq' bnot and' seq' u8op u32op u64op u8shr u8shl u64shr u64shl u32shr u32shl i64w u8i u64i iu8 iu32 iu64 u8u64 u64u8 u32u8 u64cmp u8cmp u32cmp llen lget linb lset lcut lrep lapp lcpy lemp fits fitn sealed drawChk fpSame
set_option maxHeartbeats 1000000
set_option maxRecDepth 100000
theorem ev_awake5 : Y E0 (.call 28 [] []) = some (.ret (.b true) []) := by
  have h1 := signB_len (seed := [UInt8.ofNat 1]) (m := [UInt8.ofNat 2]) (leaf := 0) (by decide)
  have h2 := ot_trip (seed := [UInt8.ofNat 1]) (m := [UInt8.ofNat 2]) (leaf := 0) (by decide)
  have h3 : (publicB [UInt8.ofNat 1] 0).length = 16 := by unfold publicB; rw [if_pos (by decide), valueB_len]
  have e1 := ev_sign 0 [UInt8.ofNat 1] [UInt8.ofNat 2] (by simp) (by simp)
  have e2 := ev_recover 0 [UInt8.ofNat 2] (signB [UInt8.ofNat 1] 0 [UInt8.ofNat 2]) (by simp)
  have e3 := ev_public 0 [UInt8.ofNat 1] (by simp)
  rw [h2] at e2
  generalize signB [UInt8.ofNat 1] 0 [UInt8.ofNat 2] = sg at *
  generalize publicB [UInt8.ofNat 1] 0 = pb at *
  clear h2
  rw [Y_go]; conv => lhs; whnf
  rw [toReq_call]
  rw [e1]
  conv => lhs; whnf
  rw [toReq_call]
  rw [e2]
  conv => lhs; whnf
  rw [toReq_call]
  rw [e3]
  conv => lhs; whnf
  rw [ieq_t (by (simp only [sha256_len, msgH_len, digs_len, stepB_len, LL] at * <;> omega))]
  conv => lhs; whnf
  rw [ieq_t (by (simp only [sha256_len, msgH_len, digs_len, stepB_len, LL] at * <;> omega))]
  conv => lhs; whnf
  rw [toReq_call]
  rw [ev_same _ _ (by (simp only [sha256_len, msgH_len, digs_len, stepB_len, LL] at * <;> omega))]
  conv => lhs; whnf
  simp
theorem ev_ints_loop (a b : List Int) (hb : a.length ≤ 4294967296) (hl : a.length = b.length) : ∀ (k : Nat) (j : Int), j + k = a.length → 0 ≤ j → a.take j.toNat = b.take j.toNat →
    Y E0 (.loop 29 0 0 0 [(0, .sl .i64 a), (1, .sl .i64 b), (5, .i j)] []) = if a = b then some (.fin (.exit 0) 0 [] []) else some (.fin .ret 0 [(4, .b false)] [])
  | 0, j, hj, h0, ht => by
    have he : a = b := by rwa [List.take_of_length_le (by omega), List.take_of_length_le (by omega)] at ht
    rw [if_pos he]
    rw [Y_go]; conv => lhs; whnf
    rw [ilt_f (by (simp only [sha256_len, msgH_len, digs_len, stepB_len, LL] at * <;> omega))]
    conv => lhs; whnf
  | k + 1, j, hj, h0, ht => by
    by_cases hab : a[j.toNat]'(by omega) = b[j.toNat]'(by omega)
    · have ih := ev_ints_loop a b hb hl k (j + 1) (by omega) (by omega) (by rw [show (j + 1).toNat = j.toNat + 1 from by omega]; exact take_eq a b _ (by omega) (by omega) ht hab)
      refine Eq.trans ?_ ih
      rw [Y_go]; conv => lhs; whnf
      rw [ilt_t (by (simp only [sha256_len, msgH_len, digs_len, stepB_len, LL] at * <;> omega))]
      conv => lhs; whnf
      rw [lget_i (by omega)]
      conv => lhs; whnf
      rw [lget_i (by omega)]
      conv => lhs; whnf
      rw [drw (by kernel_rfl)]; conv => lhs; whnf
      rw [ine_f (by omega)]
      conv => lhs; whnf
      rw [iadd_eq (by omega)]
    · have hne : a ≠ b := fun e => hab (by subst e; rfl)
      rw [if_neg hne]
      rw [Y_go]; conv => lhs; whnf
      rw [ilt_t (by (simp only [sha256_len, msgH_len, digs_len, stepB_len, LL] at * <;> omega))]
      conv => lhs; whnf
      rw [lget_i (by omega)]
      conv => lhs; whnf
      rw [lget_i (by omega)]
      conv => lhs; whnf
      rw [drw (by kernel_rfl)]; conv => lhs; whnf
      rw [ine_t (by omega)]
      conv => lhs; whnf
theorem ev_ints (a b : List Int) (hb : a.length ≤ 4294967296) : Y E0 (.call 29 [.sl .i64 a, .sl .i64 b] []) = some (.ret (.b (decide (a = b))) []) := by
  by_cases h : a = b
  · rw [decide_eq_true h]
    rw [Y_go]; conv => lhs; whnf
    rcases Bool.eq_false_or_eq_true (ine (llen a) (llen b)) with hc0 | hc0
    · rw [hc0]; replace hc0 := of_ine_t hc0; try simp only [llen_eq] at hc0
      conv => lhs; whnf
      exact absurd (congrArg List.length h) (by omega)
    · rw [hc0]; replace hc0 := of_ine_f hc0; try simp only [llen_eq] at hc0
      conv => lhs; whnf
      rw [toReq_loop]
      rw [ev_ints_loop a b hb (by omega) a.length 0 (by omega) (by omega) (by simp), if_pos h]
      conv => lhs; whnf
  · rw [decide_eq_false h]
    rw [Y_go]; conv => lhs; whnf
    rcases Bool.eq_false_or_eq_true (ine (llen a) (llen b)) with hc0 | hc0
    · rw [hc0]; replace hc0 := of_ine_t hc0; try simp only [llen_eq] at hc0
      conv => lhs; whnf
    · rw [hc0]; replace hc0 := of_ine_f hc0; try simp only [llen_eq] at hc0
      conv => lhs; whnf
      rw [toReq_loop]
      rw [ev_ints_loop a b hb (by omega) a.length 0 (by omega) (by omega) (by simp), if_neg h]
      conv => lhs; whnf
theorem ev_short (a b : List UInt8) : Y E0 (.call 34 [.sl .u8 a, .sl .u8 b] []) = some (.ret (.b (decide (a.length ≤ 100 ∧ b.length ≤ 100))) []) := by
  rw [Y_go]; conv => lhs; whnf
  rcases Bool.eq_false_or_eq_true (ile (llen a) 100) with hc0 | hc0
  · rw [hc0]; replace hc0 := of_ile_t hc0; try simp only [llen_eq] at hc0
    conv => lhs; whnf
    (congr 3; simp only [ieq_eq, ine_eq, ilt_eq, ile_eq, bnot_eq, and_eq, llen_eq]; first | rfl | (rw [decide_eq_decide]; omega) | (simp; omega))
  · rw [hc0]; replace hc0 := of_ile_f hc0; try simp only [llen_eq] at hc0
    conv => lhs; whnf
    (rw [decide_eq_false (by omega)])
theorem ev_OnetimeDigits (m : List UInt8) : Y E0 (.call 9 [.sl .u8 m] []) = some (.ret (.b true) []) := by
  rw [Y_go]; conv => lhs; whnf
  rw [toReq_call]
  rw [ev_awake5]
  conv => lhs; whnf
  rw [bnot_eq]; conv => lhs; whnf
  rcases Bool.eq_false_or_eq_true (ilt 200 (llen m)) with hc0 | hc0
  · rw [hc0]; replace hc0 := of_ilt_t hc0; try simp only [llen_eq] at hc0
    conv => lhs; whnf
  · rw [hc0]; replace hc0 := of_ilt_f hc0; try simp only [llen_eq] at hc0
    conv => lhs; whnf
    rw [toReq_call]
    rw [ev_digits _ (by omega)]
    conv => lhs; whnf
    rw [toReq_call]
    rw [ev_rdigits _ (by omega)]
    conv => lhs; whnf
    rw [toReq_call]
    rw [ev_ints _ _ (by rw [digB_len]; omega), decide_eq_true rfl]
    conv => lhs; whnf
theorem ev_OnetimePublic (seed : List UInt8) (leaf : Int) : Y E0 (.call 11 [.sl .u8 seed, .i leaf] []) = some (.ret (.b true) []) := by
  rw [Y_go]; conv => lhs; whnf
  rw [toReq_call]
  rw [ev_awake5]
  conv => lhs; whnf
  rw [bnot_eq]; conv => lhs; whnf
  rcases Bool.eq_false_or_eq_true (ilt 100 (llen seed)) with hc0 | hc0
  · rw [hc0]; replace hc0 := of_ilt_t hc0; try simp only [llen_eq] at hc0
    conv => lhs; whnf
  · rw [hc0]; replace hc0 := of_ilt_f hc0; try simp only [llen_eq] at hc0
    conv => lhs; whnf
    rw [toReq_call]
    rw [ev_public _ _ (by omega)]
    conv => lhs; whnf
    rw [toReq_call]
    rw [ev_rpublic _ _ (by omega)]
    conv => lhs; whnf
    rw [toReq_call]
    rw [ev_same _ _ (Nat.le_trans (public_le _ _) (by omega)), decide_eq_true rfl]
    conv => lhs; whnf
    rw [toReq_call]
    rw [ev_public _ _ (by omega)]
    conv => lhs; whnf
    rw [toReq_call]
    rw [ev_rpublic _ _ (by omega)]
    conv => lhs; whnf
    rw [toReq_call]
    rw [ev_same _ _ (Nat.le_trans (public_le _ _) (by omega)), decide_eq_true rfl]
    conv => lhs; whnf
theorem ev_OnetimeSign (seed m : List UInt8) (leaf : Int) : Y E0 (.call 12 [.sl .u8 seed, .i leaf, .sl .u8 m] []) = some (.ret (.b true) []) := by
  rw [Y_go]; conv => lhs; whnf
  rw [toReq_call]
  rw [ev_awake5]
  conv => lhs; whnf
  rw [bnot_eq]; conv => lhs; whnf
  rw [toReq_call]
  rw [ev_short _ _]
  conv => lhs; whnf
  rw [bnot_eq]; conv => lhs; whnf
  rcases Bool.eq_false_or_eq_true (decide (seed.length ≤ 100 ∧ m.length ≤ 100)) with hc0 | hc0
  · rw [hc0]; replace hc0 := of_decide_eq_true hc0; try simp only at hc0
    conv => lhs; whnf
    rw [toReq_call]
    rw [ev_sign _ _ _ (by omega) (by omega)]
    conv => lhs; whnf
    rw [toReq_call]
    rw [ev_rsign _ _ _ (by omega) (by omega)]
    conv => lhs; whnf
    rw [toReq_call]
    rw [ev_same _ _ (Nat.le_trans (sign_le _ _ _) (by omega)), decide_eq_true rfl]
    conv => lhs; whnf
    rw [toReq_call]
    rw [ev_sign _ _ _ (by omega) (by omega)]
    conv => lhs; whnf
    rw [toReq_call]
    rw [ev_rsign _ _ _ (by omega) (by omega)]
    conv => lhs; whnf
    rw [toReq_call]
    rw [ev_same _ _ (Nat.le_trans (sign_le _ _ _) (by omega)), decide_eq_true rfl]
    conv => lhs; whnf
  · rw [hc0]; replace hc0 := of_decide_eq_false hc0; try simp only at hc0
    conv => lhs; whnf
theorem ev_OnetimeRecover_m (leaf : Int) (m o raw sig : List UInt8) (hm : m.length ≤ 100) (ho : o.length ≤ 100) (hr : raw.length ≤ 600) : Y E0 (.ops ⟨133, 13, 0⟩ [true, true, true, true, true, false] 0 [Fr.seq [true, true, true, true, true, true] 0, Fr.ret] 0 [(1, AV.i leaf), (2, AV.sl Ty.u8 m), (3, AV.sl Ty.u8 o), (6, AV.sl Ty.u8 raw), (15, AV.sl Ty.u8 sig)] []) = some (.ret (.b true) []) := by
  have h7 : ibit .and leaf 7 = leaf % 8 := iand_7 leaf
  have h2 := rec_2 (leaf % 8) m raw
  have h0 := rec_0 (leaf := leaf % 8) (m := m) (s := raw)
  have hrr := ev_recover (leaf % 8) m raw (by omega)
  have hb1 : ∀ x : Bool, beq' x x = true := fun x => by rw [beq_eq]; simp
  have hb2 : beq' (recB (leaf % 8) m raw).2 (ieq (llen raw) 560) = true := by
    rw [beq_eq, h2, ieq_eq, llen_eq, beq_iff_eq, decide_eq_decide]; omega
  generalize recB (leaf % 8) m raw = R at *
  obtain ⟨t, nb⟩ := R
  cases nb
  · obtain rfl : t = [] := h0 rfl
    rw [Y_go]; conv => lhs; whnf
    rw [toReq_call]
    rw [ev_recover _ _ _ (by omega)]
    conv => lhs; whnf
    rw [toReq_call]
    rw [ev_rrecover _ _ _ (by omega)]
    conv => lhs; whnf
    rw [toReq_call]
    rw [h7, ev_recover _ _ _ (by omega)]
    conv => lhs; whnf
    rw [toReq_call]
    rw [h7, ev_rrecover _ _ _ (by omega)]
    conv => lhs; whnf
    rw [toReq_call]
    rw [h7, hrr]
    conv => lhs; whnf
    rw [hb1]; conv => lhs; whnf
    rw [toReq_call]
    rw [ev_same _ _ (Nat.le_trans (rec_le _ _ _) (by omega)), decide_eq_true rfl]
    conv => lhs; whnf
    rw [hb1]; conv => lhs; whnf
    rw [toReq_call]
    rw [ev_same _ _ (Nat.le_trans (rec_le _ _ _) (by omega)), decide_eq_true rfl]
    conv => lhs; whnf
    rw [Y_go]; conv => lhs; whnf
    rw [hb2]; conv => lhs; whnf
    (congr 3; simp only [ieq_eq, ine_eq, ilt_eq, ile_eq, bnot_eq, and_eq, llen_eq]; first | rfl | (rw [decide_eq_decide]; omega) | (simp; omega))
  · rw [Y_go]; conv => lhs; whnf
    rw [toReq_call]
    rw [ev_recover _ _ _ (by omega)]
    conv => lhs; whnf
    rw [toReq_call]
    rw [ev_rrecover _ _ _ (by omega)]
    conv => lhs; whnf
    rw [toReq_call]
    rw [h7, ev_recover _ _ _ (by omega)]
    conv => lhs; whnf
    rw [toReq_call]
    rw [h7, ev_rrecover _ _ _ (by omega)]
    conv => lhs; whnf
    rw [toReq_call]
    rw [h7, hrr]
    conv => lhs; whnf
    rw [hb1]; conv => lhs; whnf
    rw [toReq_call]
    rw [ev_same _ _ (Nat.le_trans (rec_le _ _ _) (by omega)), decide_eq_true rfl]
    conv => lhs; whnf
    rw [hb1]; conv => lhs; whnf
    rw [toReq_call]
    rw [ev_same _ _ (Nat.le_trans (rec_le _ _ _) (by omega)), decide_eq_true rfl]
    conv => lhs; whnf
    rw [Y_go]; conv => lhs; whnf
    rw [hb2]; conv => lhs; whnf
theorem ev_OnetimeRecover (seed : List UInt8) (leaf : Int) (m o : List UInt8) (at' : Int) (x : UInt8) (raw : List UInt8) : Y E0 (.call 13 [.sl .u8 seed, .i leaf, .sl .u8 m, .sl .u8 o, .i at', .u8 x, .sl .u8 raw] []) = some (.ret (.b true) []) := by
  rw [Y_go]; conv => lhs; whnf
  rw [toReq_call]
  rw [ev_awake5]
  conv => lhs; whnf
  rw [bnot_eq]; conv => lhs; whnf
  rw [toReq_call]
  rw [ev_short _ _]
  conv => lhs; whnf
  rw [bnot_eq]; conv => lhs; whnf
  rcases Bool.eq_false_or_eq_true (decide (seed.length ≤ 100 ∧ m.length ≤ 100)) with hc0 | hc0
  · rw [hc0]; replace hc0 := of_decide_eq_true hc0; try simp only at hc0
    conv => lhs; whnf
    rcases Bool.eq_false_or_eq_true (ilt 100 (llen o)) with hc1 | hc1
    · rw [hc1]; replace hc1 := of_ilt_t hc1; try simp only [llen_eq] at hc1
      conv => lhs; whnf
    · rw [hc1]; replace hc1 := of_ilt_f hc1; try simp only [llen_eq] at hc1
      conv => lhs; whnf
      rcases Bool.eq_false_or_eq_true (ilt 600 (llen raw)) with hc2 | hc2
      · rw [hc2]; replace hc2 := of_ilt_t hc2; try simp only [llen_eq] at hc2
        conv => lhs; whnf
      · rw [hc2]; replace hc2 := of_ilt_f hc2; try simp only [llen_eq] at hc2
        conv => lhs; whnf
        rw [toReq_call]
        rw [ev_rsign _ _ _ (by omega) (by omega)]
        conv => lhs; whnf
        rcases Bool.eq_false_or_eq_true (ile 0 at') with hc3 | hc3
        · rw [hc3]; replace hc3 := of_ile_t hc3; try simp only [llen_eq] at hc3
          conv => lhs; whnf
          rcases Bool.eq_false_or_eq_true (ilt at' (llen (signB seed (ibit BinOp.and leaf 7) m))) with hc4 | hc4
          · rw [hc4]; replace hc4 := of_ilt_t hc4; try simp only [llen_eq] at hc4
            conv => lhs; whnf
            rw [linb_t (by omega)]
            conv => lhs; whnf
            rw [lget_i (by omega)]
            conv => lhs; whnf
            rw [linb_t (by omega)]
            conv => lhs; whnf
            rw [lget_i (by omega)]
            conv => lhs; whnf
            rw [Y_go]; conv => lhs; whnf
            rw [ev_OnetimeRecover_m _ _ _ _ _ (by omega) (by omega) (by omega)]
          · rw [hc4]; replace hc4 := of_ilt_f hc4; try simp only [llen_eq] at hc4
            conv => lhs; whnf
            rw [ev_OnetimeRecover_m _ _ _ _ _ (by omega) (by omega) (by omega)]
        · rw [hc3]; replace hc3 := of_ile_f hc3; try simp only [llen_eq] at hc3
          conv => lhs; whnf
          rw [ev_OnetimeRecover_m _ _ _ _ _ (by omega) (by omega) (by omega)]
  · rw [hc0]; replace hc0 := of_decide_eq_false hc0; try simp only at hc0
    conv => lhs; whnf
theorem ev_OnetimeTrip (seed : List UInt8) (leaf : UInt8) (m : List UInt8) : Y E0 (.call 14 [.sl .u8 seed, .u8 leaf, .sl .u8 m] []) = some (.ret (.b true) []) := by
  have hl := leaf.toNat_lt
  have h2 := ot_trip (seed := seed) (m := m) (leaf := (leaf.toNat : Int)) (by omega)
  have h3 : (publicB seed (leaf.toNat : Int)).length = 16 := by unfold publicB; rw [if_pos (by omega), valueB_len]
  rw [Y_go]; conv => lhs; whnf
  rw [toReq_call]
  rw [ev_awake5]
  conv => lhs; whnf
  rw [bnot_eq]; conv => lhs; whnf
  rw [toReq_call]
  rw [ev_short _ _]
  conv => lhs; whnf
  rw [bnot_eq]; conv => lhs; whnf
  rcases Bool.eq_false_or_eq_true (decide (seed.length ≤ 100 ∧ m.length ≤ 100)) with hc0 | hc0
  · rw [hc0]; replace hc0 := of_decide_eq_true hc0; try simp only at hc0
    conv => lhs; whnf
    rw [toReq_call]
    rw [u8i_eq, ev_sign _ _ _ (by omega) (by omega)]
    conv => lhs; whnf
    rw [toReq_call]
    rw [ev_recover _ _ _ (by omega), h2]
    conv => lhs; whnf
    rw [ieq_t (by (simp only [sha256_len, msgH_len, digs_len, stepB_len, LL] at * <;> omega))]
    conv => lhs; whnf
    rw [toReq_call]
    rw [u8i_eq, ev_public _ _ (by omega)]
    conv => lhs; whnf
    rw [toReq_call]
    rw [ev_same _ _ (by (simp only [sha256_len, msgH_len, digs_len, stepB_len, LL] at * <;> omega))]
    conv => lhs; whnf
    simp
  · rw [hc0]; replace hc0 := of_decide_eq_false hc0; try simp only at hc0
    conv => lhs; whnf
theorem ev_OnetimeChecksum_loop (d : List Int) (hd : d.length = 35) (hb : ∀ x ∈ d, 0 ≤ x ∧ x ≤ 15) : ∀ (k j : Nat), j + k = 35 → Y E0 (.loop 10 0 0 0 [(3, .sl .i64 d), (4, .i (sumD ((d.take 32).take j))), (5, .i j)] []) = some (.fin (.exit 0) 0 [(3, .sl .i64 d), (4, .i (sumD (d.take 32)))] [])
  | 0, j, hj => by
    rw [List.take_of_length_le (l := d.take 32) (by rw [List.length_take]; omega)]
    rw [Y_go]; conv => lhs; whnf
    rw [ilt_f (by omega)]
    conv => lhs; whnf
  | k + 1, j, hj => by
    have ih := ev_OnetimeChecksum_loop d hd hb k (j + 1) (by omega)
    have hj1 := hb _ (List.getElem_mem (l := d) (n := j) (by omega))
    have hs := sumD_bd ((d.take 32).take j) (fun x hx => hb x (List.mem_of_mem_take (List.mem_of_mem_take hx)))
    rw [List.length_take, List.length_take] at hs
    rw [show ((j + 1 : Nat) : Int) = (j : Int) + 1 from by omega] at ih
    by_cases h32 : j < 32
    · have e1 : (d.take 32).take (j + 1) = (d.take 32).take j ++ [d[j]'(by omega)] := by rw [List.take_succ_eq_append_getElem (by rw [List.length_take]; omega)]; simp
      rw [e1, sumD_app] at ih
      rw [Y_go]; conv => lhs; whnf
      rw [ilt_t (by omega)]
      conv => lhs; whnf
      rw [lget_n (by omega)]
      conv => lhs; whnf
      rw [ilt_f (by omega)]
      conv => lhs; whnf
      rw [lget_n (by omega)]
      conv => lhs; whnf
      rw [ilt_f (by omega)]
      conv => lhs; whnf
      rw [ilt_t (by omega)]
      conv => lhs; whnf
      rw [lget_n (by omega)]
      conv => lhs; whnf
      rw [isub_eq (by omega)]
      rw [iadd_eq (by omega)]
      rw [Y_go]; conv => lhs; whnf
      rw [iadd_eq (by omega)]
      refine (congrArg (Y E0) ?_).trans ih; (try simp only [Rq.loop.injEq, Rq.call.injEq, Rq.ops.injEq, List.cons.injEq, Prod.mk.injEq, AV.i.injEq, AV.sl.injEq, AV.st.injEq, AV.b.injEq, AV.u8.injEq, AV.nm.injEq, Option.some.injEq, Rs.row.injEq, Rs.var.injEq, heq_eq_eq, true_and, and_true]); (try (repeat' apply And.intro)); all_goals first | (with_reducible rfl) | omega | (rw [iadd_eq (by omega)]; omega) | (rw [isub_eq (by omega)]; omega) | (simp only [sumD]; omega)
    · have hl32 : (d.take 32).length = 32 := by rw [List.length_take]; omega
      have e1 : (d.take 32).take (j + 1) = (d.take 32).take j := by rw [List.take_of_length_le (l := d.take 32) (i := j + 1) (by omega), List.take_of_length_le (l := d.take 32) (i := j) (by omega)]
      rw [e1] at ih
      rw [Y_go]; conv => lhs; whnf
      rw [ilt_t (by omega)]
      conv => lhs; whnf
      rw [lget_n (by omega)]
      conv => lhs; whnf
      rw [ilt_f (by omega)]
      conv => lhs; whnf
      rw [lget_n (by omega)]
      conv => lhs; whnf
      rw [ilt_f (by omega)]
      conv => lhs; whnf
      rw [ilt_f (by omega)]
      conv => lhs; whnf
      rw [Y_go]; conv => lhs; whnf
      rw [iadd_eq (by omega)]
      refine (congrArg (Y E0) ?_).trans ih; (try simp only [Rq.loop.injEq, Rq.call.injEq, Rq.ops.injEq, List.cons.injEq, Prod.mk.injEq, AV.i.injEq, AV.sl.injEq, AV.st.injEq, AV.b.injEq, AV.u8.injEq, AV.nm.injEq, Option.some.injEq, Rs.row.injEq, Rs.var.injEq, heq_eq_eq, true_and, and_true]); (try (repeat' apply And.intro)); all_goals first | (with_reducible rfl) | omega | (rw [iadd_eq (by omega)]; omega) | (rw [isub_eq (by omega)]; omega)
theorem ev_OnetimeChecksum (m : List UInt8) : Y E0 (.call 10 [.sl .u8 m] []) = some (.ret (.b true) []) := by
  have h0 := ev_OnetimeChecksum_loop (digB m) (digB_len m) (digB_mem m) 35 0 (by omega)
  have hdl := digB_len m
  rw [show ((0 : Nat) : Int) = 0 from rfl, List.take_zero, show sumD [] = 0 from rfl, digB_take, sumD_digs] at h0
  obtain ⟨g1, g2, g3⟩ := digB_get m
  have hds := dsum_bd (msgH m)
  rw [msgH_len] at hds
  rw [Y_go]; conv => lhs; whnf
  rw [toReq_call]
  rw [ev_awake5]
  conv => lhs; whnf
  rw [bnot_eq]; conv => lhs; whnf
  rcases Bool.eq_false_or_eq_true (ilt 200 (llen m)) with hc0 | hc0
  · rw [hc0]; replace hc0 := of_ilt_t hc0; try simp only [llen_eq] at hc0
    conv => lhs; whnf
  · rw [hc0]; replace hc0 := of_ilt_f hc0; try simp only [llen_eq] at hc0
    conv => lhs; whnf
    rw [toReq_call]
    rw [ev_digits _ (by omega)]
    conv => lhs; whnf
    rw [ine_f (by (simp only [sha256_len, msgH_len, digs_len, stepB_len, LL] at * <;> omega))]
    conv => lhs; whnf
    rw [toReq_loop]
    rw [h0]
    conv => lhs; whnf
    rw [g1]; conv => lhs; whnf
    rw [g2]; conv => lhs; whnf
    rw [g3]; conv => lhs; whnf
    rw [imul_eq (by omega)]
    rw [imul_eq (by omega)]
    rw [iadd_eq (by omega)]
    rw [iadd_eq (by omega)]
    rw [drw (by kernel_rfl)]; conv => lhs; whnf
    (congr 3; simp only [ieq_eq, ine_eq, ilt_eq, ile_eq, bnot_eq, and_eq, llen_eq]; first | rfl | (rw [decide_eq_decide]; omega) | (simp; omega))
theorem ev_OnetimeCross_loop (x y : List Int) (hx : x.length = 35) (hy : y.length = 35) : ∀ (k j : Nat) (ab bl : Bool), j + k = 35 → Y E0 (.loop 15 0 0 0 [(5, .sl .i64 x), (6, .sl .i64 y), (7, .b ab), (8, .b bl), (9, .i j)] []) = some (.fin (.exit 0) 0 [(5, .sl .i64 x), (6, .sl .i64 y), (7, .b (ab || anyGt (x.drop j) (y.drop j))), (8, .b (bl || anyGt (y.drop j) (x.drop j)))] [])
  | 0, j, ab, bl, hj => by
    rw [show x.drop j = [] from List.drop_eq_nil_of_le (by omega), show y.drop j = [] from List.drop_eq_nil_of_le (by omega), show anyGt [] [] = false from rfl, Bool.or_false, Bool.or_false]
    rw [Y_go]; conv => lhs; whnf
    rw [ilt_f (by omega)]
    conv => lhs; whnf
  | k + 1, j, ab, bl, hj => by
    have ih := fun ab bl => ev_OnetimeCross_loop x y hx hy k (j + 1) ab bl (by omega)
    rw [show x.drop j = x[j]'(by omega) :: x.drop (j + 1) from List.drop_eq_getElem_cons (by omega), show y.drop j = y[j]'(by omega) :: y.drop (j + 1) from List.drop_eq_getElem_cons (by omega), anyGt, anyGt, ← Bool.or_assoc, ← Bool.or_assoc]
    refine Eq.trans ?_ (ih (ab || decide (y[j]'(by omega) < x[j]'(by omega))) (bl || decide (x[j]'(by omega) < y[j]'(by omega))))
    rw [show ((j + 1 : Nat) : Int) = (j : Int) + 1 from by omega]
    cases ab <;> cases bl
    · simp only [Bool.false_or]
      rw [Y_go]; conv => lhs; whnf
      rw [ilt_t (by omega)]
      conv => lhs; whnf
      rw [lget_n (by omega)]
      conv => lhs; whnf
      rw [lget_n (by omega)]
      conv => lhs; whnf
      rw [drw (by kernel_rfl)]; conv => lhs; whnf
      rw [lget_n (by omega)]
      conv => lhs; whnf
      rw [lget_n (by omega)]
      conv => lhs; whnf
      rw [Y_go]; conv => lhs; whnf
      rw [drw (by kernel_rfl)]; conv => lhs; whnf
      rw [iadd_eq (by omega)]
      rw [ilt_eq, ilt_eq]
    · simp only [Bool.false_or, Bool.true_or]
      rw [Y_go]; conv => lhs; whnf
      rw [ilt_t (by omega)]
      conv => lhs; whnf
      rw [lget_n (by omega)]
      conv => lhs; whnf
      rw [lget_n (by omega)]
      conv => lhs; whnf
      rw [drw (by kernel_rfl)]; conv => lhs; whnf
      rw [drw (by kernel_rfl)]; conv => lhs; whnf
      rw [iadd_eq (by omega)]
      rw [ilt_eq]
    · simp only [Bool.false_or, Bool.true_or]
      rw [Y_go]; conv => lhs; whnf
      rw [ilt_t (by omega)]
      conv => lhs; whnf
      rw [drw (by kernel_rfl)]; conv => lhs; whnf
      rw [lget_n (by omega)]
      conv => lhs; whnf
      rw [lget_n (by omega)]
      conv => lhs; whnf
      rw [drw (by kernel_rfl)]; conv => lhs; whnf
      rw [iadd_eq (by omega)]
      rw [ilt_eq]
    · simp only [Bool.true_or]
      rw [Y_go]; conv => lhs; whnf
      rw [ilt_t (by omega)]
      conv => lhs; whnf
      rw [drw (by kernel_rfl)]; conv => lhs; whnf
      rw [drw (by kernel_rfl)]; conv => lhs; whnf
      rw [iadd_eq (by omega)]
theorem ev_OnetimeCross (a b : List UInt8) : Y E0 (.call 15 [.sl .u8 a, .sl .u8 b] []) = some (.ret (.b true) []) := by
  have h0 := ev_OnetimeCross_loop (digB a) (digB b) (digB_len a) (digB_len b) 35 0 false false (by omega)
  rw [show ((0 : Nat) : Int) = 0 from rfl, List.drop_zero, List.drop_zero, Bool.false_or, Bool.false_or] at h0
  have hl1 := digB_len a
  have hl2 := digB_len b
  obtain ⟨c1, c2⟩ := cross a b
  generalize anyGt (digB a) (digB b) = A at *
  generalize anyGt (digB b) (digB a) = B at *
  rw [Y_go]; conv => lhs; whnf
  rw [toReq_call]
  rw [ev_awake5]
  conv => lhs; whnf
  rw [bnot_eq]; conv => lhs; whnf
  rw [toReq_call]
  rw [ev_short _ _]
  conv => lhs; whnf
  rw [bnot_eq]; conv => lhs; whnf
  rcases Bool.eq_false_or_eq_true (decide (a.length ≤ 100 ∧ b.length ≤ 100)) with hc0 | hc0
  · rw [hc0]; replace hc0 := of_decide_eq_true hc0; try simp only at hc0
    conv => lhs; whnf
    rw [toReq_call]
    rw [ev_digits _ (by omega)]
    conv => lhs; whnf
    rw [toReq_call]
    rw [ev_digits _ (by omega)]
    conv => lhs; whnf
    rw [ine_f (by (simp only [sha256_len, msgH_len, digs_len, stepB_len, LL] at * <;> omega))]
    conv => lhs; whnf
    rw [ine_f (by (simp only [sha256_len, msgH_len, digs_len, stepB_len, LL] at * <;> omega))]
    conv => lhs; whnf
    rw [toReq_loop]
    rw [h0]
    conv => lhs; whnf
    rcases Bool.eq_false_or_eq_true (beq' A B) with hc1 | hc1
    · rw [hc1]; replace hc1 := of_beq_t hc1; try simp only [llen_eq] at hc1
      conv => lhs; whnf
      rw [toReq_call]
      rw [ev_ints _ _ (by omega)]
      conv => lhs; whnf
      rw [bnot_eq, beq_eq]; exact congrArg (fun b => some (Rsp.ret (AV.b b) [])) c2
    · rw [hc1]; replace hc1 := of_beq_f hc1; try simp only [llen_eq] at hc1
      conv => lhs; whnf
      exact absurd (by simpa using c1) hc1
  · rw [hc0]; replace hc0 := of_decide_eq_false hc0; try simp only at hc0
    conv => lhs; whnf
end Go.Proofs.YtlaglaehkhmklaaDoor
