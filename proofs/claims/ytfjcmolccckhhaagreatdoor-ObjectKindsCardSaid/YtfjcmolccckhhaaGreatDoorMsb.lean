/-
  Own texts, laid together for this claim: contracts of functions of the program and its references, used by the statements of this seat.
-/
import Derived.Test.YtfjcmolccckhhaaGreatDoorMsa
set_option linter.all false

namespace Go.Ax
open Go.Eng
def padk (key : List UInt8) : List UInt8 := key.take 64 ++ (List.replicate 64 0).drop key.length
def xorL (x : UInt8) (l : List UInt8) : List UInt8 := l.map (· ^^^ x)
def keyB (key : List UInt8) : List UInt8 := if 64 < key.length then sha256 key else key
def macB (key b : List UInt8) : List UInt8 := sha256 (xorL (UInt8.ofNat 92) (padk (keyB key)) ++ sha256 (xorL (UInt8.ofNat 54) (padk (keyB key)) ++ b))
def fourB (n : Int) : List UInt8 := [UInt8.ofInt (n / 2 ^ 24), UInt8.ofInt (n / 2 ^ 16), UInt8.ofInt (n / 2 ^ 8), UInt8.ofInt n]
def derBlk (key label ctx : List UInt8) (n : Int) (j : Nat) : List UInt8 := (List.range j).flatMap fun (i : Nat) => macB key (fourB ((i : Int) + 1) ++ (label ++ (0 :: (ctx ++ fourB (8 * n)))))
def derB (key label ctx : List UInt8) (n : Int) : List UInt8 := if n < 1 ∨ 1024 < n then [] else (derBlk key label ctx n ((n + 31) / 32).toNat).take n.toNat
theorem padk_len (key : List UInt8) : (padk key).length = 64 := by simp [padk]; omega
theorem xorL_len (x : UInt8) (l : List UInt8) : (xorL x l).length = l.length := by simp [xorL]
theorem macB_len (key b : List UInt8) : (macB key b).length = 32 := sha256_len _
theorem fourB_len (n : Int) : (fourB n).length = 4 := rfl
theorem derBlk_len (key label ctx : List UInt8) (n : Int) (j : Nat) : (derBlk key label ctx n j).length = 32 * j := by
  unfold derBlk
  induction j with
  | zero => rfl
  | succ j ih => rw [List.range_succ, List.flatMap_append, List.length_append, ih]; simp [macB_len]; omega
theorem derBlk_succ (key label ctx : List UInt8) (n : Int) (j : Nat) : derBlk key label ctx n (j + 1) = derBlk key label ctx n j ++ macB key (fourB ((j : Int) + 1) ++ (label ++ (0 :: (ctx ++ fourB (8 * n))))) := by
  unfold derBlk
  rw [List.range_succ, List.flatMap_append]; simp
theorem derB_len {key label ctx : List UInt8} {n : Int} (h : 1 ≤ n ∧ n ≤ 1024) : (derB key label ctx n).length = n.toNat := by
  unfold derB
  rw [if_neg (by omega), List.length_take, derBlk_len]; omega
theorem xor_set (x : UInt8) (l : List UInt8) (i : Nat) (hi : i < l.length) : (xorL x (l.take i) ++ l.drop i).set i (l[i] ^^^ x) = xorL x (l.take (i + 1)) ++ l.drop (i + 1) := by
  have h1 : (xorL x (l.take i)).length = i := by rw [xorL_len, List.length_take]; omega
  rw [List.set_append, if_neg (by omega), h1, Nat.sub_self, List.drop_eq_getElem_cons hi, List.set_cons_zero, List.take_succ_eq_append_getElem hi]
  simp only [xorL, List.map_append, List.map_cons, List.map_nil, List.append_assoc, List.cons_append, List.nil_append]
theorem padk_get (key : List UInt8) (i : Nat) (hi : i < 64) : (padk key)[i]'(by rw [padk_len]; exact hi) = if h : i < key.length then key[i] else 0 := by
  unfold padk
  by_cases h : i < key.length
  · rw [List.getElem_append_left (by simp; omega), dif_pos h]; simp
  · rw [List.getElem_append_right (by simp; omega), dif_neg h, List.getElem_drop, List.getElem_replicate]
theorem set_snoc (x : UInt8) (l : List UInt8) (i : Nat) (hi : i < l.length) (hl : l.length = 64) : (xorL x (l.take i) ++ List.replicate (64 - i) 0).set i (l[i] ^^^ x) = xorL x (l.take (i + 1)) ++ List.replicate (64 - (i + 1)) 0 := by
  have h1 : (xorL x (l.take i)).length = i := by rw [xorL_len, List.length_take]; omega
  rw [List.set_append, if_neg (by omega), h1, Nat.sub_self, show 64 - i = (64 - (i + 1)) + 1 from by omega, List.replicate_succ, List.set_cons_zero, List.take_succ_eq_append_getElem hi]
  simp only [xorL, List.map_append, List.map_cons, List.map_nil, List.append_assoc, List.cons_append, List.nil_append]
end Go.Ax
namespace Go.Proofs.YtfjcmolccckhhaaGreatDoor
open Go Go.Ax Go.Eng
set_option linter.unusedVariables false
set_option linter.unusedSimpArgs false
attribute [local irreducible] iadd isub imul iquo irem ibit ineg ieq ine ilt ile ishl ishr beq' bnot and' seq' u8op u8rem u32op u64op u8shr u8shl u64shr u64shl u32shr u32shl i64w u8i u64i iu8 iu32 iu64 u8u64 u64u8 u32u8 u64cmp u8cmp u32cmp llen lget linb lset lcut lrep lapp lcpy lemp fits fitn ieqs sealed drawChk fpSame
set_option maxHeartbeats 1000000
set_option maxRecDepth 100000
theorem ev_mask_loop (b : UInt8) (key l : List UInt8) (hl : l.length = 64) : ∀ (k i : Nat), i + k = 64 → Y E0 (.loop 178 0 1 2 [(0, .u8 b), (4, .nm 1), (10, .i i)] [(0, some (.var [.sl .u8 key])), (1, some (.row 5 .u8 (xorL b (l.take i) ++ l.drop i)))]) = some (.fin (.exit 0) 2 [(4, .nm 1)] [(0, some (.var [.sl .u8 key])), (1, some (.row 5 .u8 (xorL b l)))])
  | 0, i, hi => by
    rw [List.take_of_length_le (by omega), List.drop_eq_nil_of_le (by omega), List.append_nil]
    rw [Y_go]; conv => lhs; whnf
    rw [ilt_f (by omega)]
    conv => lhs; whnf
  | k + 1, i, hi => by
    have ih := ev_mask_loop b key l hl k (i + 1) (by omega)
    have hs := xor_set b l i (by omega)
    have hl2 : (xorL b (l.take i) ++ l.drop i).length = 64 := by simp [xorL_len]; omega
    have hg : lget (xorL b (l.take i) ++ l.drop i) (i : Int) = some (l[i]'(by omega)) := by
      rw [lget_nat, List.getElem?_append_right (by simp [xorL_len]; omega)]; simp [xorL_len, show min i l.length = i from by omega]
    rw [Y_go]; conv => lhs; whnf
    rw [ilt_t (by omega)]
    conv => lhs; whnf
    rw [linb_t (by omega)]
    conv => lhs; whnf
    rw [hg]; conv => lhs; whnf
    rw [linb_t (by omega)]
    conv => lhs; whnf
    rw [hg]; conv => lhs; whnf
    rw [iadd_eq (by omega)]
    refine (congrArg (Y E0) ?_).trans ih; (try simp only [Rq.loop.injEq, Rq.call.injEq, Rq.ops.injEq, List.cons.injEq, Prod.mk.injEq, AV.i.injEq, AV.sl.injEq, AV.st.injEq, AV.b.injEq, AV.u8.injEq, AV.nm.injEq, Option.some.injEq, Rs.row.injEq, Rs.var.injEq, heq_eq_eq, true_and, and_true]); (try (repeat' apply And.intro)); all_goals first | (with_reducible rfl) | omega | (rw [iadd_eq (by omega)]; omega) | (rw [isub_eq (by omega)]; omega) | (rw [lset_eq, u8xor_eq]; exact hs)
theorem ev_mask (b : UInt8) (key : List UInt8) : Y E0 (.call 178 [.u8 b, .pa 0 0] [.var [.sl .u8 key]]) = some (.ret (.nm 1) [some (.var [.sl .u8 key]), some (.row 5 .u8 (xorL b (padk key)))]) := by
  have h0 := ev_mask_loop b key (padk key) (padk_len key) 64 0 (by omega)
  have hp : lcpy (lrep 64 0) key = padk key := by rw [lcpy_eq, lrep_eq]; simp [padk]
  rw [List.take_zero, List.drop_zero, show xorL b [] ++ padk key = padk key from rfl, show ((0 : Nat) : Int) = 0 from rfl] at h0
  rw [Y_go]; conv => lhs; whnf
  rw [fitn_t (by omega)]
  conv => lhs; whnf
  rw [ieq_t (by omega)]
  conv => lhs; whnf
  rw [toReq_loop]
  rw [hp, h0]
  conv => lhs; whnf
theorem ev_mac (key b : List UInt8) (hk : key.length ≤ 4294967296) (hb : b.length ≤ 4294900000) : Y E0 (.call 116 [.sl .u8 key, .sl .u8 b] []) = some (.ret (.sl .u8 (macB key b)) []) := by
  by_cases hc : 64 < key.length
  · have hkb : keyB key = sha256 key := if_pos hc
    unfold macB
    rw [hkb]
    rw [Y_go]; conv => lhs; whnf
    rw [ilt_t (by (simp only [sha256_len, padk_len, xorL_len, macB_len, fourB_len, derBlk_len, LL] at * <;> omega))]
    conv => lhs; whnf
    rw [toReq_call]
    rw [ev_dig_sum1 _ (by omega)]
    conv => lhs; whnf
    rw [Y_go]; conv => lhs; whnf
    rw [toReq_call]
    rw [ev_mask _ _]
    conv => lhs; whnf
    rw [fits_t (by (simp only [sha256_len, padk_len, xorL_len, macB_len, fourB_len, derBlk_len, LL] at * <;> omega))]
    conv => lhs; whnf
    rw [toReq_call]
    rw [ev_dig_sum1 _ (by (simp only [sha256_len, padk_len, xorL_len, macB_len, fourB_len, derBlk_len, LL] at * <;> omega))]
    conv => lhs; whnf
    rw [toReq_call]
    rw [ev_mask _ _]
    conv => lhs; whnf
    rw [fits_t (by (simp only [sha256_len, padk_len, xorL_len, macB_len, fourB_len, derBlk_len, LL] at * <;> omega))]
    conv => lhs; whnf
    rw [toReq_call]
    rw [ev_dig_sum1 _ (by (simp only [sha256_len, padk_len, xorL_len, macB_len, fourB_len, derBlk_len, LL] at * <;> omega))]
    conv => lhs; whnf
    simp only [NO]; try with_reducible rfl
  · have hkb : keyB key = key := if_neg hc
    unfold macB
    rw [hkb]
    rw [Y_go]; conv => lhs; whnf
    rw [ilt_f (by (simp only [sha256_len, padk_len, xorL_len, macB_len, fourB_len, derBlk_len, LL] at * <;> omega))]
    conv => lhs; whnf
    rw [Y_go]; conv => lhs; whnf
    rw [toReq_call]
    rw [ev_mask _ _]
    conv => lhs; whnf
    rw [fits_t (by (simp only [sha256_len, padk_len, xorL_len, macB_len, fourB_len, derBlk_len, LL] at * <;> omega))]
    conv => lhs; whnf
    rw [toReq_call]
    rw [ev_dig_sum1 _ (by (simp only [sha256_len, padk_len, xorL_len, macB_len, fourB_len, derBlk_len, LL] at * <;> omega))]
    conv => lhs; whnf
    rw [toReq_call]
    rw [ev_mask _ _]
    conv => lhs; whnf
    rw [fits_t (by (simp only [sha256_len, padk_len, xorL_len, macB_len, fourB_len, derBlk_len, LL] at * <;> omega))]
    conv => lhs; whnf
    rw [toReq_call]
    rw [ev_dig_sum1 _ (by (simp only [sha256_len, padk_len, xorL_len, macB_len, fourB_len, derBlk_len, LL] at * <;> omega))]
    conv => lhs; whnf
    simp only [NO]; try with_reducible rfl
theorem ev_four (n : Int) : Y E0 (.call 115 [.i n] []) = some (.ret (.nm 0) [some (.row 5 .u8 (fourB n))]) := by
  rw [Y_go]; conv => lhs; whnf
  rw [ishr_eq (by decide), ishr_eq (by decide), ishr_eq (by decide)]; simp only [iu8_eq]; rfl
theorem ev_rfour (n : Int) : Y E0 (.call 124 [.i n] []) = some (.ret (.nm 0) [some (.row 5 .u8 (fourB n))]) := by
  rw [Y_go]; conv => lhs; whnf
  rw [ishr_eq (by decide), ishr_eq (by decide), ishr_eq (by decide)]; simp only [iu8_eq]; rfl
theorem ev_rmac_loop (key b : List UInt8) (hk : key.length ≤ 64) : ∀ (k i : Nat), i + k = 64 → Y E0 (.loop 125 0 0 2 [(0, .sl .u8 key), (1, .sl .u8 b), (5, .nm 0), (6, .nm 1), (7, .i i)] [(0, some (.row 5 .u8 (xorL (UInt8.ofNat 54) ((padk key).take i) ++ List.replicate (64 - i) 0))), (1, some (.row 5 .u8 (xorL (UInt8.ofNat 92) ((padk key).take i) ++ List.replicate (64 - i) 0)))]) = some (.fin (.exit 0) 2 [(1, .sl .u8 b), (5, .nm 0), (6, .nm 1)] [(0, some (.row 5 .u8 (xorL (UInt8.ofNat 54) (padk key)))), (1, some (.row 5 .u8 (xorL (UInt8.ofNat 92) (padk key))))])
  | 0, i, hi => by
    rw [List.take_of_length_le (by rw [padk_len]; omega), show 64 - i = 0 from by omega, List.replicate_zero, List.append_nil, List.append_nil]
    rw [Y_go]; conv => lhs; whnf
    rw [ilt_f (by omega)]
    conv => lhs; whnf
  | k + 1, i, hi => by
    have ih := ev_rmac_loop key b hk k (i + 1) (by omega)
    have hs1 := set_snoc (UInt8.ofNat 54) (padk key) i (by rw [padk_len]; omega) (padk_len key)
    have hs2 := set_snoc (UInt8.ofNat 92) (padk key) i (by rw [padk_len]; omega) (padk_len key)
    have hgt := padk_get key i (by omega)
    have hl1 : (xorL (UInt8.ofNat 54) ((padk key).take i) ++ List.replicate (64 - i) (0 : UInt8)).length = 64 := by simp [xorL_len, padk_len]; omega
    have hl2 : (xorL (UInt8.ofNat 92) ((padk key).take i) ++ List.replicate (64 - i) (0 : UInt8)).length = 64 := by simp [xorL_len, padk_len]; omega
    by_cases hc : i < key.length
    · rw [dif_pos hc] at hgt
      rw [hgt] at hs1 hs2
      rw [Y_go]; conv => lhs; whnf
      rw [ilt_t (by omega)]
      conv => lhs; whnf
      rw [ilt_t (by (simp only [sha256_len, padk_len, xorL_len, macB_len, fourB_len, derBlk_len, LL] at * <;> omega))]
      conv => lhs; whnf
      rw [lget_n (by omega)]
      conv => lhs; whnf
      rw [Y_go]; conv => lhs; whnf
      rw [linb_t (by omega)]
      conv => lhs; whnf
      rw [lget_n (by omega)]
      conv => lhs; whnf
      rw [linb_t (by omega)]
      conv => lhs; whnf
      rw [lget_n (by omega)]
      conv => lhs; whnf
      rw [iadd_eq (by omega)]
      refine (congrArg (Y E0) ?_).trans ih; (try simp only [Rq.loop.injEq, Rq.call.injEq, Rq.ops.injEq, List.cons.injEq, Prod.mk.injEq, AV.i.injEq, AV.sl.injEq, AV.st.injEq, AV.b.injEq, AV.u8.injEq, AV.nm.injEq, Option.some.injEq, Rs.row.injEq, Rs.var.injEq, heq_eq_eq, true_and, and_true]); (try (repeat' apply And.intro)); all_goals first | (with_reducible rfl) | omega | (rw [iadd_eq (by omega)]; omega) | (rw [isub_eq (by omega)]; omega) | (rw [lset_eq, u8xor_eq]; exact hs1) | (rw [lset_eq, u8xor_eq]; exact hs2)
    · rw [dif_neg hc] at hgt
      rw [hgt] at hs1 hs2
      rw [Y_go]; conv => lhs; whnf
      rw [ilt_t (by omega)]
      conv => lhs; whnf
      rw [ilt_f (by (simp only [sha256_len, padk_len, xorL_len, macB_len, fourB_len, derBlk_len, LL] at * <;> omega))]
      conv => lhs; whnf
      rw [Y_go]; conv => lhs; whnf
      rw [linb_t (by omega)]
      conv => lhs; whnf
      rw [lget_n (by omega)]
      conv => lhs; whnf
      rw [linb_t (by omega)]
      conv => lhs; whnf
      rw [lget_n (by omega)]
      conv => lhs; whnf
      rw [iadd_eq (by omega)]
      refine (congrArg (Y E0) ?_).trans ih; (try simp only [Rq.loop.injEq, Rq.call.injEq, Rq.ops.injEq, List.cons.injEq, Prod.mk.injEq, AV.i.injEq, AV.sl.injEq, AV.st.injEq, AV.b.injEq, AV.u8.injEq, AV.nm.injEq, Option.some.injEq, Rs.row.injEq, Rs.var.injEq, heq_eq_eq, true_and, and_true]); (try (repeat' apply And.intro)); all_goals first | (with_reducible rfl) | omega | (rw [iadd_eq (by omega)]; omega) | (rw [isub_eq (by omega)]; omega) | (rw [lset_eq, u8xor_eq]; exact hs1) | (rw [lset_eq, u8xor_eq]; exact hs2)
theorem ev_rmac (key b : List UInt8) (hk : key.length ≤ 4294967296) (hb : b.length ≤ 4294900000) : Y E0 (.call 125 [.sl .u8 key, .sl .u8 b] []) = some (.ret (.sl .u8 (macB key b)) []) := by
  have hr : lrep 64 (0 : UInt8) = List.replicate 64 0 := by rw [lrep_eq]; rfl
  by_cases hc : 64 < key.length
  · have hkb : keyB key = sha256 key := if_pos hc
    have h0 := ev_rmac_loop (sha256 key) b (by rw [sha256_len]; omega) 64 0 (by omega)
    rw [List.take_zero, show ((0 : Nat) : Int) = 0 from rfl, show xorL (UInt8.ofNat 54) [] ++ List.replicate (64 - 0) (0 : UInt8) = List.replicate 64 0 from rfl, show xorL (UInt8.ofNat 92) [] ++ List.replicate (64 - 0) (0 : UInt8) = List.replicate 64 0 from rfl] at h0
    unfold macB
    rw [hkb]
    rw [Y_go]; conv => lhs; whnf
    rw [ilt_t (by (simp only [sha256_len, padk_len, xorL_len, macB_len, fourB_len, derBlk_len, LL] at * <;> omega))]
    conv => lhs; whnf
    rw [toReq_call]
    rw [ev_sum256 _ (by omega)]
    conv => lhs; whnf
    rw [Y_go]; conv => lhs; whnf
    rw [fitn_t (by omega)]
    conv => lhs; whnf
    rw [ieq_t (by omega)]
    conv => lhs; whnf
    rw [fitn_t (by omega)]
    conv => lhs; whnf
    rw [ieq_t (by omega)]
    conv => lhs; whnf
    rw [drw (by kernel_rfl)]; conv => lhs; whnf
    rw [toReq_loop]
    rw [hr, h0]
    conv => lhs; whnf
    rw [fits_t (by (simp only [sha256_len, padk_len, xorL_len, macB_len, fourB_len, derBlk_len, LL] at * <;> omega))]
    conv => lhs; whnf
    rw [toReq_call]
    rw [ev_sum256 _ (by (simp only [sha256_len, padk_len, xorL_len, macB_len, fourB_len, derBlk_len, LL] at * <;> omega))]
    conv => lhs; whnf
    rw [fits_t (by (simp only [sha256_len, padk_len, xorL_len, macB_len, fourB_len, derBlk_len, LL] at * <;> omega))]
    conv => lhs; whnf
    rw [toReq_call]
    rw [ev_sum256 _ (by (simp only [sha256_len, padk_len, xorL_len, macB_len, fourB_len, derBlk_len, LL] at * <;> omega))]
    conv => lhs; whnf
    simp only [NO]; try with_reducible rfl
  · have hkb : keyB key = key := if_neg hc
    have h0 := ev_rmac_loop key b (by omega) 64 0 (by omega)
    rw [List.take_zero, show ((0 : Nat) : Int) = 0 from rfl, show xorL (UInt8.ofNat 54) [] ++ List.replicate (64 - 0) (0 : UInt8) = List.replicate 64 0 from rfl, show xorL (UInt8.ofNat 92) [] ++ List.replicate (64 - 0) (0 : UInt8) = List.replicate 64 0 from rfl] at h0
    unfold macB
    rw [hkb]
    rw [Y_go]; conv => lhs; whnf
    rw [ilt_f (by (simp only [sha256_len, padk_len, xorL_len, macB_len, fourB_len, derBlk_len, LL] at * <;> omega))]
    conv => lhs; whnf
    rw [Y_go]; conv => lhs; whnf
    rw [fitn_t (by omega)]
    conv => lhs; whnf
    rw [ieq_t (by omega)]
    conv => lhs; whnf
    rw [fitn_t (by omega)]
    conv => lhs; whnf
    rw [ieq_t (by omega)]
    conv => lhs; whnf
    rw [drw (by kernel_rfl)]; conv => lhs; whnf
    rw [toReq_loop]
    rw [hr, h0]
    conv => lhs; whnf
    rw [fits_t (by (simp only [sha256_len, padk_len, xorL_len, macB_len, fourB_len, derBlk_len, LL] at * <;> omega))]
    conv => lhs; whnf
    rw [toReq_call]
    rw [ev_sum256 _ (by (simp only [sha256_len, padk_len, xorL_len, macB_len, fourB_len, derBlk_len, LL] at * <;> omega))]
    conv => lhs; whnf
    rw [fits_t (by (simp only [sha256_len, padk_len, xorL_len, macB_len, fourB_len, derBlk_len, LL] at * <;> omega))]
    conv => lhs; whnf
    rw [toReq_call]
    rw [ev_sum256 _ (by (simp only [sha256_len, padk_len, xorL_len, macB_len, fourB_len, derBlk_len, LL] at * <;> omega))]
    conv => lhs; whnf
    simp only [NO]; try with_reducible rfl
theorem ev_derive_loop (key label ctx : List UInt8) (n : Int) (hk : key.length ≤ 4294967296) (hl : label.length ≤ 1000) (hc : ctx.length ≤ 1000000) (hn : 1 ≤ n ∧ n ≤ 1024) : ∀ (k j : Nat), j + k = ((n + 31) / 32).toNat →
    Y E0 (.loop 45 0 0 1 [(0, .sl .u8 key), (3, .i n), (9, .sl .u8 (label ++ (0 :: (ctx ++ fourB (8 * n))))), (10, .nm 0), (11, .i (j + 1))] [(0, some (.row 5 .u8 (derBlk key label ctx n j)))]) = some (.fin (.exit 0) 0 [(3, .i n), (10, .sl .u8 (derBlk key label ctx n ((n + 31) / 32).toNat))] [])
  | 0, j, hj => by
    rw [show ((n + 31) / 32).toNat = j from by omega]
    rw [Y_go]; conv => lhs; whnf
    rw [ilt_f (by (simp only [sha256_len, padk_len, xorL_len, macB_len, fourB_len, derBlk_len, LL] at * <;> omega))]
    conv => lhs; whnf
  | k + 1, j, hj => by
    have ih := ev_derive_loop key label ctx n hk hl hc hn k (j + 1) (by omega)
    rw [derBlk_succ, show ((j + 1 : Nat) : Int) + 1 = (j : Int) + 1 + 1 from by omega] at ih
    rw [Y_go]; conv => lhs; whnf
    rw [ilt_t (by (simp only [sha256_len, padk_len, xorL_len, macB_len, fourB_len, derBlk_len, LL] at * <;> omega))]
    conv => lhs; whnf
    rw [toReq_call]
    rw [ev_four _]
    conv => lhs; whnf
    rw [fits_t (by (simp only [sha256_len, padk_len, xorL_len, macB_len, fourB_len, derBlk_len, LL] at * <;> omega))]
    conv => lhs; whnf
    rw [toReq_call]
    rw [ev_mac _ _ (by omega) (by (simp only [sha256_len, padk_len, xorL_len, macB_len, fourB_len, derBlk_len, LL] at * <;> omega))]
    conv => lhs; whnf
    rw [fits_t (by (simp only [sha256_len, padk_len, xorL_len, macB_len, fourB_len, derBlk_len, LL] at * <;> omega))]
    conv => lhs; whnf
    rw [iadd_eq (by omega)]
    refine (congrArg (Y E0) ?_).trans ih; (try simp only [Rq.loop.injEq, Rq.call.injEq, Rq.ops.injEq, List.cons.injEq, Prod.mk.injEq, AV.i.injEq, AV.sl.injEq, AV.st.injEq, AV.b.injEq, AV.u8.injEq, AV.nm.injEq, Option.some.injEq, Rs.row.injEq, Rs.var.injEq, heq_eq_eq, true_and, and_true]); (try (repeat' apply And.intro)); all_goals first | (with_reducible rfl) | omega | (rw [iadd_eq (by omega)]; omega) | (rw [isub_eq (by omega)]; omega) | (simp only [lapp_eq])
theorem ev_derive (key : List UInt8) (label ctx : List UInt8) (n : Int) (hk : key.length ≤ 4294967296) (hl : label.length ≤ 1000) (hc : ctx.length ≤ 1000000) : Y E0 (.call 45 [.sl .u8 key, .str label, .sl .u8 ctx, .i n] []) = some (.ret (.sl .u8 (derB key label ctx n)) []) := by
  have he : lapp (lapp (lapp label [UInt8.ofNat 0]) ctx) (fourB (8 * n)) = label ++ (0 :: (ctx ++ fourB (8 * n))) := by simp only [lapp_eq, List.append_assoc, List.cons_append, List.nil_append]; rfl
  rw [Y_go]; conv => lhs; whnf
  rcases Bool.eq_false_or_eq_true (ilt n 1) with hc0 | hc0
  · rw [hc0]; replace hc0 := of_ilt_t hc0; try simp only [llen_eq] at hc0
    conv => lhs; whnf
    unfold derB; (repeat (first | rw [if_pos (by first | omega | decide | assumption | (simp only [sha256_len, padk_len, xorL_len, macB_len, fourB_len, derBlk_len, LL] at * <;> omega) | (simp; omega))] | rw [if_neg (by first | omega | decide | assumption | (simp only [sha256_len, padk_len, xorL_len, macB_len, fourB_len, derBlk_len, LL] at * <;> omega) | (simp; omega))])); try rfl
  · rw [hc0]; replace hc0 := of_ilt_f hc0; try simp only [llen_eq] at hc0
    conv => lhs; whnf
    rcases Bool.eq_false_or_eq_true (ilt 1024 n) with hc1 | hc1
    · rw [hc1]; replace hc1 := of_ilt_t hc1; try simp only [llen_eq] at hc1
      conv => lhs; whnf
      unfold derB; (repeat (first | rw [if_pos (by first | omega | decide | assumption | (simp only [sha256_len, padk_len, xorL_len, macB_len, fourB_len, derBlk_len, LL] at * <;> omega) | (simp; omega))] | rw [if_neg (by first | omega | decide | assumption | (simp only [sha256_len, padk_len, xorL_len, macB_len, fourB_len, derBlk_len, LL] at * <;> omega) | (simp; omega))])); try rfl
    · rw [hc1]; replace hc1 := of_ilt_f hc1; try simp only [llen_eq] at hc1
      conv => lhs; whnf
      rw [fits_t (by omega)]
      conv => lhs; whnf
      rw [fits_t (by (simp only [sha256_len, padk_len, xorL_len, macB_len, fourB_len, derBlk_len, LL] at * <;> omega))]
      conv => lhs; whnf
      rw [fits_t (by (simp only [sha256_len, padk_len, xorL_len, macB_len, fourB_len, derBlk_len, LL] at * <;> omega))]
      conv => lhs; whnf
      rw [imul_eq (by omega)]
      rw [toReq_call]
      rw [ev_four _]
      conv => lhs; whnf
      rw [fits_t (by (simp only [sha256_len, padk_len, xorL_len, macB_len, fourB_len, derBlk_len, LL] at * <;> omega))]
      conv => lhs; whnf
      rw [toReq_loop]
      have h0 := ev_derive_loop key label ctx n hk hl hc (by omega) _ 0 (Nat.zero_add _); rw [show ((0 : Nat) : Int) + 1 = 1 from rfl, show derBlk key label ctx n 0 = [] from rfl] at h0; rw [he, h0]
      conv => lhs; whnf
      rw [ieq_t (by omega)]
      conv => lhs; whnf
      rw [lcut_0 (by (simp only [sha256_len, padk_len, xorL_len, macB_len, fourB_len, derBlk_len, LL] at * <;> omega))]
      conv => lhs; whnf
      unfold derB; (repeat (first | rw [if_pos (by first | omega | decide | assumption | (simp only [sha256_len, padk_len, xorL_len, macB_len, fourB_len, derBlk_len, LL] at * <;> omega) | (simp; omega))] | rw [if_neg (by first | omega | decide | assumption | (simp only [sha256_len, padk_len, xorL_len, macB_len, fourB_len, derBlk_len, LL] at * <;> omega) | (simp; omega))])); try rfl
theorem ev_rderive_loop (key label ctx : List UInt8) (n : Int) (hk : key.length ≤ 4294967296) (hl : label.length ≤ 1000) (hc : ctx.length ≤ 1000000) (hn : 1 ≤ n ∧ n ≤ 1024) : ∀ (k j : Nat), j + k = ((n + 31) / 32).toNat →
    Y E0 (.loop 53 0 0 1 [(0, .sl .u8 key), (1, .str label), (2, .sl .u8 ctx), (3, .i n), (9, .nm 0), (10, .i (j + 1))] [(0, some (.row 5 .u8 (derBlk key label ctx n j)))]) = some (.fin (.exit 0) 0 [(3, .i n), (9, .sl .u8 (derBlk key label ctx n ((n + 31) / 32).toNat))] [])
  | 0, j, hj => by
    rw [show ((n + 31) / 32).toNat = j from by omega]
    rw [Y_go]; conv => lhs; whnf
    rw [ilt_f (by (simp only [sha256_len, padk_len, xorL_len, macB_len, fourB_len, derBlk_len, LL] at * <;> omega))]
    conv => lhs; whnf
  | k + 1, j, hj => by
    have ih := ev_rderive_loop key label ctx n hk hl hc hn k (j + 1) (by omega)
    rw [derBlk_succ, show ((j + 1 : Nat) : Int) + 1 = (j : Int) + 1 + 1 from by omega] at ih
    rw [Y_go]; conv => lhs; whnf
    rw [ilt_t (by (simp only [sha256_len, padk_len, xorL_len, macB_len, fourB_len, derBlk_len, LL] at * <;> omega))]
    conv => lhs; whnf
    rw [toReq_call]
    rw [ev_rfour _]
    conv => lhs; whnf
    rw [fits_t (by (simp only [sha256_len, padk_len, xorL_len, macB_len, fourB_len, derBlk_len, LL] at * <;> omega))]
    conv => lhs; whnf
    rw [fits_t (by (simp only [sha256_len, padk_len, xorL_len, macB_len, fourB_len, derBlk_len, LL] at * <;> omega))]
    conv => lhs; whnf
    rw [fits_t (by (simp only [sha256_len, padk_len, xorL_len, macB_len, fourB_len, derBlk_len, LL] at * <;> omega))]
    conv => lhs; whnf
    rw [imul_eq (by omega)]
    rw [toReq_call]
    rw [ev_rfour _]
    conv => lhs; whnf
    rw [fits_t (by (simp only [sha256_len, padk_len, xorL_len, macB_len, fourB_len, derBlk_len, LL] at * <;> omega))]
    conv => lhs; whnf
    rw [toReq_call]
    rw [ev_rmac _ _ (by omega) (by (simp only [sha256_len, padk_len, xorL_len, macB_len, fourB_len, derBlk_len, LL] at * <;> omega))]
    conv => lhs; whnf
    rw [fits_t (by (simp only [sha256_len, padk_len, xorL_len, macB_len, fourB_len, derBlk_len, LL] at * <;> omega))]
    conv => lhs; whnf
    rw [iadd_eq (by omega)]
    refine (congrArg (Y E0) ?_).trans ih; (try simp only [Rq.loop.injEq, Rq.call.injEq, Rq.ops.injEq, List.cons.injEq, Prod.mk.injEq, AV.i.injEq, AV.sl.injEq, AV.st.injEq, AV.b.injEq, AV.u8.injEq, AV.nm.injEq, Option.some.injEq, Rs.row.injEq, Rs.var.injEq, heq_eq_eq, true_and, and_true]); (try (repeat' apply And.intro)); all_goals first | (with_reducible rfl) | omega | (rw [iadd_eq (by omega)]; omega) | (rw [isub_eq (by omega)]; omega) | (simp only [lapp_eq, List.append_assoc, List.cons_append, List.nil_append]; rfl)
theorem ev_rderive (key : List UInt8) (label ctx : List UInt8) (n : Int) (hk : key.length ≤ 4294967296) (hl : label.length ≤ 1000) (hc : ctx.length ≤ 1000000) : Y E0 (.call 53 [.sl .u8 key, .str label, .sl .u8 ctx, .i n] []) = some (.ret (.sl .u8 (derB key label ctx n)) []) := by
  rw [Y_go]; conv => lhs; whnf
  rcases Bool.eq_false_or_eq_true (ilt n 1) with hc0 | hc0
  · rw [hc0]; replace hc0 := of_ilt_t hc0; try simp only [llen_eq] at hc0
    conv => lhs; whnf
    unfold derB; (repeat (first | rw [if_pos (by first | omega | decide | assumption | (simp only [sha256_len, padk_len, xorL_len, macB_len, fourB_len, derBlk_len, LL] at * <;> omega) | (simp; omega))] | rw [if_neg (by first | omega | decide | assumption | (simp only [sha256_len, padk_len, xorL_len, macB_len, fourB_len, derBlk_len, LL] at * <;> omega) | (simp; omega))])); try rfl
  · rw [hc0]; replace hc0 := of_ilt_f hc0; try simp only [llen_eq] at hc0
    conv => lhs; whnf
    rcases Bool.eq_false_or_eq_true (ilt 1024 n) with hc1 | hc1
    · rw [hc1]; replace hc1 := of_ilt_t hc1; try simp only [llen_eq] at hc1
      conv => lhs; whnf
      unfold derB; (repeat (first | rw [if_pos (by first | omega | decide | assumption | (simp only [sha256_len, padk_len, xorL_len, macB_len, fourB_len, derBlk_len, LL] at * <;> omega) | (simp; omega))] | rw [if_neg (by first | omega | decide | assumption | (simp only [sha256_len, padk_len, xorL_len, macB_len, fourB_len, derBlk_len, LL] at * <;> omega) | (simp; omega))])); try rfl
    · rw [hc1]; replace hc1 := of_ilt_f hc1; try simp only [llen_eq] at hc1
      conv => lhs; whnf
      rw [toReq_loop]
      have h0 := ev_rderive_loop key label ctx n hk hl hc (by omega) _ 0 (Nat.zero_add _); rw [show ((0 : Nat) : Int) + 1 = 1 from rfl, show derBlk key label ctx n 0 = [] from rfl] at h0; rw [h0]
      conv => lhs; whnf
      rw [lcut_0 (by (simp only [sha256_len, padk_len, xorL_len, macB_len, fourB_len, derBlk_len, LL] at * <;> omega))]
      conv => lhs; whnf
      unfold derB; (repeat (first | rw [if_pos (by first | omega | decide | assumption | (simp only [sha256_len, padk_len, xorL_len, macB_len, fourB_len, derBlk_len, LL] at * <;> omega) | (simp; omega))] | rw [if_neg (by first | omega | decide | assumption | (simp only [sha256_len, padk_len, xorL_len, macB_len, fourB_len, derBlk_len, LL] at * <;> omega) | (simp; omega))])); try rfl
end Go.Proofs.YtfjcmolccckhhaaGreatDoor

namespace Go.Ax
open Go.Eng
def hiN (b : UInt8) : Int := ((b.toNat / 16 : Nat) : Int)
def loN (b : UInt8) : Int := ((b.toNat % 16 : Nat) : Int)
def digs (l : List UInt8) : List Int := l.flatMap fun b => [hiN b, loN b]
def dsum : List UInt8 → Int
  | [] => 0
  | b :: l => 30 - hiN b - loN b + dsum l
def digH (h : List UInt8) : List Int := digs h ++ [dsum h / 256, dsum h / 16 % 16, dsum h % 16]
def msgH (m : List UInt8) : List UInt8 := (sha256 (frameB 4 [m])).take 16
def digB (m : List UInt8) : List Int := digH (msgH m)
def stepB (leaf c p : Int) (x : List UInt8) : List UInt8 := (sha256 (frameB 1 [[UInt8.ofInt leaf, UInt8.ofInt c, UInt8.ofInt p], x])).take 16
def stepsB : Nat → Int → Int → Int → List UInt8 → List UInt8
  | 0, _, _, _, x => x
  | n + 1, leaf, c, p, x => stepsB n leaf c (p + 1) (stepB leaf c p x)
def firstB (seed : List UInt8) (leaf c : Int) : List UInt8 := derB seed [99, 104, 97, 105, 110] [UInt8.ofInt leaf, UInt8.ofInt c] 16
def valueB (leaf : Int) (x : List UInt8) : List UInt8 := (sha256 (frameB 2 [[UInt8.ofInt leaf], x])).take 16
theorem hi_bd (b : UInt8) : 0 ≤ hiN b ∧ hiN b ≤ 15 := by have := b.toNat_lt; unfold hiN; omega
theorem lo_bd (b : UInt8) : 0 ≤ loN b ∧ loN b ≤ 15 := by unfold loN; omega
theorem hi_eq (b : UInt8) : u8i (u8shr b (UInt64.ofNat 4).toNat) = hiN b := by
  rw [u8i_eq, u8shr_d]; unfold u8shr0 hiN
  have := b.toNat_lt
  rw [show min (UInt64.ofNat 4).toNat 8 = 4 from rfl, UInt8.toNat_ofNat']
  congr 1; omega
theorem lo_eq (b : UInt8) : u8i (u8op .and b (UInt8.ofNat 15)) = loN b := by
  rw [u8i_eq, u8and_eq]; unfold loN
  rw [UInt8.toNat_and, show (UInt8.ofNat 15).toNat = 2 ^ 4 - 1 from rfl, Nat.and_two_pow_sub_one_eq_mod]
theorem dsum_bd : ∀ l : List UInt8, 0 ≤ dsum l ∧ dsum l ≤ 30 * l.length
  | [] => by simp [dsum]
  | b :: l => by
    have h1 := hi_bd b
    have h2 := lo_bd b
    have h3 := dsum_bd l
    simp only [dsum, List.length_cons]; omega
theorem digs_len : ∀ l : List UInt8, (digs l).length = 2 * l.length
  | [] => rfl
  | b :: l => by have := digs_len l; simp only [digs] at *; simp [this]; omega
theorem digs_app (l m : List UInt8) : digs (l ++ m) = digs l ++ digs m := by simp [digs]
theorem dsum_app : ∀ l m : List UInt8, dsum (l ++ m) = dsum l + dsum m
  | [], m => by simp [dsum]
  | b :: l, m => by simp only [List.cons_append, dsum, dsum_app l m]; omega
theorem msgH_len (m : List UInt8) : (msgH m).length = 16 := by simp [msgH, sha256_len]
theorem stepB_len (leaf c p : Int) (x : List UInt8) : (stepB leaf c p x).length = 16 := by simp [stepB, sha256_len]
theorem stepsB_16 : ∀ (n : Nat) (leaf c p : Int) (x : List UInt8), x.length = 16 → (stepsB n leaf c p x).length = 16
  | 0, _, _, _, x, h => h
  | n + 1, leaf, c, p, x, h => stepsB_16 n leaf c (p + 1) _ (stepB_len _ _ _ _)
theorem firstB_len (seed : List UInt8) (leaf c : Int) : (firstB seed leaf c).length = 16 := derB_len (by omega)
theorem valueB_len (leaf : Int) (x : List UInt8) : (valueB leaf x).length = 16 := by simp [valueB, sha256_len]
def walkB (leaf : Int) (st : Nat → List UInt8) (fr to : Nat → Int) (n : Nat) : List UInt8 := (List.range n).flatMap fun (c : Nat) => stepsB (to c - fr c).toNat leaf c (fr c) (st c)
theorem walkB_succ (leaf : Int) (st : Nat → List UInt8) (fr to : Nat → Int) (n : Nat) : walkB leaf st fr to (n + 1) = walkB leaf st fr to n ++ stepsB (to n - fr n).toNat leaf n (fr n) (st n) := by
  unfold walkB; rw [List.range_succ, List.flatMap_append]; simp
theorem walkB_len (leaf : Int) (st : Nat → List UInt8) (fr to : Nat → Int) (m : Nat) (hs : ∀ c, c < m → (st c).length = 16) : ∀ n, n ≤ m → (walkB leaf st fr to n).length = 16 * n
  | 0, _ => rfl
  | n + 1, h => by rw [walkB_succ, List.length_append, walkB_len leaf st fr to m hs n (by omega), stepsB_16 _ _ _ _ _ (hs n (by omega))]; omega
def publicB (seed : List UInt8) (leaf : Int) : List UInt8 := if 0 ≤ leaf ∧ leaf ≤ 255 then valueB leaf (walkB leaf (fun c => firstB seed leaf c) (fun c => 0) (fun c => 15) 35) else []
def signB (seed : List UInt8) (leaf : Int) (m : List UInt8) : List UInt8 := if 0 ≤ leaf ∧ leaf ≤ 255 then walkB leaf (fun c => firstB seed leaf c) (fun c => 0) (fun c => (digB m).getD c 0) 35 else []
def recB (leaf : Int) (m sig : List UInt8) : List UInt8 × Bool := if (0 ≤ leaf ∧ leaf ≤ 255) ∧ sig.length = 560 then (valueB leaf (walkB leaf (fun c => (sig.drop (16 * c)).take 16) (fun c => (digB m).getD c 0) (fun c => 15) 35), true) else ([], false)
theorem digB_len (m : List UInt8) : (digB m).length = 35 := by simp [digB, digH, digs_len, msgH_len]
theorem digs_mem : ∀ (l : List UInt8), ∀ x ∈ digs l, 0 ≤ x ∧ x ≤ 15
  | [], x, h => by cases h
  | b :: l, x, h => by
    simp only [digs, List.flatMap_cons, List.mem_append, List.mem_cons, List.not_mem_nil, or_false] at h
    rcases h with (rfl | rfl) | h
    · exact hi_bd b
    · exact lo_bd b
    · exact digs_mem l x h
theorem digB_mem (m : List UInt8) : ∀ x ∈ digB m, 0 ≤ x ∧ x ≤ 15 := by
  intro x hx
  have h1 := dsum_bd (msgH m)
  rw [msgH_len] at h1
  simp only [digB, digH, List.mem_append, List.mem_cons, List.not_mem_nil, or_false] at hx
  rcases hx with hx | rfl | rfl | rfl
  · exact digs_mem _ x hx
  · omega
  · omega
  · omega
theorem signB_len {seed m : List UInt8} {leaf : Int} (h : 0 ≤ leaf ∧ leaf ≤ 255) : (signB seed leaf m).length = 560 := by
  unfold signB
  rw [if_pos h, walkB_len _ _ _ _ 35 (fun c _ => firstB_len _ _ _) 35 (Nat.le_refl _)]
def sumD : List Int → Int
  | [] => 0
  | x :: l => 15 - x + sumD l
theorem sumD_digs : ∀ l : List UInt8, sumD (digs l) = dsum l
  | [] => rfl
  | b :: l => by
    have := sumD_digs l
    simp only [digs] at *
    simp only [List.flatMap_cons, List.cons_append, List.nil_append, sumD, dsum, this]; omega
theorem digs16_len (m : List UInt8) : (digs (msgH m)).length = 32 := by rw [digs_len, msgH_len]
def anyGt : List Int → List Int → Bool
  | a :: x, b :: y => decide (b < a) || anyGt x y
  | _, _ => false
theorem anyGt_self : ∀ x : List Int, anyGt x x = false
  | [] => rfl
  | a :: x => by simp [anyGt, anyGt_self x]
theorem anyGt_app : ∀ (x1 y1 x2 y2 : List Int), x1.length = y1.length → anyGt (x1 ++ x2) (y1 ++ y2) = (anyGt x1 y1 || anyGt x2 y2)
  | [], [], x2, y2, _ => by simp [anyGt]
  | a :: x1, b :: y1, x2, y2, h => by simp only [List.cons_append, anyGt, anyGt_app x1 y1 x2 y2 (by simpa using h), Bool.or_assoc]
  | [], b :: y1, x2, y2, h => by simp at h
  | a :: x1, [], x2, y2, h => by simp at h
theorem sum_le : ∀ (x y : List Int), x.length = y.length → anyGt x y = false → sumD y ≤ sumD x ∧ (sumD x = sumD y → x = y)
  | [], [], _, _ => by simp [sumD]
  | a :: x, b :: y, h, hg => by
    simp only [anyGt, Bool.or_eq_false_iff, decide_eq_false_iff_not] at hg
    obtain ⟨h1, h2⟩ := sum_le x y (by simpa using h) hg.2
    simp only [sumD]
    refine ⟨by omega, fun e => ?_⟩
    obtain rfl : a = b := by omega
    rw [h2 (by omega)]
  | [], b :: y, h, _ => by simp at h
  | a :: x, [], h, _ => by simp at h
theorem cross1 (a b : List UInt8) (h : anyGt (digB a) (digB b) = false) : digB a = digB b := by
  unfold digB digH at h
  rw [anyGt_app _ _ _ _ (by rw [digs16_len, digs16_len]), Bool.or_eq_false_iff] at h
  obtain ⟨h1, h2⟩ := h
  obtain ⟨h3, h4⟩ := sum_le _ _ (by rw [digs16_len, digs16_len]) h1
  rw [sumD_digs, sumD_digs] at h3 h4
  simp only [anyGt, Bool.or_eq_false_iff, decide_eq_false_iff_not] at h2
  have e : dsum (msgH a) = dsum (msgH b) := by omega
  unfold digB digH
  rw [h4 e, e]
theorem cross (a b : List UInt8) : (anyGt (digB a) (digB b) == anyGt (digB b) (digB a)) = true ∧ (anyGt (digB a) (digB b) != decide (digB a = digB b)) = true := by
  by_cases h : digB a = digB b
  · rw [h, anyGt_self]; simp
  · cases h1 : anyGt (digB a) (digB b)
    · exact absurd (cross1 a b h1) h
    · cases h2 : anyGt (digB b) (digB a)
      · exact absurd (cross1 b a h2).symm h
      · simp [h]
end Go.Ax

namespace Go.Proofs.YtfjcmolccckhhaaGreatDoor
open Go Go.Ax Go.Eng
set_option linter.unusedVariables false
set_option linter.unusedSimpArgs false
attribute [local irreducible] iadd isub imul iquo irem ibit ineg ieq ine ilt ile ishl ishr beq' bnot and' seq' u8op u8rem u32op u64op u8shr u8shl u64shr u64shl u32shr u32shl i64w u8i u64i iu8 iu32 iu64 u8u64 u64u8 u32u8 u64cmp u8cmp u32cmp llen lget linb lset lcut lrep lapp lcpy lemp fits fitn ieqs sealed drawChk fpSame
set_option maxHeartbeats 1000000
set_option maxRecDepth 100000
theorem ev_digits_inner (h : List UInt8) (s : Int) (acc : List Int) (n j : Int) (a b : Int) (ha : acc.length ≤ 1000) (hs : 0 ≤ s ∧ s ≤ 1000) (hab : 0 ≤ a ∧ a ≤ 15 ∧ 0 ≤ b ∧ b ≤ 15) : Y E0 (.loop 231 1 0 1 [(3, .nm 0), (4, .i s), (12, .sl .u8 h), (13, .i n), (14, .i j), (24, .agg [.i a, .i b]), (25, .i 0)] [(0, some (.row 3 .i64 acc))]) = some (.fin (.exit 2) 1 [(3, .nm 0), (4, .i (s + (15 - a) + (15 - b))), (12, .sl .u8 h), (13, .i n), (14, .i j)] [(0, some (.row 3 .i64 (acc ++ [a, b])))]) := by
  rw [Y_go]; conv => lhs; whnf
  rw [ilt_t (by omega)]
  conv => lhs; whnf
  rw [ile_t (by omega)]
  conv => lhs; whnf
  rw [ilt_t (by omega)]
  conv => lhs; whnf
  rw [fits_t (by (simp only [sha256_len, msgH_len, digs_len, stepB_len, LL] at * <;> omega))]
  conv => lhs; whnf
  rw [isub_eq (by omega)]
  rw [iadd_eq (by omega)]
  rw [iadd_eq (by omega)]
  rw [Y_go]; conv => lhs; whnf
  rw [ilt_t (by omega)]
  conv => lhs; whnf
  rw [ile_t (by omega)]
  conv => lhs; whnf
  rw [ilt_t (by omega)]
  conv => lhs; whnf
  rw [fits_t (by (simp only [sha256_len, msgH_len, digs_len, stepB_len, LL] at * <;> omega))]
  conv => lhs; whnf
  rw [isub_eq (by omega)]
  rw [iadd_eq (by omega)]
  rw [iadd_eq (by omega)]
  rw [Y_go]; conv => lhs; whnf
  rw [ilt_f (by omega)]
  conv => lhs; whnf
  simp only [NO]; try with_reducible rfl
theorem dig_take {h : List UInt8} {j : Nat} (hj : j < h.length) : digs (h.take (j + 1)) = digs (h.take j) ++ [hiN h[j], loN h[j]] ∧ dsum (h.take (j + 1)) = dsum (h.take j) + (15 - hiN h[j]) + (15 - loN h[j]) := by
  rw [List.take_succ_eq_append_getElem hj, digs_app, dsum_app]
  exact ⟨rfl, by simp only [dsum]; omega⟩
theorem ev_digits_loop (h : List UInt8) (hl : h.length ≤ 16) : ∀ (k j : Nat), j + k = h.length → Y E0 (.loop 231 0 0 1 [(3, .nm 0), (4, .i (dsum (h.take j))), (12, .sl .u8 h), (13, .i h.length), (14, .i j)] [(0, some (.row 3 .i64 (digs (h.take j))))]) = some (.fin (.exit 0) 1 [(3, .nm 0), (4, .i (dsum h))] [(0, some (.row 3 .i64 (digs h)))])
  | 0, j, hj => by
    rw [List.take_of_length_le (by omega)]
    rw [Y_go]; conv => lhs; whnf
    rw [ilt_f (by omega)]
    conv => lhs; whnf
  | k + 1, j, hj => by
    have ih := ev_digits_loop h hl k (j + 1) (by omega)
    obtain ⟨e1, e2⟩ := dig_take (h := h) (j := j) (by omega)
    have hb1 := hi_bd (h[j]'(by omega))
    have hb2 := lo_bd (h[j]'(by omega))
    have hds := dsum_bd (h.take j)
    have hdl := digs_len (h.take j)
    rw [List.length_take] at hds hdl
    have hin := ev_digits_inner h (dsum (h.take j)) (digs (h.take j)) h.length j (hiN (h[j]'(by omega))) (loN (h[j]'(by omega))) (by omega) (by omega) (by omega)
    rw [← e1, ← e2] at hin
    rw [show ((j + 1 : Nat) : Int) = (j : Int) + 1 from by omega] at ih
    rw [Y_go]; conv => lhs; whnf
    rw [ilt_t (by omega)]
    conv => lhs; whnf
    rw [lget_n (by omega)]
    conv => lhs; whnf
    rw [toReq_loop]
    rw [hi_eq, lo_eq, hin]
    conv => lhs; whnf
    rw [iadd_eq (by omega)]
    refine (congrArg (Y E0) ?_).trans ih; rfl
theorem sum_bits {s : Int} (h : 0 ≤ s ∧ s ≤ 1000) : [ishr s (UInt64.ofNat 8).toNat, ibit .and (ishr s (UInt64.ofNat 4).toNat) 15, ibit .and s 15] = [s / 256, s / 16 % 16, s % 16] := by
  rw [ishr_eq (by decide), ishr_eq (by decide), show (15 : Int) = ((2 ^ 4 - 1 : Nat) : Int) from rfl, iand_mask 4 (by omega), iand_mask 4 (by omega)]; rfl
theorem ev_digits (m : List UInt8) (hm : m.length ≤ 1000000) : Y E0 (.call 231 [.sl .u8 m] []) = some (.ret (.sl .i64 (digB m)) []) := by
  have h0 := ev_digits_loop (msgH m) (by rw [msgH_len]; omega) _ 0 (Nat.zero_add _)
  have hds := dsum_bd (msgH m)
  have hml := msgH_len m
  rw [show ((0 : Nat) : Int) = 0 from rfl, List.take_zero] at h0
  rw [Y_go]; conv => lhs; whnf
  rw [toReq_call]
  rw [ev_dig_hash _ _ (by simp [frameB, fieldsB, len4_len]; omega) (by simp)]
  conv => lhs; whnf
  rw [lcut_0 (by (simp only [sha256_len, msgH_len, digs_len, stepB_len, LL] at * <;> omega))]
  conv => lhs; whnf
  rw [toReq_loop]
  rw [show List.take (Int.toNat 16) (sha256 (frameB 4 [m])) = msgH m from rfl, llen_eq]; rw [show digs [] = [] from rfl, show dsum [] = 0 from rfl] at h0; rw [h0]
  conv => lhs; whnf
  rw [fits_t (by (simp only [sha256_len, msgH_len, digs_len, stepB_len, LL] at * <;> omega))]
  conv => lhs; whnf
  rw [sum_bits (by omega), lapp_eq]; rfl
theorem ev_next (leaf c p : Int) (x : List UInt8) (hx : x.length ≤ 1000000) : Y E0 (.call 271 [.i leaf, .i c, .i p, .sl .u8 x] []) = some (.ret (.sl .u8 (stepB leaf c p x)) []) := by
  rw [Y_go]; conv => lhs; whnf
  rw [toReq_call]
  rw [ev_dig_hash _ _ (by simp [frameB, fieldsB, len4_len]; omega) (by simp)]
  conv => lhs; whnf
  rw [ieq_t (by omega)]
  conv => lhs; whnf
  rw [lcut_0 (by (simp only [sha256_len, msgH_len, digs_len, stepB_len, LL] at * <;> omega))]
  conv => lhs; whnf
  simp only [iu8_eq]; rfl
theorem ev_first (seed : List UInt8) (leaf c : Int) (hx : seed.length ≤ 1000000) : Y E0 (.call 233 [.sl .u8 seed, .i leaf, .i c] []) = some (.ret (.sl .u8 (firstB seed leaf c)) []) := by
  rw [Y_go]; conv => lhs; whnf
  rw [toReq_call]
  rw [show strOf { data := #[99, 104, 97, 105, 110] } = [99, 104, 97, 105, 110] from rfl, ev_derive _ _ _ _ (by omega) (by decide) (by simp)]
  conv => lhs; whnf
  simp only [iu8_eq]; rfl
theorem ev_value (leaf : Int) (x : List UInt8) (hx : x.length ≤ 1000000) : Y E0 (.call 274 [.i leaf, .sl .u8 x] []) = some (.ret (.sl .u8 (valueB leaf x)) []) := by
  rw [Y_go]; conv => lhs; whnf
  rw [toReq_call]
  rw [ev_dig_hash _ _ (by simp [frameB, fieldsB, len4_len]; omega) (by simp)]
  conv => lhs; whnf
  rw [ieq_t (by omega)]
  conv => lhs; whnf
  rw [lcut_0 (by (simp only [sha256_len, msgH_len, digs_len, stepB_len, LL] at * <;> omega))]
  conv => lhs; whnf
  simp only [iu8_eq]; rfl
end Go.Proofs.YtfjcmolccckhhaaGreatDoor

namespace Go.Proofs.YtfjcmolccckhhaaGreatDoor
open Go Go.Ax Go.Eng
set_option linter.unusedVariables false
set_option linter.unusedSimpArgs false
attribute [local irreducible] iadd isub imul iquo irem ibit ineg ieq ine ilt ile ishl ishr beq' bnot and' seq' u8op u8rem u32op u64op u8shr u8shl u64shr u64shl u32shr u32shl i64w u8i u64i iu8 iu32 iu64 u8u64 u64u8 u32u8 u64cmp u8cmp u32cmp llen lget linb lset lcut lrep lapp lcpy lemp fits fitn ieqs sealed drawChk fpSame
set_option maxHeartbeats 1000000
set_option maxRecDepth 100000
theorem ev_valid (l : Int) : Y E0 (.call 230 [.i l] []) = some (.ret (.b (decide (0 ≤ l ∧ l ≤ 255))) []) := by
  rw [Y_go]; conv => lhs; whnf
  rcases Bool.eq_false_or_eq_true (ile 0 l) with hc0 | hc0
  · rw [hc0]; replace hc0 := of_ile_t hc0; try simp only [llen_eq] at hc0
    conv => lhs; whnf
    (congr 3; simp only [ieq_eq, ine_eq, ilt_eq, ile_eq, bnot_eq, and_eq, llen_eq]; first | rfl | (rw [decide_eq_decide]; omega) | (simp; omega))
  · rw [hc0]; replace hc0 := of_ile_f hc0; try simp only [llen_eq] at hc0
    conv => lhs; whnf
    (rw [decide_eq_false (by omega)])
theorem ev_P_1 (leaf c : Int) (seed : List UInt8) (hx : seed.length ≤ 1000000) : Y E0 (.call 273 [.i c, .pa 0 0, .pa 1 0] [.var [.sl .u8 seed], .var [.i leaf]]) = some (.ret (.sl .u8 (firstB seed leaf c)) [some (.var [.sl .u8 seed]), some (.var [.i leaf])]) := by
  rw [Y_go]; conv => lhs; whnf
  rw [toReq_call]
  rw [ev_first _ _ _ (by omega)]
  conv => lhs; whnf
theorem ev_S_1 (leaf c : Int) (seed : List UInt8) (hx : seed.length ≤ 1000000) : Y E0 (.call 232 [.i c, .pa 0 0, .pa 1 0] [.var [.sl .u8 seed], .var [.i leaf]]) = some (.ret (.sl .u8 (firstB seed leaf c)) [some (.var [.sl .u8 seed]), some (.var [.i leaf])]) := by
  rw [Y_go]; conv => lhs; whnf
  rw [toReq_call]
  rw [ev_first _ _ _ (by omega)]
  conv => lhs; whnf
theorem ev_P_2 (c : Int) : Y E0 (.call 275 [.i c] []) = some (.ret (.i 0) []) := by
  rw [Y_go]; conv => lhs; whnf
theorem ev_P_3 (c : Int) : Y E0 (.call 276 [.i c] []) = some (.ret (.i 15) []) := by
  rw [Y_go]; conv => lhs; whnf
theorem ev_S_2 (c : Int) : Y E0 (.call 235 [.i c] []) = some (.ret (.i 0) []) := by
  rw [Y_go]; conv => lhs; whnf
theorem ev_S_3 (c : Nat) (d : List Int) (hc : c < d.length) : Y E0 (.call 236 [.i c, .pa 0 0] [.var [.sl .i64 d]]) = some (.ret (.i d[c]) [some (.var [.sl .i64 d])]) := by
  rw [Y_go]; conv => lhs; whnf
  rw [lget_n (by omega)]
  conv => lhs; whnf
theorem ev_walk_p_in (leaf : Int) (seed : List UInt8) (hx : seed.length ≤ 1000000) (acc : List UInt8) (c : Nat) (hc : c < 35) (ha : acc.length ≤ 1000) : ∀ (k : Nat) (q : Int) (x : List UInt8), 0 ≤ q → ((15 : Int) - q).toNat = k → x.length ≤ 1000000 →
    Y E0 (.loop 234 1 2 3 [(0, .i leaf), (1, AV.fn 273 [] [.pa 0 0, .pa 1 0]), (2, AV.fn 275 [] []), (3, AV.fn 276 [] []), (9, .nm 2), (10, .i c), (11, .sl .u8 x), (12, .i q), (13, .i c)] [(0, some (Rs.var [.sl .u8 seed])), (1, some (Rs.var [.i leaf])), (2, some (.row 5 .u8 acc))]) = some (.fin (.exit 2) 3 [(0, .i leaf), (1, AV.fn 273 [] [.pa 0 0, .pa 1 0]), (2, AV.fn 275 [] []), (3, AV.fn 276 [] []), (9, .nm 2), (11, .sl .u8 (stepsB k leaf c q x)), (13, .i c)] [(0, some (Rs.var [.sl .u8 seed])), (1, some (Rs.var [.i leaf])), (2, some (.row 5 .u8 acc))])
  | 0, q, x, h0, hk, hx' => by
    rw [Y_go]; conv => lhs; whnf
    rw [toReq_call]
    rw [ev_P_3 _]
    conv => lhs; whnf
    rw [ilt_f (by omega)]
    conv => lhs; whnf
    rfl
  | k + 1, q, x, h0, hk, hx' => by
    have ih := ev_walk_p_in leaf seed hx acc c hc ha k (q + 1) (stepB leaf c q x) (by omega) (by omega) (by rw [stepB_len]; omega)
    rw [Y_go]; conv => lhs; whnf
    rw [toReq_call]
    rw [ev_P_3 _]
    conv => lhs; whnf
    rw [ilt_t (by omega)]
    conv => lhs; whnf
    rw [toReq_call]
    rw [ev_next _ _ _ _ (by omega)]
    conv => lhs; whnf
    rw [iadd_eq (by omega)]
    refine (congrArg (Y E0) ?_).trans ih; (try simp only [Rq.loop.injEq, Rq.call.injEq, Rq.ops.injEq, List.cons.injEq, Prod.mk.injEq, AV.i.injEq, AV.sl.injEq, AV.st.injEq, AV.b.injEq, AV.u8.injEq, AV.nm.injEq, Option.some.injEq, Rs.row.injEq, Rs.var.injEq, heq_eq_eq, true_and, and_true]); (try (repeat' apply And.intro)); all_goals first | (with_reducible rfl) | omega | (rw [iadd_eq (by omega)]; omega) | (rw [isub_eq (by omega)]; omega)
theorem ev_walk_p_loop (leaf : Int) (seed : List UInt8) (hx : seed.length ≤ 1000000) : ∀ (k c : Nat) (acc : List UInt8), c + k = 35 → acc = walkB leaf (fun c => firstB seed leaf c) (fun c => (0 : Int)) (fun c => (15 : Int)) c → acc.length ≤ 16 * c →
    Y E0 (.loop 234 0 2 3 [(0, .i leaf), (1, AV.fn 273 [] [.pa 0 0, .pa 1 0]), (2, AV.fn 275 [] []), (3, AV.fn 276 [] []), (9, .nm 2), (13, .i c)] [(0, some (Rs.var [.sl .u8 seed])), (1, some (Rs.var [.i leaf])), (2, some (.row 5 .u8 acc))]) = some (.fin (.exit 0) 2 [(9, .sl .u8 (walkB leaf (fun c => firstB seed leaf c) (fun c => (0 : Int)) (fun c => (15 : Int)) 35))] [(0, some (Rs.var [.sl .u8 seed])), (1, some (Rs.var [.i leaf]))])
  | 0, c, acc, hc, he, ha => by
    obtain rfl : c = 35 := by omega
    rw [← he]
    rw [Y_go]; conv => lhs; whnf
    rw [ilt_f (by omega)]
    conv => lhs; whnf
  | k + 1, c, acc, hc, he, ha => by
    have hin := ev_walk_p_in leaf seed hx acc c (by omega) (by omega)
    have hst : (firstB seed leaf c).length = 16 := by exact firstB_len _ _ _
    have hsl := stepsB_16 ((15 : Int) - (0 : Int)).toNat leaf c ((0 : Int)) _ hst
    have ih := ev_walk_p_loop leaf seed hx k (c + 1) (acc ++ stepsB ((15 : Int) - (0 : Int)).toNat leaf c ((0 : Int)) (firstB seed leaf c)) (by omega) (by rw [walkB_succ, ← he]) (by rw [List.length_append, hsl]; omega)
    rw [show ((c + 1 : Nat) : Int) = (c : Int) + 1 from by omega] at ih
    rw [Y_go]; conv => lhs; whnf
    rw [ilt_t (by omega)]
    conv => lhs; whnf
    rw [toReq_call]
    rw [ev_P_1 _ _ _ (by omega)]
    conv => lhs; whnf
    rw [toReq_call]
    rw [ev_P_2 _]
    conv => lhs; whnf
    rw [toReq_loop]
    rw [hin _ _ _ (by omega) rfl (by omega)]
    conv => lhs; whnf
    rw [fits_t (by (simp only [sha256_len, msgH_len, digs_len, stepB_len, firstB_len, LL] at * <;> omega))]
    conv => lhs; whnf
    rw [iadd_eq (by omega)]
    refine (congrArg (Y E0) ?_).trans ih; (try simp only [Rq.loop.injEq, Rq.call.injEq, Rq.ops.injEq, List.cons.injEq, Prod.mk.injEq, AV.i.injEq, AV.sl.injEq, AV.st.injEq, AV.b.injEq, AV.u8.injEq, AV.nm.injEq, Option.some.injEq, Rs.row.injEq, Rs.var.injEq, heq_eq_eq, true_and, and_true]); (try (repeat' apply And.intro)); all_goals first | (with_reducible rfl) | omega | (rw [iadd_eq (by omega)]; omega) | (rw [isub_eq (by omega)]; omega) | (rw [lapp_eq]; done) | (rw [lapp_eq]; rfl)
theorem ev_walk_p (leaf : Int) (seed : List UInt8) (hx : seed.length ≤ 1000000) : Y E0 (.call 234 [.i leaf, AV.fn 273 [] [.pa 0 0, .pa 1 0], AV.fn 275 [] [], AV.fn 276 [] []] [Rs.var [.sl .u8 seed], Rs.var [.i leaf]]) = some (.ret (.sl .u8 (walkB leaf (fun c => firstB seed leaf c) (fun c => (0 : Int)) (fun c => (15 : Int)) 35)) [some (Rs.var [.sl .u8 seed]), some (Rs.var [.i leaf])]) := by
  have h0 := ev_walk_p_loop leaf seed hx 35 0 [] (by omega) rfl (by simp)
  rw [show ((0 : Nat) : Int) = 0 from rfl] at h0
  rw [Y_go]; conv => lhs; whnf
  rw [toReq_loop]
  exact h0 ▸ rfl
theorem ev_walk_s_in (leaf : Int) (seed : List UInt8) (d : List Int) (hx : seed.length ≤ 1000000) (hd : d.length = 35) (hdb : ∀ x ∈ d, 0 ≤ x ∧ x ≤ 15) (acc : List UInt8) (c : Nat) (hc : c < 35) (ha : acc.length ≤ 1000) : ∀ (k : Nat) (q : Int) (x : List UInt8), 0 ≤ q → (d.getD c 0 - q).toNat = k → x.length ≤ 1000000 →
    Y E0 (.loop 234 1 3 4 [(0, .i leaf), (1, AV.fn 232 [] [.pa 0 0, .pa 1 0]), (2, AV.fn 235 [] []), (3, AV.fn 236 [] [.pa 2 0]), (9, .nm 3), (10, .i c), (11, .sl .u8 x), (12, .i q), (13, .i c)] [(0, some (Rs.var [.sl .u8 seed])), (1, some (Rs.var [.i leaf])), (2, some (Rs.var [.sl .i64 d])), (3, some (.row 5 .u8 acc))]) = some (.fin (.exit 2) 4 [(0, .i leaf), (1, AV.fn 232 [] [.pa 0 0, .pa 1 0]), (2, AV.fn 235 [] []), (3, AV.fn 236 [] [.pa 2 0]), (9, .nm 3), (11, .sl .u8 (stepsB k leaf c q x)), (13, .i c)] [(0, some (Rs.var [.sl .u8 seed])), (1, some (Rs.var [.i leaf])), (2, some (Rs.var [.sl .i64 d])), (3, some (.row 5 .u8 acc))])
  | 0, q, x, h0, hk, hx' => by
    have hdc := hdb _ (List.getElem_mem (l := d) (n := c) (by omega))
    have hgd : d.getD c 0 = d[c]'(by omega) := by simp [List.getD, show c < d.length by omega]
    rw [Y_go]; conv => lhs; whnf
    rw [toReq_call]
    rw [ev_S_3 _ _ (by omega)]
    conv => lhs; whnf
    rw [ilt_f (by omega)]
    conv => lhs; whnf
    rfl
  | k + 1, q, x, h0, hk, hx' => by
    have hdc := hdb _ (List.getElem_mem (l := d) (n := c) (by omega))
    have hgd : d.getD c 0 = d[c]'(by omega) := by simp [List.getD, show c < d.length by omega]
    have ih := ev_walk_s_in leaf seed d hx hd hdb acc c hc ha k (q + 1) (stepB leaf c q x) (by omega) (by omega) (by rw [stepB_len]; omega)
    rw [Y_go]; conv => lhs; whnf
    rw [toReq_call]
    rw [ev_S_3 _ _ (by omega)]
    conv => lhs; whnf
    rw [ilt_t (by omega)]
    conv => lhs; whnf
    rw [toReq_call]
    rw [ev_next _ _ _ _ (by omega)]
    conv => lhs; whnf
    rw [iadd_eq (by omega)]
    refine (congrArg (Y E0) ?_).trans ih; (try simp only [Rq.loop.injEq, Rq.call.injEq, Rq.ops.injEq, List.cons.injEq, Prod.mk.injEq, AV.i.injEq, AV.sl.injEq, AV.st.injEq, AV.b.injEq, AV.u8.injEq, AV.nm.injEq, Option.some.injEq, Rs.row.injEq, Rs.var.injEq, heq_eq_eq, true_and, and_true]); (try (repeat' apply And.intro)); all_goals first | (with_reducible rfl) | omega | (rw [iadd_eq (by omega)]; omega) | (rw [isub_eq (by omega)]; omega)
theorem ev_walk_s_loop (leaf : Int) (seed : List UInt8) (d : List Int) (hx : seed.length ≤ 1000000) (hd : d.length = 35) (hdb : ∀ x ∈ d, 0 ≤ x ∧ x ≤ 15) : ∀ (k c : Nat) (acc : List UInt8), c + k = 35 → acc = walkB leaf (fun c => firstB seed leaf c) (fun c => (0 : Int)) (fun c => d.getD c 0) c → acc.length ≤ 16 * c →
    Y E0 (.loop 234 0 3 4 [(0, .i leaf), (1, AV.fn 232 [] [.pa 0 0, .pa 1 0]), (2, AV.fn 235 [] []), (3, AV.fn 236 [] [.pa 2 0]), (9, .nm 3), (13, .i c)] [(0, some (Rs.var [.sl .u8 seed])), (1, some (Rs.var [.i leaf])), (2, some (Rs.var [.sl .i64 d])), (3, some (.row 5 .u8 acc))]) = some (.fin (.exit 0) 3 [(9, .sl .u8 (walkB leaf (fun c => firstB seed leaf c) (fun c => (0 : Int)) (fun c => d.getD c 0) 35))] [(0, some (Rs.var [.sl .u8 seed])), (1, some (Rs.var [.i leaf])), (2, some (Rs.var [.sl .i64 d]))])
  | 0, c, acc, hc, he, ha => by
    obtain rfl : c = 35 := by omega
    rw [← he]
    rw [Y_go]; conv => lhs; whnf
    rw [ilt_f (by omega)]
    conv => lhs; whnf
  | k + 1, c, acc, hc, he, ha => by
    have hdc := hdb _ (List.getElem_mem (l := d) (n := c) (by omega))
    have hgd : d.getD c 0 = d[c]'(by omega) := by simp [List.getD, show c < d.length by omega]
    have hin := ev_walk_s_in leaf seed d hx hd hdb acc c (by omega) (by omega)
    have hst : (firstB seed leaf c).length = 16 := by exact firstB_len _ _ _
    have hsl := stepsB_16 (d.getD c 0 - (0 : Int)).toNat leaf c ((0 : Int)) _ hst
    have ih := ev_walk_s_loop leaf seed d hx hd hdb k (c + 1) (acc ++ stepsB (d.getD c 0 - (0 : Int)).toNat leaf c ((0 : Int)) (firstB seed leaf c)) (by omega) (by rw [walkB_succ, ← he]) (by rw [List.length_append, hsl]; omega)
    rw [show ((c + 1 : Nat) : Int) = (c : Int) + 1 from by omega] at ih
    rw [Y_go]; conv => lhs; whnf
    rw [ilt_t (by omega)]
    conv => lhs; whnf
    rw [toReq_call]
    rw [ev_S_1 _ _ _ (by omega)]
    conv => lhs; whnf
    rw [toReq_call]
    rw [ev_S_2 _]
    conv => lhs; whnf
    rw [toReq_loop]
    rw [hin _ _ _ (by omega) rfl (by omega)]
    conv => lhs; whnf
    rw [fits_t (by (simp only [sha256_len, msgH_len, digs_len, stepB_len, firstB_len, LL] at * <;> omega))]
    conv => lhs; whnf
    rw [iadd_eq (by omega)]
    refine (congrArg (Y E0) ?_).trans ih; (try simp only [Rq.loop.injEq, Rq.call.injEq, Rq.ops.injEq, List.cons.injEq, Prod.mk.injEq, AV.i.injEq, AV.sl.injEq, AV.st.injEq, AV.b.injEq, AV.u8.injEq, AV.nm.injEq, Option.some.injEq, Rs.row.injEq, Rs.var.injEq, heq_eq_eq, true_and, and_true]); (try (repeat' apply And.intro)); all_goals first | (with_reducible rfl) | omega | (rw [iadd_eq (by omega)]; omega) | (rw [isub_eq (by omega)]; omega) | (rw [lapp_eq]; done) | (rw [lapp_eq]; rfl)
theorem ev_walk_s (leaf : Int) (seed : List UInt8) (d : List Int) (hx : seed.length ≤ 1000000) (hd : d.length = 35) (hdb : ∀ x ∈ d, 0 ≤ x ∧ x ≤ 15) : Y E0 (.call 234 [.i leaf, AV.fn 232 [] [.pa 0 0, .pa 1 0], AV.fn 235 [] [], AV.fn 236 [] [.pa 2 0]] [Rs.var [.sl .u8 seed], Rs.var [.i leaf], Rs.var [.sl .i64 d]]) = some (.ret (.sl .u8 (walkB leaf (fun c => firstB seed leaf c) (fun c => (0 : Int)) (fun c => d.getD c 0) 35)) [some (Rs.var [.sl .u8 seed]), some (Rs.var [.i leaf]), some (Rs.var [.sl .i64 d])]) := by
  have h0 := ev_walk_s_loop leaf seed d hx hd hdb 35 0 [] (by omega) rfl (by simp)
  rw [show ((0 : Nat) : Int) = 0 from rfl] at h0
  rw [Y_go]; conv => lhs; whnf
  rw [toReq_loop]
  exact h0 ▸ rfl
theorem ev_public (leaf : Int) (seed : List UInt8) (hx : seed.length ≤ 1000000) : Y E0 (.call 239 [.sl .u8 seed, .i leaf] []) = some (.ret (.sl .u8 (publicB seed leaf)) []) := by
  rw [Y_go]; conv => lhs; whnf
  rw [toReq_call]
  rw [ev_valid _]
  conv => lhs; whnf
  rw [bnot_eq]; conv => lhs; whnf
  rcases Bool.eq_false_or_eq_true (decide (0 ≤ leaf ∧ leaf ≤ 255)) with hc0 | hc0
  · rw [hc0]; replace hc0 := of_decide_eq_true hc0; try simp only at hc0
    conv => lhs; whnf
    rw [toReq_call]
    rw [ev_walk_p _ _ (by omega)]
    conv => lhs; whnf
    rw [fpSame_t (by rfl)]; conv => lhs; whnf
    rw [toReq_call]
    rw [ev_value _ _ (by rw [walkB_len _ _ _ _ 35 (fun c _ => firstB_len _ _ _) 35 (Nat.le_refl _)]; omega)]
    conv => lhs; whnf
    rw [drw (by kernel_rfl)]; conv => lhs; whnf
    unfold publicB; (repeat (first | rw [if_pos (by first | omega | decide | assumption | (simp only [sha256_len, msgH_len, digs_len, stepB_len, firstB_len, LL] at * <;> omega) | (simp; omega))] | rw [if_neg (by first | omega | decide | assumption | (simp only [sha256_len, msgH_len, digs_len, stepB_len, firstB_len, LL] at * <;> omega) | (simp; omega))])); try simp only [NO]
  · rw [hc0]; replace hc0 := of_decide_eq_false hc0; try simp only at hc0
    conv => lhs; whnf
    unfold publicB; (repeat (first | rw [if_pos (by first | omega | decide | assumption | (simp only [sha256_len, msgH_len, digs_len, stepB_len, firstB_len, LL] at * <;> omega) | (simp; omega))] | rw [if_neg (by first | omega | decide | assumption | (simp only [sha256_len, msgH_len, digs_len, stepB_len, firstB_len, LL] at * <;> omega) | (simp; omega))])); try simp only [NO]
theorem ev_sign (leaf : Int) (seed m : List UInt8) (hx : seed.length ≤ 1000000) (hm : m.length ≤ 1000000) : Y E0 (.call 186 [.sl .u8 seed, .i leaf, .sl .u8 m] []) = some (.ret (.sl .u8 (signB seed leaf m)) []) := by
  rw [Y_go]; conv => lhs; whnf
  rw [toReq_call]
  rw [ev_valid _]
  conv => lhs; whnf
  rw [bnot_eq]; conv => lhs; whnf
  rcases Bool.eq_false_or_eq_true (decide (0 ≤ leaf ∧ leaf ≤ 255)) with hc0 | hc0
  · rw [hc0]; replace hc0 := of_decide_eq_true hc0; try simp only at hc0
    conv => lhs; whnf
    rw [toReq_call]
    rw [ev_digits _ (by omega)]
    conv => lhs; whnf
    rw [toReq_call]
    rw [ev_walk_s leaf seed (digB m) hx (digB_len m) (digB_mem m)]
    conv => lhs; whnf
    rw [fpSame_t (by rfl)]; conv => lhs; whnf
    unfold signB; (repeat (first | rw [if_pos (by first | omega | decide | assumption | (simp only [sha256_len, msgH_len, digs_len, stepB_len, firstB_len, LL] at * <;> omega) | (simp; omega))] | rw [if_neg (by first | omega | decide | assumption | (simp only [sha256_len, msgH_len, digs_len, stepB_len, firstB_len, LL] at * <;> omega) | (simp; omega))])); try simp only [NO]
  · rw [hc0]; replace hc0 := of_decide_eq_false hc0; try simp only at hc0
    conv => lhs; whnf
    unfold signB; (repeat (first | rw [if_pos (by first | omega | decide | assumption | (simp only [sha256_len, msgH_len, digs_len, stepB_len, firstB_len, LL] at * <;> omega) | (simp; omega))] | rw [if_neg (by first | omega | decide | assumption | (simp only [sha256_len, msgH_len, digs_len, stepB_len, firstB_len, LL] at * <;> omega) | (simp; omega))])); try simp only [NO]
end Go.Proofs.YtfjcmolccckhhaaGreatDoor

namespace Go.Ax
open Go.Eng
def collB (a b : List UInt8) (n : Int) : Bool := decide (0 ≤ n ∧ n ≤ 32 ∧ a ≠ b ∧ (sha256 a).take n.toNat = (sha256 b).take n.toNat)
end Go.Ax

namespace Go.Ax
open Go.Eng
def nodeB (h i : Int) (l r : List UInt8) : List UInt8 := (sha256 (frameB 3 [[UInt8.ofInt h, UInt8.ofInt i], l, r])).take 16
theorem frame3_len (tag : Int) (a b c : List UInt8) : (frameB tag [a, b, c]).length = 13 + a.length + b.length + c.length := by
  simp [frameB, fieldsB, len4_len]; omega
def upB (h i : Int) : List (List UInt8) → List (List UInt8)
  | l :: r :: t => nodeB h i l r :: upB h (i + 1) t
  | _ => []
def heightB (n : Int) : Int := if n = 1 then 0 else if n = 2 then 1 else if n = 4 then 2 else if n = 8 then 3 else -1
def climbR (h i : Int) (x : List UInt8) : List (List UInt8) → List UInt8
  | [] => x
  | s :: p => climbR (h + 1) (i / 2) (if i % 2 = 1 then nodeB h (i / 2) s x else nodeB h (i / 2) x s) p
def climbB (x : List UInt8) (i : Int) (p : List (List UInt8)) : List UInt8 := if 3 < p.length ∨ i < 0 ∨ (2 : Int) ^ p.length ≤ i then [] else climbR 0 i x p
theorem nodeB_len (h i : Int) (l r : List UInt8) : (nodeB h i l r).length ≤ 16 := by simp [nodeB]; omega
theorem drop2 {α : Type} {ls : List α} {i : Nat} (h : 2 * i + 1 < ls.length) : ls.drop (2 * i) = ls[2 * i] :: ls[2 * i + 1] :: ls.drop (2 * (i + 1)) := by
  rw [List.drop_eq_getElem_cons (by omega), List.drop_eq_getElem_cons (i := 2 * i + 1) (by omega)]; rfl
theorem upB_one (h i : Int) (ls : List (List UInt8)) (hl : ls.length ≤ 1) : upB h i ls = [] := by
  match ls with
  | [] => rfl
  | [_] => rfl
  | _ :: _ :: _ => simp at hl
theorem upB_len (h : Int) : ∀ (n : Nat) (i : Int) (ls : List (List UInt8)), ls.length ≤ n → (upB h i ls).length = ls.length / 2
  | 0, i, ls, hl => by rw [upB_one _ _ _ (by omega), List.length_nil]; omega
  | n + 1, i, [], _ => rfl
  | n + 1, i, [_], _ => by simp [upB]
  | n + 1, i, l :: r :: t, hl => by
    simp only [upB, List.length_cons, upB_len h n (i + 1) t (by simp at hl; omega)]
    simp only [List.length_cons] at hl; omega
theorem upB_mem (h : Int) : ∀ (n : Nat) (i : Int) (ls : List (List UInt8)), ls.length ≤ n → ∀ x ∈ upB h i ls, x.length ≤ 1000000
  | 0, i, ls, hl => by rw [upB_one _ _ _ (by omega)]; intro x hx; cases hx
  | n + 1, i, [], _ => by intro x hx; cases hx
  | n + 1, i, [_], _ => by intro x hx; cases hx
  | n + 1, i, l :: r :: t, hl => by
    intro x hx
    simp only [upB, List.mem_cons] at hx
    rcases hx with rfl | hx
    · have := nodeB_len h i l r; omega
    · exact upB_mem h n (i + 1) t (by simp at hl; omega) x hx
def levB : Nat → Int → List (List UInt8) → List (List (List UInt8))
  | 0, h, ls => [ls]
  | k + 1, h, ls => ls :: levB k (h + 1) (upB h 0 ls)
def upN : Nat → Int → List (List UInt8) → List (List UInt8)
  | 0, h, ls => ls
  | j + 1, h, ls => upN j (h + 1) (upB h 0 ls)
def rootB (ls : List (List UInt8)) : List UInt8 := if heightB ls.length < 0 then [] else (upN (heightB ls.length).toNat 0 ls).getD 0 []
def sib (i : Int) : Int := if i % 2 = 0 then i + 1 else i - 1
def pathR : Nat → Int → Int → List (List UInt8) → List (List UInt8)
  | 0, h, i, ls => []
  | k + 1, h, i, ls => ls.getD (sib i).toNat [] :: pathR k (h + 1) (i / 2) (upB h 0 ls)
def pathB (i : Int) (ls : List (List UInt8)) : List (List UInt8) := if heightB ls.length < 0 ∨ i < 0 ∨ (ls.length : Int) ≤ i then [] else pathR (heightB ls.length).toNat 0 i ls
theorem upN_succ : ∀ (j : Nat) (h : Int) (ls : List (List UInt8)), upN (j + 1) h ls = upB (h + j) 0 (upN j h ls)
  | 0, h, ls => by simp [upN]
  | j + 1, h, ls => by
    rw [upN, upN_succ j (h + 1), upN]
    congr 1; omega
theorem levB_get : ∀ (k : Nat) (h : Int) (ls : List (List UInt8)) (j : Nat), j ≤ k → (levB k h ls)[j]? = some (upN j h ls)
  | 0, h, ls, j, hj => by obtain rfl : j = 0 := by omega
                          rfl
  | k + 1, h, ls, 0, _ => rfl
  | k + 1, h, ls, j + 1, hj => by rw [levB, List.getElem?_cons_succ, levB_get k (h + 1) _ j (by omega), upN]
theorem levB_len : ∀ (k : Nat) (h : Int) (ls : List (List UInt8)), (levB k h ls).length = k + 1
  | 0, h, ls => rfl
  | k + 1, h, ls => by rw [levB, List.length_cons, levB_len k]
theorem upN_len : ∀ (j : Nat) (h : Int) (ls : List (List UInt8)) (k : Nat), ls.length = 2 ^ (j + k) → (upN j h ls).length = 2 ^ k
  | 0, h, ls, k, hl => by rw [upN, hl, Nat.zero_add]
  | j + 1, h, ls, k, hl => by
    rw [upN]
    refine upN_len j (h + 1) _ k ?_
    rw [upB_len h _ _ _ (Nat.le_refl _), hl, show j + 1 + k = (j + k) + 1 from by omega, Nat.pow_succ]; omega
theorem upN_mem : ∀ (j : Nat) (h : Int) (ls : List (List UInt8)), (∀ x ∈ ls, x.length ≤ 1000000) → ∀ x ∈ upN j h ls, x.length ≤ 1000000
  | 0, h, ls, hm => hm
  | j + 1, h, ls, hm => upN_mem j (h + 1) _ (upB_mem h _ 0 ls (Nat.le_refl _))
theorem height_pow (n : Nat) (h : ¬ heightB n < 0) : ∃ k : Nat, k ≤ 3 ∧ heightB n = (k : Int) ∧ n = 2 ^ k := by
  unfold heightB at h ⊢
  by_cases h1 : (n : Int) = 1
  · exact ⟨0, by omega, by rw [if_pos h1]; rfl, by simp; omega⟩
  rw [if_neg h1] at h ⊢
  by_cases h2 : (n : Int) = 2
  · exact ⟨1, by omega, by rw [if_pos h2]; rfl, by simp; omega⟩
  rw [if_neg h2] at h ⊢
  by_cases h4 : (n : Int) = 4
  · exact ⟨2, by omega, by rw [if_pos h4]; rfl, by simp; omega⟩
  rw [if_neg h4] at h ⊢
  by_cases h8 : (n : Int) = 8
  · exact ⟨3, by omega, by rw [if_pos h8]; rfl, by simp; omega⟩
  rw [if_neg h8] at h
  exact absurd h (by decide)
theorem lget_snoc {α : Type} (pre : List α) (x : α) (h : Int) (hh : (pre.length : Int) = h) : lget (pre ++ [x]) h = some x := by
  subst hh; rw [lget_nat]; simp
theorem sib_xor {i : Int} (h : 0 ≤ i ∧ i < 1024) : ibit .xor i 1 = sib i := by
  rw [ibit_d]
  have : ∀ j : Fin 1024, ibit0 .xor (j.val : Int) 1 = sib (j.val : Int) := by decide +kernel
  have h1 := this ⟨i.toNat, by omega⟩
  simp only [Int.toNat_of_nonneg h.1] at h1
  exact h1
def pfr (h i : Int) (s x : List UInt8) : List UInt8 := if i % 2 = 1 then frameB 3 [[UInt8.ofInt h, UInt8.ofInt (i / 2)], s, x] else frameB 3 [[UInt8.ofInt h, UInt8.ofInt (i / 2)], x, s]
def pnd (h i : Int) (s x : List UInt8) : List UInt8 := if i % 2 = 1 then nodeB h (i / 2) s x else nodeB h (i / 2) x s
def collR (h i : Int) (x y : List UInt8) : List (List UInt8) → List (List UInt8) → Bool
  | s :: p, t :: q => if collB (pfr h i s x) (pfr h i t y) 16 then true else collR (h + 1) (i / 2) (pnd h i s x) (pnd h i t y) p q
  | _, _ => false
def fitB (h : Int) (ls : List (List UInt8)) : List (List UInt8) := (List.range (2 ^ (h % 4).toNat)).map fun i => ls.getD i [UInt8.ofInt i]
def fewP (ls : List (List UInt8)) : Prop := (∀ l ∈ ls, l.length ≤ 60) ∧ ls.length < 20
instance (ls : List (List UInt8)) : Decidable (fewP ls) := by unfold fewP; infer_instance
theorem getD_upB (h : Int) : ∀ (j : Nat) (i : Int) (ls : List (List UInt8)), 2 * j + 1 < ls.length → (upB h i ls).getD j [] = nodeB h (i + j) (ls.getD (2 * j) []) (ls.getD (2 * j + 1) [])
  | 0, i, l :: r :: t, _ => by simp [upB]
  | j + 1, i, l :: r :: t, hl => by
    simp only [upB, List.getD_cons_succ]
    rw [getD_upB h j (i + 1) t (by simp at hl; omega)]
    rw [show 2 * (j + 1) = 2 * j + 1 + 1 from by omega]
    simp only [List.getD_cons_succ]
    congr 1; omega
  | 0, i, [_], hl => by simp at hl
  | j + 1, i, [_], hl => by simp at hl
  | _, i, [], hl => by simp at hl
theorem pathR_len : ∀ (k : Nat) (h i : Int) (ls : List (List UInt8)), (pathR k h i ls).length = k
  | 0, h, i, ls => rfl
  | k + 1, h, i, ls => by rw [pathR, List.length_cons, pathR_len k]
theorem height_of {n K : Nat} (hK : K ≤ 3) (hn : n = 2 ^ K) : heightB n = K := by
  subst hn
  have : ∀ K : Fin 4, heightB ((2 ^ K.val : Nat) : Int) = ((K.val : Nat) : Int) := by decide
  exact this ⟨K, by omega⟩
theorem root16 {l : List (List UInt8)} {K : Nat} (hK : K ≤ 3) (hl : l.length = 2 ^ K) (h1 : 1 < l.length) : (rootB l).length = 16 := by
  have hh := height_of hK hl
  unfold rootB
  rw [hh, if_neg (by omega), Int.toNat_natCast]
  cases K with
  | zero => simp at hl; omega
  | succ k =>
    have h2 := upN_len k 0 l 1 hl
    rw [upN_succ, getD_upB _ 0 0 _ (by omega)]
    simp [nodeB, sha256_len]
end Go.Ax

namespace Go.Proofs.YtfjcmolccckhhaaGreatDoor
open Go Go.Ax Go.Eng
set_option linter.unusedVariables false
set_option linter.unusedSimpArgs false
attribute [local irreducible] iadd isub imul iquo irem ibit ineg ieq ine ilt ile ishl ishr beq' bnot and' seq' u8op u8rem u32op u64op u8shr u8shl u64shr u64shl u32shr u32shl i64w u8i u64i iu8 iu32 iu64 u8u64 u64u8 u32u8 u64cmp u8cmp u32cmp llen lget linb lset lcut lrep lapp lcpy lemp fits fitn ieqs sealed drawChk fpSame
set_option maxHeartbeats 1000000
set_option maxRecDepth 100000
theorem ev_parent (h i : Int) (l r : List UInt8) (hl : l.length ≤ 1000000) (hr : r.length ≤ 1000000) : Y E0 (.call 272 [.i h, .i i, .sl .u8 l, .sl .u8 r] []) = some (.ret (.sl .u8 (nodeB h i l r)) []) := by
  rw [Y_go]; conv => lhs; whnf
  rw [toReq_call]
  rw [ev_dig_hash _ _ (by rw [frame3_len]; simp; omega) (by simp)]
  conv => lhs; whnf
  rw [ieq_t (by omega)]
  conv => lhs; whnf
  rw [lcut_0 (by (simp only [sha256_len, LL] at * <;> omega))]
  conv => lhs; whnf
  simp only [iu8_eq]; rfl
theorem ev_height_loop (n : Int) : Y E0 (.loop 237 0 0 0 [(0, .i n), (3, .i 0)] []) = (if heightB n < 0 then some (.fin (.exit 0) 0 [] []) else some (.fin .ret 0 [(2, .i (heightB n))] [])) := by
  unfold heightB
  rw [Y_go]; conv => lhs; whnf
  rw [ile_t (by omega)]
  conv => lhs; whnf
  rw [show ishl 1 (iu64 0).toNat = 1 from ishl1 (by decide)]; conv => lhs; whnf
  rcases Bool.eq_false_or_eq_true (ieq n 1) with hc0 | hc0
  · rw [hc0]; replace hc0 := of_ieq_t hc0; try simp only [llen_eq] at hc0
    subst hc0
    conv => lhs; whnf
    simp [*]
  · rw [hc0]; replace hc0 := of_ieq_f hc0; try simp only [llen_eq] at hc0
    conv => lhs; whnf
    rw [iadd_eq (by omega)]
    rw [Y_go]; conv => lhs; whnf
    rw [ile_t (by omega)]
    conv => lhs; whnf
    rw [show ishl 1 (iu64 (0 + 1)).toNat = 2 from ishl1 (by decide)]; conv => lhs; whnf
    rcases Bool.eq_false_or_eq_true (ieq n 2) with hc1 | hc1
    · rw [hc1]; replace hc1 := of_ieq_t hc1; try simp only [llen_eq] at hc1
      subst hc1
      conv => lhs; whnf
      simp [*]
    · rw [hc1]; replace hc1 := of_ieq_f hc1; try simp only [llen_eq] at hc1
      conv => lhs; whnf
      rw [iadd_eq (by omega)]
      rw [Y_go]; conv => lhs; whnf
      rw [ile_t (by omega)]
      conv => lhs; whnf
      rw [show ishl 1 (iu64 (0 + 1 + 1)).toNat = 4 from ishl1 (by decide)]; conv => lhs; whnf
      rcases Bool.eq_false_or_eq_true (ieq n 4) with hc2 | hc2
      · rw [hc2]; replace hc2 := of_ieq_t hc2; try simp only [llen_eq] at hc2
        subst hc2
        conv => lhs; whnf
        simp [*]
      · rw [hc2]; replace hc2 := of_ieq_f hc2; try simp only [llen_eq] at hc2
        conv => lhs; whnf
        rw [iadd_eq (by omega)]
        rw [Y_go]; conv => lhs; whnf
        rw [ile_t (by omega)]
        conv => lhs; whnf
        rw [show ishl 1 (iu64 (0 + 1 + 1 + 1)).toNat = 8 from ishl1 (by decide)]; conv => lhs; whnf
        rcases Bool.eq_false_or_eq_true (ieq n 8) with hc3 | hc3
        · rw [hc3]; replace hc3 := of_ieq_t hc3; try simp only [llen_eq] at hc3
          subst hc3
          conv => lhs; whnf
          simp [*]
        · rw [hc3]; replace hc3 := of_ieq_f hc3; try simp only [llen_eq] at hc3
          conv => lhs; whnf
          rw [iadd_eq (by omega)]
          rw [Y_go]; conv => lhs; whnf
          rw [ile_f (by omega)]
          conv => lhs; whnf
          simp [*]
theorem ev_height (n : Int) : Y E0 (.call 237 [.i n] []) = some (.ret (.i (heightB n)) []) := by
  by_cases h : heightB n < 0
  · have h1 : heightB n = -1 := by unfold heightB at *; repeat' split at h
                                   all_goals first | omega | simp [*]
    rw [Y_go]; conv => lhs; whnf
    rw [toReq_loop]
    rw [ev_height_loop, if_pos h]
    conv => lhs; whnf
    rw [h1]
  · rw [Y_go]; conv => lhs; whnf
    rw [toReq_loop]
    rw [ev_height_loop, if_neg h]
    conv => lhs; whnf
theorem ev_levels_loop1 (O : List (List (List UInt8))) (h : Nat) (ls : List (List UInt8)) (hO : O[h]? = some ls) (hOl : O.length ≤ 10) (hm : ∀ l ∈ ls, l.length ≤ 1000000) (hn : ls.length ≤ 1000) : ∀ (k i : Nat) (acc : List (List UInt8)), ls.length = 2 * i + 2 * k → acc.length ≤ i →
    Y E0 (.loop 238 1 0 2 [(3, .nm 0), (4, .i h), (5, .nm 1), (6, .i i)] [(0, some (.row 29 (.sl (.sl .u8)) O)), (1, some (.row 22 (.sl .u8) acc))]) = some (.fin (.exit 2) 1 [(3, .nm 0), (4, .i h), (5, .sl (.sl .u8) (acc ++ upB h i (ls.drop (2 * i))))] [(0, some (.row 29 (.sl (.sl .u8)) O))])
  | k, i, acc, hi, ha => by
    have hg : lget O (h : Int) = some ls := by rw [lget_nat]; exact hO
    have hh : h < O.length := (List.getElem?_eq_some_iff.1 hO).1
    by_cases hc : 2 * i + 1 < ls.length
    · obtain ⟨k, rfl⟩ : ∃ j, k = j + 1 := ⟨k - 1, by omega⟩
      have h1 := hm _ (List.getElem_mem (l := ls) (n := 2 * i) (by omega))
      have h2 := hm _ (List.getElem_mem (l := ls) (n := 2 * i + 1) (by omega))
      have ih := ev_levels_loop1 O h ls hO hOl hm hn k (i + 1) (acc ++ [nodeB h i ls[2 * i] ls[2 * i + 1]]) (by omega) (by simp; omega)
      rw [drop2 hc, upB]
      rw [List.append_assoc, List.singleton_append] at ih
      rw [Y_go]; conv => lhs; whnf
      rw [linb_t (by omega)]
      conv => lhs; whnf
      rw [hg]; conv => lhs; whnf
      rw [imul_eq (by omega)]
      rw [ilt_t (by (simp only [sha256_len, LL] at * <;> omega))]
      conv => lhs; whnf
      rw [linb_t (by omega)]
      conv => lhs; whnf
      rw [hg]; conv => lhs; whnf
      rw [imul_eq (by omega)]
      rw [lget_i (by omega)]
      conv => lhs; whnf
      rw [linb_t (by omega)]
      conv => lhs; whnf
      rw [hg]; conv => lhs; whnf
      rw [imul_eq (by omega)]
      rw [iadd_eq (by omega)]
      rw [lget_i (by omega)]
      conv => lhs; whnf
      rw [toReq_call]
      rw [ev_parent _ _ _ _ (by assumption) (by assumption)]
      conv => lhs; whnf
      rw [fits_t (by (simp only [sha256_len, LL] at * <;> omega))]
      conv => lhs; whnf
      rw [drw (by kernel_rfl)]; conv => lhs; whnf
      rw [iadd_eq (by omega)]
      refine (congrArg (Y E0) ?_).trans ih; (try simp only [Rq.loop.injEq, Rq.call.injEq, Rq.ops.injEq, List.cons.injEq, Prod.mk.injEq, AV.i.injEq, AV.sl.injEq, AV.st.injEq, AV.b.injEq, AV.u8.injEq, AV.nm.injEq, Option.some.injEq, Rs.row.injEq, Rs.var.injEq, heq_eq_eq, true_and, and_true]); (try (repeat' apply And.intro)); all_goals first | (with_reducible rfl) | omega | (rw [iadd_eq (by omega)]; omega) | (rw [isub_eq (by omega)]; omega) | (rw [lapp_eq]; rfl)
    · rw [upB_one _ _ _ (by rw [List.length_drop]; omega), List.append_nil]
      rw [Y_go]; conv => lhs; whnf
      rw [linb_t (by omega)]
      conv => lhs; whnf
      rw [hg]; conv => lhs; whnf
      rw [imul_eq (by omega)]
      rw [ilt_f (by (simp only [sha256_len, LL] at * <;> omega))]
      conv => lhs; whnf
theorem ev_levels_loop : ∀ (k h : Nat) (pre : List (List (List UInt8))) (cur : List (List UInt8)), k ≤ 3 → pre.length = h → h ≤ 3 → cur.length = 2 ^ k → (∀ l ∈ cur, l.length ≤ 1000000) → h + k ≤ 3 → Y E0 (.loop 238 0 0 1 [(3, .nm 0), (4, .i h)] [(0, some (.row 29 (.sl (.sl .u8)) (pre ++ [cur])))]) = some (.fin (.exit 0) 0 [(3, .sl (.sl (.sl .u8)) (pre ++ levB k h cur))] [])
  | 0, h, pre, cur, hk, hp, hh, hc, hm, hs => by
    have hg := lget_snoc pre cur h (by omega)
    have hpl : (pre ++ [cur]).length = h + 1 := by simp; omega
    rw [levB]
    rw [Y_go]; conv => lhs; whnf
    rw [linb_t (by omega)]
    conv => lhs; whnf
    rw [hg]; conv => lhs; whnf
    rw [ilt_f (by (simp only [sha256_len, LL] at * <;> omega))]
    conv => lhs; whnf
  | k + 1, h, pre, cur, hk, hp, hh, hc, hm, hs => by
    have hg := lget_snoc pre cur h (by omega)
    have hpl : (pre ++ [cur]).length = h + 1 := by simp; omega
    have hc' : cur.length = 2 * 2 ^ k := by rw [hc, Nat.pow_succ]; omega
    have hk1 : 1 ≤ 2 ^ k := Nat.one_le_two_pow
    have hk2 : 2 ^ k ≤ 4 := by
      have := Nat.pow_le_pow_right (n := 2) (by omega) (show k ≤ 2 by omega); simpa using this
    have h1 := ev_levels_loop1 (pre ++ [cur]) h cur (by subst hp; simp) (by omega) hm (by omega) (2 ^ k) 0 [] (by omega) (by simp)
    have ih := ev_levels_loop k (h + 1) (pre ++ [cur]) (upB h 0 cur) (by omega) (by simp; omega) (by omega) (by rw [upB_len _ _ _ _ (Nat.le_refl _)]; omega) (upB_mem h _ 0 cur (Nat.le_refl _)) (by omega)
    rw [List.nil_append, Nat.mul_zero, List.drop_zero, show ((0 : Nat) : Int) = 0 from rfl] at h1
    rw [levB]
    rw [show ((h + 1 : Nat) : Int) = (h : Int) + 1 from by omega] at ih
    simp only [List.append_assoc, List.cons_append, List.nil_append] at ih
    rw [Y_go]; conv => lhs; whnf
    rw [linb_t (by omega)]
    conv => lhs; whnf
    rw [hg]; conv => lhs; whnf
    rw [ilt_t (by (simp only [sha256_len, LL] at * <;> omega))]
    conv => lhs; whnf
    rw [toReq_loop]
    rw [h1]
    conv => lhs; whnf
    rw [fits_t (by (simp only [sha256_len, LL] at * <;> omega))]
    conv => lhs; whnf
    rw [iadd_eq (by omega)]
    refine (congrArg (Y E0) ?_).trans ih; (try simp only [Rq.loop.injEq, Rq.call.injEq, Rq.ops.injEq, List.cons.injEq, Prod.mk.injEq, AV.i.injEq, AV.sl.injEq, AV.st.injEq, AV.b.injEq, AV.u8.injEq, AV.nm.injEq, Option.some.injEq, Rs.row.injEq, Rs.var.injEq, heq_eq_eq, true_and, and_true]); (try (repeat' apply And.intro)); all_goals first | (with_reducible rfl) | omega | (rw [iadd_eq (by omega)]; omega) | (rw [isub_eq (by omega)]; omega) | (rw [lapp_eq, List.append_assoc]; rfl)
theorem ev_levels (k : Nat) (ls : List (List UInt8)) (hk : k ≤ 3) (hl : ls.length = 2 ^ k) (hm : ∀ l ∈ ls, l.length ≤ 1000000) : Y E0 (.call 238 [.sl (.sl .u8) ls] []) = some (.ret (.sl (.sl (.sl .u8)) (levB k 0 ls)) []) := by
  have h0 := ev_levels_loop k 0 [] ls hk rfl (by omega) hl hm (by omega)
  rw [List.nil_append, List.nil_append, show ((0 : Nat) : Int) = 0 from rfl] at h0
  rw [Y_go]; conv => lhs; whnf
  rw [toReq_loop]
  rw [h0]
  conv => lhs; whnf
theorem ev_troot (ls : List (List UInt8)) (hm : ∀ l ∈ ls, l.length ≤ 1000000) (hn : ls.length ≤ 1000) : Y E0 (.call 224 [.sl (.sl .u8) ls] []) = some (.ret (.sl .u8 (rootB ls)) []) := by
  by_cases h : heightB ls.length < 0
  · rw [Y_go]; conv => lhs; whnf
    rw [toReq_call]
    rw [ev_height _]
    conv => lhs; whnf
    rw [ilt_t (by (simp only [sha256_len, LL] at * <;> omega))]
    conv => lhs; whnf
    unfold rootB; (repeat (first | rw [if_pos (by first | omega | decide | assumption | (simp only [sha256_len, LL] at * <;> omega) | (simp; omega))] | rw [if_neg (by first | omega | decide | assumption | (simp only [sha256_len, LL] at * <;> omega) | (simp; omega))])); try simp only [NO]
  · obtain ⟨k, hk, hk2, hk3⟩ := height_pow ls.length h
    have hlv := ev_levels k ls hk hk3 hm
    have hg : lget (levB k 0 ls) (k : Int) = some (upN k 0 ls) := by rw [lget_nat]; exact levB_get k 0 ls k (Nat.le_refl _)
    have hln := upN_len k 0 ls 0 hk3
    have hx := upN_mem k 0 ls hm _ (List.getElem_mem (l := upN k 0 ls) (n := 0) (by omega))
    rw [Y_go]; conv => lhs; whnf
    rw [toReq_call]
    rw [llen_eq, ev_height, hk2]
    conv => lhs; whnf
    rw [ilt_f (by omega)]
    conv => lhs; whnf
    rw [toReq_call]
    rw [hlv]
    conv => lhs; whnf
    rw [hg]; conv => lhs; whnf
    rw [lget_i (by omega)]; conv => lhs; whnf
    rw [fits_t (by (simp; omega))]
    conv => lhs; whnf
    unfold rootB; rw [hk2, if_neg (by omega)]; simp [lapp_eq, List.getD, hln]
end Go.Proofs.YtfjcmolccckhhaaGreatDoor

namespace Go.Proofs.YtfjcmolccckhhaaGreatDoor
open Go Go.Ax Go.Eng
set_option linter.unusedVariables false
set_option linter.unusedSimpArgs false
attribute [local irreducible] iadd isub imul iquo irem ibit ineg ieq ine ilt ile ishl ishr beq' bnot and' seq' u8op u8rem u32op u64op u8shr u8shl u64shr u64shl u32shr u32shl i64w u8i u64i iu8 iu32 iu64 u8u64 u64u8 u32u8 u64cmp u8cmp u32cmp llen lget linb lset lcut lrep lapp lcpy lemp fits fitn ieqs sealed drawChk fpSame
set_option maxHeartbeats 1000000
set_option maxRecDepth 100000
theorem ev_tpath_loop (ls : List (List UInt8)) (k : Nat) (hk : k ≤ 3) (hl : ls.length = 2 ^ k) (hm : ∀ l ∈ ls, l.length ≤ 1000000) (i : Int) (hi : 0 ≤ i ∧ i < ls.length) : ∀ (n j : Nat) (acc : List (List UInt8)), j + n = k → acc.length ≤ j →
    Y E0 (.loop 188 0 0 1 [(0, .i i), (6, .nm 0), (27, .sl (.sl (.sl .u8)) ((levB k 0 ls).take k)), (28, .i k), (29, .i j)] [(0, some (.row 22 (.sl .u8) acc))]) = some (.fin (.exit 0) 0 [(6, .sl (.sl .u8) (acc ++ pathR n j (i / 2 ^ j) (upN j 0 ls)))] [])
  | 0, j, acc, hj, ha => by
    rw [pathR, List.append_nil]
    rw [Y_go]; conv => lhs; whnf
    rw [ilt_f (by omega)]
    conv => lhs; whnf
  | n + 1, j, acc, hj, ha => by
    have hun := upN_len j 0 ls (n + 1) (by rw [hl, ← hj])
    have hn2 : 2 ^ (n + 1) = 2 * 2 ^ n := by rw [Nat.pow_succ]; omega
    have hn1 : 1 ≤ 2 ^ n := Nat.one_le_two_pow
    have hn8 : 2 ^ (n + 1) ≤ 8 := by
      have := Nat.pow_le_pow_right (n := 2) (by omega) (show n + 1 ≤ 3 by omega); simpa using this
    have hij : 0 ≤ i / 2 ^ j ∧ i / 2 ^ j < ((2 ^ (n + 1) : Nat) : Int) := by
      refine ⟨Int.ediv_nonneg hi.1 (Int.pow_nonneg (by omega)), Int.ediv_lt_of_lt_mul (Int.pow_pos (by omega)) ?_⟩
      have : (ls.length : Int) = ((2 ^ (n + 1) : Nat) : Int) * 2 ^ j := by rw [hl, ← hj, Nat.add_comm, Nat.pow_add]; simp
      omega
    have hdd : i / 2 ^ (j + 1) = i / 2 ^ j / 2 := by rw [Int.pow_succ, Int.ediv_ediv_of_nonneg (Int.pow_nonneg (by omega))]
    have hsh : ishr i (iu64 (j : Int)).toNat = i / 2 ^ j := by rw [iu64_eq, u64_ofInt (by omega), ishr_eq (by omega)]; simp
    have hus := upN_succ j 0 ls
    rw [Int.zero_add] at hus
    have hg : lget ((levB k 0 ls).take k) (j : Int) = some (upN j 0 ls) := by rw [lget_nat, List.getElem?_take_of_lt (by omega)]; exact levB_get k 0 ls j (by omega)
    have hllen : ((levB k 0 ls).take k).length = k := by rw [List.length_take, levB_len]; omega
    have ih := ev_tpath_loop ls k hk hl hm i hi n (j + 1) (acc ++ [(upN j 0 ls).getD (sib (i / 2 ^ j)).toNat []]) (by omega) (by simp; omega)
    rw [hdd, hus, show ((j + 1 : Nat) : Int) = (j : Int) + 1 from by omega] at ih
    simp only [List.append_assoc, List.cons_append, List.nil_append] at ih
    have hmu := upN_mem j 0 ls hm
    generalize i / 2 ^ j = z at *
    generalize upN j 0 ls = us at *
    have hx := sib_xor (i := z) (by omega)
    have hsb : 0 ≤ sib z ∧ sib z < us.length := by unfold sib; split <;> omega
    have hx1 := hmu _ (List.getElem_mem (l := us) (n := (sib z).toNat) (by omega))
    have hgd : us.getD (sib z).toNat [] = us[(sib z).toNat]'(by omega) := by simp [List.getD, show (sib z).toNat < us.length by omega]
    rw [pathR, hgd]
    rw [hgd] at ih
    rw [Y_go]; conv => lhs; whnf
    rw [ilt_t (by omega)]
    conv => lhs; whnf
    rw [hg]; conv => lhs; whnf
    rw [hsh, hx]; conv => lhs; whnf
    rw [lget_i (by omega)]
    conv => lhs; whnf
    rw [fits_t (by omega)]
    conv => lhs; whnf
    rw [fits_t (by (simp only [sha256_len, LL] at * <;> omega))]
    conv => lhs; whnf
    rw [iadd_eq (by omega)]
    refine (congrArg (Y E0) ?_).trans ih; (try simp only [Rq.loop.injEq, Rq.call.injEq, Rq.ops.injEq, List.cons.injEq, Prod.mk.injEq, AV.i.injEq, AV.sl.injEq, AV.st.injEq, AV.b.injEq, AV.u8.injEq, AV.nm.injEq, Option.some.injEq, Rs.row.injEq, Rs.var.injEq, heq_eq_eq, true_and, and_true]); (try (repeat' apply And.intro)); all_goals first | (with_reducible rfl) | omega | (rw [iadd_eq (by omega)]; omega) | (rw [isub_eq (by omega)]; omega) | (simp only [lapp_eq, List.nil_append])
theorem ev_tpath (i : Int) (ls : List (List UInt8)) (hm : ∀ l ∈ ls, l.length ≤ 1000000) (hn : ls.length ≤ 1000) : Y E0 (.call 188 [.i i, .sl (.sl .u8) ls] []) = some (.ret (.sl (.sl .u8) (pathB i ls)) []) := by
  by_cases h : heightB ls.length < 0
  · rw [Y_go]; conv => lhs; whnf
    rw [toReq_call]
    rw [llen_eq, ev_height]
    conv => lhs; whnf
    rw [ilt_t (by omega)]
    conv => lhs; whnf
    unfold pathB; (repeat (first | rw [if_pos (by first | omega | decide | assumption | (simp only [sha256_len, LL] at * <;> omega) | (simp; omega))] | rw [if_neg (by first | omega | decide | assumption | (simp only [sha256_len, LL] at * <;> omega) | (simp; omega))])); try simp only [NO]
  · obtain ⟨k, hk, hk2, hk3⟩ := height_pow ls.length h
    have hlv := ev_levels k ls hk hk3 hm
    have hll := levB_len k 0 ls
    have hc : lcut (levB k 0 ls) 0 (k : Int) = some ((levB k 0 ls).take k) := by rw [lcut_0 (by omega)]; simp
    have hlt : llen ((levB k 0 ls).take k) = (k : Int) := by rw [llen_eq, List.length_take, hll]; omega
    rw [Y_go]; conv => lhs; whnf
    rw [toReq_call]
    rw [llen_eq, ev_height, hk2]
    conv => lhs; whnf
    rw [ilt_f (by omega)]
    conv => lhs; whnf
    rcases Bool.eq_false_or_eq_true (ilt i 0) with hc0 | hc0
    · rw [hc0]; replace hc0 := of_ilt_t hc0; try simp only [llen_eq] at hc0
      conv => lhs; whnf
      unfold pathB; rw [hk2]; (repeat (first | rw [if_pos (by first | omega | decide | assumption | (simp only [sha256_len, LL] at * <;> omega) | (simp; omega))] | rw [if_neg (by first | omega | decide | assumption | (simp only [sha256_len, LL] at * <;> omega) | (simp; omega))])); try rfl
    · rw [hc0]; replace hc0 := of_ilt_f hc0; try simp only [llen_eq] at hc0
      conv => lhs; whnf
      rcases Bool.eq_false_or_eq_true (ile (llen ls) i) with hc1 | hc1
      · rw [hc1]; replace hc1 := of_ile_t hc1; try simp only [llen_eq] at hc1
        conv => lhs; whnf
        unfold pathB; rw [hk2]; (repeat (first | rw [if_pos (by first | omega | decide | assumption | (simp only [sha256_len, LL] at * <;> omega) | (simp; omega))] | rw [if_neg (by first | omega | decide | assumption | (simp only [sha256_len, LL] at * <;> omega) | (simp; omega))])); try rfl
      · rw [hc1]; replace hc1 := of_ile_f hc1; try simp only [llen_eq] at hc1
        conv => lhs; whnf
        rw [toReq_call]
        rw [hlv]
        conv => lhs; whnf
        rw [hc]; conv => lhs; whnf
        rw [toReq_loop]
        have h0 := ev_tpath_loop ls k hk hk3 hm i (by omega) k 0 [] (by omega) (by simp); rw [show ((0 : Nat) : Int) = 0 from rfl, Int.pow_zero, Int.ediv_one, upN, List.nil_append] at h0; rw [hlt, h0]
        conv => lhs; whnf
        unfold pathB; rw [hk2]; (repeat (first | rw [if_pos (by first | omega | decide | assumption | (simp only [sha256_len, LL] at * <;> omega) | (simp; omega))] | rw [if_neg (by first | omega | decide | assumption | (simp only [sha256_len, LL] at * <;> omega) | (simp; omega))])); try rfl
end Go.Proofs.YtfjcmolccckhhaaGreatDoor

namespace Go.Ax
open Go Go.Eng Go.RowKit
set_option linter.unusedVariables false
set_option linter.unusedSimpArgs false
def signerL : List UInt8 := [115, 105, 103, 110, 101, 114]
def lsB (seed : List UInt8) (h : Int) : List UInt8 := derB seed signerL [UInt8.ofInt h] 32
def lvB (seed : List UInt8) (k : Nat) : List (List UInt8) := (List.range (2 ^ k)).map fun (i : Nat) => publicB (lsB seed k) i
def pubK (seed : List UInt8) (h : Int) : List UInt8 := if 0 ≤ h ∧ h ≤ 3 then UInt8.ofInt h :: rootB (lvB seed h.toNat) else []
def sigK (seed : List UInt8) (h leaf : Int) (m : List UInt8) : List UInt8 :=
  if (0 ≤ h ∧ h ≤ 3) ∧ 0 ≤ leaf ∧ leaf < (2 : Int) ^ h.toNat then UInt8.ofInt leaf :: (signB (lsB seed h) leaf m ++ (pathB leaf (lvB seed h.toNat)).flatten) else []
def chunkB : Nat → List UInt8 → List (List UInt8)
  | 0, _ => []
  | k + 1, s => s.take 16 :: chunkB k (s.drop 16)
def formK (p s : List UInt8) : Prop := p.length = 17 ∧ (p.getD 0 0).toNat ≤ 3 ∧ s.length = 561 + 16 * (p.getD 0 0).toNat ∧ (s.getD 0 0).toNat < 2 ^ (p.getD 0 0).toNat
instance (p s : List UInt8) : Decidable (formK p s) := by unfold formK; exact inferInstance
def rootK (p m s : List UInt8) : List UInt8 := climbB (recB (s.getD 0 0).toNat m ((s.drop 1).take 560)).1 (s.getD 0 0).toNat (chunkB (p.getD 0 0).toNat (s.drop 561))
def verK (p m s : List UInt8) : Int × Bool := if formK p s ∧ rootK p m s = p.drop 1 then (((s.getD 0 0).toNat : Int), true) else (0, false)
theorem lsB_len (seed : List UInt8) (h : Int) : (lsB seed h).length = 32 := derB_len (by omega)
theorem lvB_len (seed : List UInt8) (k : Nat) : (lvB seed k).length = 2 ^ k := by simp [lvB]
theorem pow_le8 {k : Nat} (h : k ≤ 3) : 1 ≤ 2 ^ k ∧ 2 ^ k ≤ 8 := ⟨Nat.one_le_two_pow, Nat.le_trans (Nat.pow_le_pow_right (by omega) h) (by decide)⟩
theorem pow_int (k : Nat) : (2 : Int) ^ k = ((2 ^ k : Nat) : Int) := by simp
theorem public16 {seed : List UInt8} {i : Int} (h : 0 ≤ i ∧ i ≤ 255) : (publicB seed i).length = 16 := by rw [publicB, if_pos h, valueB_len]
theorem lvB_16 {seed : List UInt8} {k : Nat} (hk : k ≤ 3) : ∀ x ∈ lvB seed k, x.length = 16 := by
  intro x hx
  have := pow_le8 hk
  simp only [lvB, List.mem_map, List.mem_range] at hx
  obtain ⟨i, hi, rfl⟩ := hx
  exact public16 (by omega)
theorem lvB_mem {seed : List UInt8} {k : Nat} (hk : k ≤ 3) : ∀ x ∈ lvB seed k, x.length ≤ 1000000 := fun x hx => by rw [lvB_16 hk x hx]; decide
theorem lvB_n {seed : List UInt8} {k : Nat} (hk : k ≤ 3) : (lvB seed k).length ≤ 1000 := by rw [lvB_len]; have := pow_le8 hk; omega
theorem lvB_get {seed : List UInt8} {k i : Nat} (hi : i < 2 ^ k) : (lvB seed k).getD i [] = publicB (lsB seed k) i := by
  rw [List.getD, List.getElem?_eq_getElem (by rw [lvB_len]; exact hi)]; simp [lvB]
theorem node16 (h i : Int) (l r : List UInt8) : (nodeB h i l r).length = 16 := by simp [nodeB, sha256_len]
theorem upB_16 (h : Int) : ∀ (n : Nat) (i : Int) (ls : List (List UInt8)), ls.length ≤ n → ∀ x ∈ upB h i ls, x.length = 16
  | 0, i, ls, hl => by rw [upB_one _ _ _ (by omega)]; intro x hx; cases hx
  | n + 1, i, [], _ => by intro x hx; cases hx
  | n + 1, i, [_], _ => by intro x hx; cases hx
  | n + 1, i, l :: r :: t, hl => by
    intro x hx
    simp only [upB, List.mem_cons] at hx
    rcases hx with rfl | hx
    · exact node16 _ _ _ _
    · exact upB_16 h n (i + 1) t (by simp at hl; omega) x hx
theorem pathR_16 : ∀ (k : Nat) (h i : Int) (ls : List (List UInt8)), ls.length = 2 ^ k → 0 ≤ i → i < ls.length → (∀ l ∈ ls, l.length = 16) → ∀ l ∈ pathR k h i ls, l.length = 16
  | 0, h, i, ls, _, _, _, hm, l, hl => by cases hl
  | k + 1, h, i, ls, hn, h0, hi, hm, l, hl => by
    rw [pathR] at hl
    have hu : (upB h 0 ls).length = 2 ^ k := by rw [upB_len h _ 0 ls (Nat.le_refl _), hn, Nat.pow_succ]; omega
    have h2 : (ls.length : Int) = 2 * (2 ^ k : Nat) := by rw [hn, Nat.pow_succ]; omega
    rcases List.mem_cons.1 hl with rfl | hl
    · have hs : (sib i).toNat < ls.length := by unfold sib; split <;> omega
      simp only [List.getD, List.getElem?_eq_getElem hs, Option.getD_some]; exact hm _ (List.getElem_mem hs)
    · exact pathR_16 k (h + 1) (i / 2) _ hu (by omega) (by rw [hu]; omega) (upB_16 h _ 0 ls (Nat.le_refl _)) l hl
theorem path_of {seed : List UInt8} {k : Nat} {i : Int} (hk : k ≤ 3) (h0 : 0 ≤ i) (hi : i < (2 : Int) ^ k) : (pathB i (lvB seed k)).length = k ∧ ∀ l ∈ pathB i (lvB seed k), l.length = 16 := by
  have hl := lvB_len seed k
  have hh := height_of hk hl
  rw [pow_int] at hi
  have hp : pathB i (lvB seed k) = pathR k 0 i (lvB seed k) := by unfold pathB; rw [hh, if_neg (by rw [hl]; omega), Int.toNat_natCast]
  rw [hp]
  exact ⟨pathR_len _ _ _ _, pathR_16 k 0 i _ hl h0 (by rw [hl]; exact hi) (lvB_16 hk)⟩
theorem root_16 {seed : List UInt8} {k : Nat} (hk : k ≤ 3) : (rootB (lvB seed k)).length = 16 := by
  have hl := lvB_len seed k
  rcases Nat.eq_zero_or_pos k with rfl | hp
  · have hh := height_of hk hl
    unfold rootB
    rw [hh, if_neg (by omega), show ((0 : Nat) : Int).toNat = 0 from rfl, upN, lvB_get (by simp)]
    exact public16 (by omega)
  · exact root16 hk hl (by rw [hl]; exact Nat.one_lt_two_pow (by omega))
theorem pubK_len {seed : List UInt8} {h : Int} (hh : 0 ≤ h ∧ h ≤ 3) : (pubK seed h).length = 17 := by
  rw [pubK, if_pos hh, List.length_cons, root_16 (by omega)]
theorem pubK_le (seed : List UInt8) (h : Int) : (pubK seed h).length ≤ 17 := by
  by_cases hh : 0 ≤ h ∧ h ≤ 3
  · rw [pubK_len hh]; exact Nat.le_refl _
  · rw [pubK, if_neg hh]; simp
theorem chunk_len : ∀ (k : Nat) (s : List UInt8), (chunkB k s).length = k
  | 0, _ => rfl
  | k + 1, s => by rw [chunkB, List.length_cons, chunk_len k]
end Go.Ax

namespace Go.Proofs.YtfjcmolccckhhaaGreatDoor
open Go Go.Ax Go.Eng
set_option linter.unusedVariables false
set_option linter.unusedSimpArgs false
attribute [local irreducible] iadd isub imul iquo irem ibit ineg ieq ine ilt ile ishl ishr beq' bnot and' seq' u8op u8rem u32op u64op u8shr u8shl u64shr u64shl u32shr u32shl i64w u8i u64i iu8 iu32 iu64 u8u64 u64u8 u32u8 u64cmp u8cmp u32cmp llen lget linb lset lcut lrep lapp lcpy lemp fits fitn ieqs sealed drawChk fpSame
attribute [local irreducible] lsB lvB pubK sigK publicB signB recB rootB pathB climbB chunkB
set_option maxHeartbeats 4000000
set_option maxRecDepth 100000
theorem ev_svalid (h : Int) : Y E0 (.call 185 [.i h] []) = some (.ret (.b (decide (0 ≤ h ∧ h ≤ 3))) []) := by
  rw [Y_go]; conv => lhs; whnf
  rcases Bool.eq_false_or_eq_true (ile 0 h) with hc0 | hc0
  · rw [hc0]; replace hc0 := of_ile_t hc0; try simp only [llen_eq] at hc0
    conv => lhs; whnf
    exact congrArg (fun b => some (Rsp.ret (AV.b b) [])) (by rw [ile_eq]; apply decide_eq_decide.2; omega)
  · rw [hc0]; replace hc0 := of_ile_f hc0; try simp only [llen_eq] at hc0
    conv => lhs; whnf
    rw [decide_eq_false (by omega)]
theorem ev_lseed (seed : List UInt8) (h : Int) (hs : seed.length ≤ 1000000) : Y E0 (.call 187 [.sl .u8 seed, .i h] []) = some (.ret (.sl .u8 (lsB seed h)) []) := by
  rw [Y_go]; conv => lhs; whnf
  dsimp -iota -beta -eta -zeta only
  rw [toReq_call]
  rw [show strOf { data := #[115, 105, 103, 110, 101, 114] } = signerL from rfl, ev_derive _ _ _ _ (by omega) (by decide) (by simp), iu8_eq]
  conv => lhs; whnf
  (unfold lsB; rfl)
theorem ev_leaves_loop (seed : List UInt8) (k N : Nat) (hk : k ≤ 3) (hN : N = 2 ^ k) : ∀ (n j : Nat), j + n = N → Y E0 (.loop 189 0 0 1 [(5, .sl .u8 (lsB seed k)), (6, .nm 0), (13, .i (N : Int)), (14, .i (j : Int))] [(0, some (.row 22 (.sl .u8) ((lvB seed k).take j)))]) = some (.fin (.exit 0) 0 [(6, .sl (.sl .u8) (lvB seed k))] [])
  | 0, j, hj => by
    have hl := lvB_len seed k
    rw [List.take_of_length_le (by omega)]
    rw [Y_go]; conv => lhs; whnf
    rw [ilt_f (by omega)]
    conv => lhs; whnf
  | n + 1, j, hj => by
    have h8 := pow_le8 hk
    have hl := lvB_len seed k
    have ih := ev_leaves_loop seed k N hk hN n (j + 1) (by omega)
    have ht : (lvB seed k).take j ++ [publicB (lsB seed k) j] = (lvB seed k).take (j + 1) := by
      have hg := lvB_get (seed := seed) (k := k) (i := j) (by omega)
      rw [List.getD, List.getElem?_eq_getElem (by omega), Option.getD_some] at hg
      rw [List.take_succ_eq_append_getElem (by omega), hg]
    have hs := lsB_len seed k
    rw [Y_go]; conv => lhs; whnf
    rw [ilt_t (by omega)]
    conv => lhs; whnf
    dsimp -iota -beta -eta -zeta only
    rw [toReq_call]
    rw [ev_public _ _ (by omega)]
    conv => lhs; whnf
    rw [fits_t (by (simp only [sha256_len, lsB_len, lvB_len, chunk_len, LL] at * <;> omega))]
    conv => lhs; whnf
    dsimp -iota -beta -eta -zeta only
    rw [iadd_eq (by omega)]
    refine (congrArg (Y E0) ?_).trans ih; (try simp only [Rq.loop.injEq, Rq.call.injEq, Rq.ops.injEq, List.cons.injEq, Prod.mk.injEq, AV.i.injEq, AV.sl.injEq, AV.st.injEq, AV.b.injEq, AV.u8.injEq, AV.nm.injEq, Option.some.injEq, Rs.row.injEq, Rs.var.injEq, heq_eq_eq, true_and, and_true]); (try (repeat' apply And.intro)); all_goals first | (with_reducible rfl) | omega | (rw [iadd_eq (by omega)]; omega) | (rw [isub_eq (by omega)]; omega) | (rw [lapp_eq]; exact ht)
theorem ev_leaves (seed : List UInt8) (k : Nat) (hk : k ≤ 3) (hs : seed.length ≤ 1000000) : Y E0 (.call 189 [.sl .u8 seed, .i (k : Int)] []) = some (.ret (.sl (.sl .u8) (lvB seed k)) []) := by
  have hsh : ishl 1 (iu64 (k : Int)).toNat = ((2 ^ k : Nat) : Int) := by rw [ishl1n (by omega), pow_int]
  have hl := ev_leaves_loop seed k _ hk rfl (2 ^ k) 0 (by omega)
  rw [List.take_zero, show ((0 : Nat) : Int) = 0 from rfl] at hl
  rw [Y_go]; conv => lhs; whnf
  dsimp -iota -beta -eta -zeta only
  rw [toReq_call]
  rw [ev_lseed _ _ (by omega)]
  conv => lhs; whnf
  dsimp -iota -beta -eta -zeta only
  rw [toReq_loop]
  rw [hsh, hl]
  conv => lhs; whnf
theorem ev_spub (seed : List UInt8) (h : Int) (hs : seed.length ≤ 1000000) : Y E0 (.call 180 [.sl .u8 seed, .i h] []) = some (.ret (.sl .u8 (pubK seed h)) []) := by
  by_cases hh : 0 ≤ h ∧ h ≤ 3
  · obtain ⟨k, rfl⟩ : ∃ k : Nat, h = k := ⟨h.toNat, by omega⟩
    have hk : k ≤ 3 := by omega
    have hr := root_16 (seed := seed) hk
    rw [Y_go]; conv => lhs; whnf
    dsimp -iota -beta -eta -zeta only
    rw [toReq_call]
    rw [ev_svalid, decide_eq_true hh]
    conv => lhs; whnf
    rw [bnot_eq]; conv => lhs; whnf
    dsimp -iota -beta -eta -zeta only
    rw [toReq_call]
    rw [ev_leaves _ _ hk hs]
    conv => lhs; whnf
    dsimp -iota -beta -eta -zeta only
    rw [toReq_call]
    rw [ev_troot _ (lvB_mem hk) (lvB_n hk)]
    conv => lhs; whnf
    rw [fits_t (by (simp only [sha256_len, lsB_len, lvB_len, chunk_len, LL] at * <;> omega))]
    conv => lhs; whnf
    (rw [pubK, if_pos hh, Int.toNat_natCast, lapp_eq, iu8_eq]; rfl)
  · rw [Y_go]; conv => lhs; whnf
    dsimp -iota -beta -eta -zeta only
    rw [toReq_call]
    rw [ev_svalid, decide_eq_false hh]
    conv => lhs; whnf
    rw [bnot_eq]; conv => lhs; whnf
    (rw [pubK, if_neg hh])
theorem ev_ssign_loop (P : List (List UInt8)) (hP : ∀ l ∈ P, l.length = 16) (hn : P.length ≤ 3) : ∀ (n j : Nat) (acc : List UInt8), j + n = P.length → acc.length ≤ 1000 + 16 * j → Y E0 (.loop 129 0 0 1 [(9, .nm 0), (40, .sl (.sl .u8) P), (41, .i P.length), (42, .i (j : Int))] [(0, some (.row 5 .u8 acc))]) = some (.fin (.exit 0) 0 [(9, .sl .u8 (acc ++ (P.drop j).flatten))] [])
  | 0, j, acc, hj, ha => by
    rw [List.drop_eq_nil_of_le (by omega), List.flatten_nil, List.append_nil]
    rw [Y_go]; conv => lhs; whnf
    rw [ilt_f (by omega)]
    conv => lhs; whnf
  | n + 1, j, acc, hj, ha => by
    have hx := hP _ (List.getElem_mem (l := P) (n := j) (by omega))
    have hg : lget P (j : Int) = some (P[j]'(by omega)) := lget_n (by omega)
    have ih := ev_ssign_loop P hP hn n (j + 1) (acc ++ P[j]'(by omega)) (by omega) (by rw [List.length_append]; omega)
    have hd := List.drop_eq_getElem_cons (l := P) (i := j) (by omega)
    rw [List.append_assoc, ← List.flatten_cons, ← hd] at ih
    clear hd
    rw [Y_go]; conv => lhs; whnf
    rw [ilt_t (by omega)]
    conv => lhs; whnf
    rw [hg]; conv => lhs; whnf
    rw [fits_t (by (simp only [sha256_len, lsB_len, lvB_len, chunk_len, LL] at * <;> omega))]
    conv => lhs; whnf
    dsimp -iota -beta -eta -zeta only
    rw [iadd_eq (by omega)]
    refine (congrArg (Y E0) ?_).trans ih; (try simp only [Rq.loop.injEq, Rq.call.injEq, Rq.ops.injEq, List.cons.injEq, Prod.mk.injEq, AV.i.injEq, AV.sl.injEq, AV.st.injEq, AV.b.injEq, AV.u8.injEq, AV.nm.injEq, Option.some.injEq, Rs.row.injEq, Rs.var.injEq, heq_eq_eq, true_and, and_true]); (try (repeat' apply And.intro)); all_goals first | (with_reducible rfl) | omega | (rw [iadd_eq (by omega)]; omega) | (rw [isub_eq (by omega)]; omega) | rw [lapp_eq]
theorem ev_ssign (seed : List UInt8) (h leaf : Int) (m : List UInt8) (hs : seed.length ≤ 1000000) (hm : m.length ≤ 1000000) : Y E0 (.call 129 [.sl .u8 seed, .i h, .i leaf, .sl .u8 m] []) = some (.ret (.sl .u8 (sigK seed h leaf m)) []) := by
  by_cases hh : 0 ≤ h ∧ h ≤ 3
  · obtain ⟨k, rfl⟩ : ∃ k : Nat, h = k := ⟨h.toNat, by omega⟩
    have hk : k ≤ 3 := by omega
    have h8 := pow_le8 hk
    have hsh : ishl 1 (iu64 (k : Int)).toNat = ((2 ^ k : Nat) : Int) := by rw [ishl1n (by omega), pow_int]
    have hl := lsB_len seed k
    by_cases hc : 0 ≤ leaf ∧ leaf < ((2 ^ k : Nat) : Int)
    · have hsb := signB_len (seed := lsB seed k) (m := m) (leaf := leaf) (by omega)
      obtain ⟨p1, p2⟩ := path_of (seed := seed) (k := k) (i := leaf) hk (by omega) (by rw [pow_int]; omega)
      have hlp := ev_ssign_loop _ p2 (by omega) (pathB leaf (lvB seed k)).length 0 (lapp [iu8 leaf] (signB (lsB seed k) leaf m)) (by omega) (by rw [lapp_eq, List.length_append, hsb]; simp)
      rw [List.drop_zero, show ((0 : Nat) : Int) = 0 from rfl] at hlp
      rw [Y_go]; conv => lhs; whnf
      dsimp -iota -beta -eta -zeta only
      rw [toReq_call]
      rw [ev_svalid, decide_eq_true hh]
      conv => lhs; whnf
      rw [bnot_eq]; conv => lhs; whnf
      rw [ilt_f (by omega)]
      conv => lhs; whnf
      rw [hsh]; conv => lhs; whnf
      rw [ile_f (by omega)]
      conv => lhs; whnf
      dsimp -iota -beta -eta -zeta only
      rw [toReq_call]
      rw [ev_lseed _ _ (by omega)]
      conv => lhs; whnf
      dsimp -iota -beta -eta -zeta only
      rw [toReq_call]
      rw [ev_sign _ _ _ (by omega) (by omega)]
      conv => lhs; whnf
      rw [fits_t (by (simp only [sha256_len, lsB_len, lvB_len, chunk_len, LL] at * <;> omega))]
      conv => lhs; whnf
      dsimp -iota -beta -eta -zeta only
      rw [toReq_call]
      rw [ev_leaves _ _ hk hs]
      conv => lhs; whnf
      dsimp -iota -beta -eta -zeta only
      rw [toReq_call]
      rw [ev_tpath _ _ (lvB_mem hk) (lvB_n hk)]
      conv => lhs; whnf
      dsimp -iota -beta -eta -zeta only
      rw [toReq_loop]
      rw [llen_eq, hlp]
      conv => lhs; whnf
      (rw [sigK, if_pos ⟨hh, by rw [Int.toNat_natCast, pow_int]; exact hc⟩, Int.toNat_natCast, lapp_eq, iu8_eq]; rfl)
    · rw [Y_go]; conv => lhs; whnf
      dsimp -iota -beta -eta -zeta only
      rw [toReq_call]
      rw [ev_svalid, decide_eq_true hh]
      conv => lhs; whnf
      rw [bnot_eq]; conv => lhs; whnf
      rcases Bool.eq_false_or_eq_true (ilt leaf 0) with hc0 | hc0
      · rw [hc0]; replace hc0 := of_ilt_t hc0; try simp only [llen_eq] at hc0
        conv => lhs; whnf
        (rw [sigK, if_neg (by rw [Int.toNat_natCast, pow_int]; omega)])
      · rw [hc0]; replace hc0 := of_ilt_f hc0; try simp only [llen_eq] at hc0
        conv => lhs; whnf
        rw [hsh]; conv => lhs; whnf
        rw [ile_t (by omega)]
        conv => lhs; whnf
        (rw [sigK, if_neg (by rw [Int.toNat_natCast, pow_int]; omega)])
  · rw [Y_go]; conv => lhs; whnf
    dsimp -iota -beta -eta -zeta only
    rw [toReq_call]
    rw [ev_svalid, decide_eq_false hh]
    conv => lhs; whnf
    rw [bnot_eq]; conv => lhs; whnf
    (rw [sigK, if_neg (by omega)])
end Go.Proofs.YtfjcmolccckhhaaGreatDoor

namespace Go.Ax
def seedB (b : List UInt8) : List UInt8 := b.take 32 ++ (List.replicate 32 0).drop b.length
theorem seedB_len (b : List UInt8) : (seedB b).length = 32 := by simp [seedB]; omega
end Go.Ax
namespace Go.Proofs.YtfjcmolccckhhaaGreatDoor
open Go Go.Ax
set_option linter.unusedVariables false
set_option linter.unusedSimpArgs false
attribute [local irreducible] iadd isub imul iquo irem ibit ineg ieq ine ilt ile ishl ishr beq' bnot and' seq' u8op u8rem u32op u64op u8shr u8shl u64shr u64shl u32shr u32shl i64w u8i u64i iu8 iu32 iu64 u8u64 u64u8 u32u8 u64cmp u8cmp u32cmp llen lget linb lset lcut lrep lapp lcpy lemp fits fitn ieqs sealed drawChk fpSame
set_option maxHeartbeats 1000000
set_option maxRecDepth 100000
theorem ev_seed (b : List UInt8) : Y E0 (.call 23 [.sl .u8 b] []) = some (.ret (.sl .u8 (seedB b)) []) := by
  rw [Y_go]; conv => lhs; whnf
  rw [fitn_t (by omega)]
  conv => lhs; whnf
  rw [ieq_t (by omega)]
  conv => lhs; whnf
  rw [lcpy_eq, lrep_eq]; rfl
end Go.Proofs.YtfjcmolccckhhaaGreatDoor

namespace Go.Proofs.YtfjcmolccckhhaaGreatDoor
open Go Go.Ax
set_option linter.unusedVariables false
set_option linter.unusedSimpArgs false
attribute [local irreducible] iadd isub imul iquo irem ibit ineg ieq ine ilt ile ishl ishr beq' bnot and' seq' u8op u8rem u32op u64op u8shr u8shl u64shr u64shl u32shr u32shl i64w u8i u64i iu8 iu32 iu64 u8u64 u64u8 u32u8 u64cmp u8cmp u32cmp llen lget linb lset lcut lrep lapp lcpy lemp fits fitn ieqs sealed drawChk fpSame
set_option maxHeartbeats 1000000
set_option maxRecDepth 100000
end Go.Proofs.YtfjcmolccckhhaaGreatDoor

namespace Go.Proofs.YtfjcmolccckhhaaGreatDoor
open Go Go.Ax
set_option linter.unusedVariables false
set_option linter.unusedSimpArgs false
attribute [local irreducible] iadd isub imul iquo irem ibit ineg ieq ine ilt ile ishl ishr beq' bnot and' seq' u8op u8rem u32op u64op u8shr u8shl u64shr u64shl u32shr u32shl i64w u8i u64i iu8 iu32 iu64 u8u64 u64u8 u32u8 u64cmp u8cmp u32cmp llen lget linb lset lcut lrep lapp lcpy lemp fits fitn ieqs sealed drawChk fpSame
set_option maxHeartbeats 1000000
set_option maxRecDepth 100000
end Go.Proofs.YtfjcmolccckhhaaGreatDoor

namespace Go.Proofs.YtfjcmolccckhhaaGreatDoor
open Go Go.Ax
set_option linter.unusedVariables false
set_option linter.unusedSimpArgs false
attribute [local irreducible] iadd isub imul iquo irem ibit ineg ieq ine ilt ile ishl ishr beq' bnot and' seq' u8op u8rem u32op u64op u8shr u8shl u64shr u64shl u32shr u32shl i64w u8i u64i iu8 iu32 iu64 u8u64 u64u8 u32u8 u64cmp u8cmp u32cmp llen lget linb lset lcut lrep lapp lcpy lemp fits fitn ieqs sealed drawChk fpSame
set_option maxHeartbeats 1000000
set_option maxRecDepth 100000
theorem ev_uint_loop (n : Int) : ∀ (k : Nat) (i : Int) (acc : List UInt8), i = (k : Int) - 1 → k ≤ 8 → acc.length + k ≤ 5000000000 →
    Y E0 (.loop 139 0 0 1 [(2, .i n), (7, .nm 0), (8, .i i)] [(0, some (.row 5 .u8 acc))]) = some (.fin (.exit 0) 1 [(7, .nm 0)] [(0, some (.row 5 .u8 (acc ++ beB k (UInt64.ofInt n))))])
  | 0, i, acc, hi, _, _ => by
    rw [Y_go]; conv => lhs; whnf
    rw [ile_f (by omega)]
    conv => lhs; whnf
    simp [beB]
  | k + 1, i, acc, hi, hk, hl => by
    rw [Y_go]; conv => lhs; whnf
    rw [ile_t (by omega)]
    conv => lhs; whnf
    rw [imul_eq (by omega)]
    rw [fits_t (by (simp only [LL] at * <;> omega))]
    conv => lhs; whnf
    rw [isub_eq (by omega)]
    rw [ev_uint_loop n k _ _ (by first | omega | decide | assumption | (simp only [LL] at * <;> omega) | (simp; omega)) (by first | omega | decide | assumption | (simp only [LL] at * <;> omega) | (simp; omega)) (by first | omega | decide | assumption | (simp only [LL] at * <;> omega) | (simp; omega))]
    conv => lhs; whnf
    simp only [lapp_eq, u64u8_eq, iu64_eq, beB, List.append_assoc, List.cons_append, List.nil_append]; rw [u64_ofInt (by omega), u64shr_eq (by omega), show (8 * i).toNat = 8 * k from by omega]
theorem ev_uint (b : List UInt8) (size n : Int) (hb : b.length ≤ 4294967296) : Y E0 (.call 139 [.sl .u8 b, .i size, .i n] []) = some (.ret (.nm 0) [some (.row 5 .u8 (uintB b size n))]) := by
  rw [Y_go]; conv => lhs; whnf
  rw [fits_t (by omega)]
  conv => lhs; whnf
  rcases Bool.eq_false_or_eq_true (ilt size 1) with hc0 | hc0
  · rw [hc0]; replace hc0 := of_ilt_t hc0; try simp only [llen_eq] at hc0
    conv => lhs; whnf
    unfold uintB; (repeat (first | rw [if_pos (by first | omega | decide | assumption | (simp only [LL] at * <;> omega) | (simp; omega))] | rw [if_neg (by first | omega | decide | assumption | (simp only [LL] at * <;> omega) | (simp; omega))])); try simp only [NO]
  · rw [hc0]; replace hc0 := of_ilt_f hc0; try simp only [llen_eq] at hc0
    conv => lhs; whnf
    rcases Bool.eq_false_or_eq_true (ilt 8 size) with hc1 | hc1
    · rw [hc1]; replace hc1 := of_ilt_t hc1; try simp only [llen_eq] at hc1
      conv => lhs; whnf
      unfold uintB; (repeat (first | rw [if_pos (by first | omega | decide | assumption | (simp only [LL] at * <;> omega) | (simp; omega))] | rw [if_neg (by first | omega | decide | assumption | (simp only [LL] at * <;> omega) | (simp; omega))])); try simp only [NO]
    · rw [hc1]; replace hc1 := of_ilt_f hc1; try simp only [llen_eq] at hc1
      conv => lhs; whnf
      rw [isub_eq (by omega)]
      rw [toReq_loop]
      rw [ev_uint_loop n size.toNat _ _ (by first | omega | decide | assumption | (simp only [LL] at * <;> omega) | (simp; omega)) (by first | omega | decide | assumption | (simp only [LL] at * <;> omega) | (simp; omega)) (by first | omega | decide | assumption | (simp only [LL] at * <;> omega) | (simp; omega))]
      conv => lhs; whnf
      unfold uintB; (repeat (first | rw [if_pos (by first | omega | decide | assumption | (simp only [LL] at * <;> omega) | (simp; omega))] | rw [if_neg (by first | omega | decide | assumption | (simp only [LL] at * <;> omega) | (simp; omega))])); try simp only [NO]
theorem ev_blob (b x : List UInt8) (hb : b.length ≤ 4294900000) : Y E0 (.call 121 [.sl .u8 b, .sl .u8 x] []) = some (.ret (.nm 0) [some (.row 5 .u8 (blobB b x))]) := by
  have hx : lcut x 0 (min (llen x) 65535) = some (x.take 65535) := by
    rw [lcut_s (by rw [llen_eq]; omega)]
    congr 1
    simp only [llen_eq, Int.toNat_zero, List.drop_zero]
    rw [List.take_eq_take_iff]; omega
  have h2 : (x.take 65535).length ≤ 65535 := by rw [List.length_take]; omega
  have := uintB_len b 2 (llen (x.take 65535))
  rw [Y_go]; conv => lhs; whnf
  rw [hx]; conv => lhs; whnf
  rw [toReq_call]
  rw [ev_uint _ _ _ (by omega)]
  conv => lhs; whnf
  rw [fits_t (by (simp only [LL] at * <;> omega))]
  conv => lhs; whnf
  rw [lapp_eq, blobB, llen_eq]
theorem ev_new (b : List UInt8) (hb : b.length ≤ 4294967296) : Y E0 (.call 148 [.sl .u8 b] []) = some (.ret (.pa 0 0) [some (.var [.sl .u8 b, .i 0, .i 0])]) := by
  rw [Y_go]; conv => lhs; whnf
  rw [fits_t (by omega)]
  conv => lhs; whnf
theorem ev_fail (b : List UInt8) (p e f : Int) : Y E0 (.call 197 [.pa 0 0, .i f] [.var [.sl .u8 b, .i p, .i e]]) = some (.ret (.tup []) [some (.var [.sl .u8 b, .i p, .i f])]) := by
  rw [Y_go]; conv => lhs; whnf
theorem ev_take_f (b : List UInt8) (p n : Int) (q e : Int) (hb : b.length ≤ 4294967296) (hp : 0 ≤ p ∧ p ≤ b.length) (hn : 0 ≤ n) (h : b.length < p + n) : Y E0 (.call 198 [.pa 0 0, .i p, .i n] [.var [.sl .u8 b, .i q, .i e]]) = some (.ret (.tup [.sl .u8 [], .i 2]) [some (.var [.sl .u8 b, .i q, .i e])]) := by
  rw [Y_go]; conv => lhs; whnf
  rw [isub_eq (by (simp only [LL] at * <;> omega))]
  rw [ilt_t (by (simp only [LL] at * <;> omega))]
  conv => lhs; whnf
theorem ev_take (b : List UInt8) (p n : Int) (q e : Int) (hb : b.length ≤ 4294967296) (hp : 0 ≤ p ∧ p ≤ b.length) (hn : 0 ≤ n) (h : ¬ b.length < p + n) : Y E0 (.call 198 [.pa 0 0, .i p, .i n] [.var [.sl .u8 b, .i q, .i e]]) = some (.ret (.tup [.sl .u8 ((b.drop p.toNat).take n.toNat), .i 0]) [some (.var [.sl .u8 b, .i q, .i e])]) := by
  rw [Y_go]; conv => lhs; whnf
  rw [isub_eq (by (simp only [LL] at * <;> omega))]
  rw [ilt_f (by (simp only [LL] at * <;> omega))]
  conv => lhs; whnf
  rw [iadd_eq (by omega)]
  rw [lcut_s (by omega)]
  conv => lhs; whnf
  rw [show p + n - p = n from by omega]
theorem ev_left (b : List UInt8) (p : Nat) (e : Int) (hb : b.length ≤ 4294967296) (hp : p ≤ b.length) : Y E0 (.call 199 [.pa 0 0] [.var [.sl .u8 b, .i p, .i e]]) = some (.ret (.i ((b.length - p : Nat) : Int)) [some (.var [.sl .u8 b, .i p, .i e])]) := by
  rw [Y_go]; conv => lhs; whnf
  rw [isub_eq (by (simp only [LL] at * <;> omega))]
  rw [drw (by kernel_rfl)]; conv => lhs; whnf
  simp only [llen_eq]; congr 4; omega
theorem ev_raw (b : List UInt8) (p : Nat) (e n : Int) (hb : b.length ≤ 4294967296) (hp : p ≤ b.length) (hn : n ≤ 4294967296) : Y E0 (.call 200 [.pa 0 0, .i n] [.var [.sl .u8 b, .i p, .i e]]) = some (.ret (.sl .u8 (rdR b p e n).1) [some (.var [.sl .u8 b, .i (rdR b p e n).2.1, .i (rdR b p e n).2.2])]) := by
  by_cases h : b.length < (p : Int) + n
  · rw [Y_go]; conv => lhs; whnf
    rcases Bool.eq_false_or_eq_true (ine e 0) with hc0 | hc0
    · rw [hc0]; replace hc0 := of_ine_t hc0; try simp only [llen_eq] at hc0
      conv => lhs; whnf
      unfold rdR; (repeat (first | rw [if_pos (by first | omega | decide | assumption | (simp only [LL] at * <;> omega) | (simp; omega))] | rw [if_neg (by first | omega | decide | assumption | (simp only [LL] at * <;> omega) | (simp; omega))])); try simp only [NO]
    · rw [hc0]; replace hc0 := of_ine_f hc0; try simp only [llen_eq] at hc0
      subst hc0
      conv => lhs; whnf
      rw [ilt_f (by omega)]
      conv => lhs; whnf
      rw [toReq_call]
      rw [ev_take_f _ _ _ _ _ (by omega) (by omega) (by omega) (by omega)]
      conv => lhs; whnf
      rw [ine_t (by omega)]
      conv => lhs; whnf
      rw [toReq_call]
      rw [ev_fail _ _ _ _]
      conv => lhs; whnf
      unfold rdR; (repeat (first | rw [if_pos (by first | omega | decide | assumption | (simp only [LL] at * <;> omega) | (simp; omega))] | rw [if_neg (by first | omega | decide | assumption | (simp only [LL] at * <;> omega) | (simp; omega))])); try simp only [NO]
  · rw [Y_go]; conv => lhs; whnf
    rcases Bool.eq_false_or_eq_true (ine e 0) with hc0 | hc0
    · rw [hc0]; replace hc0 := of_ine_t hc0; try simp only [llen_eq] at hc0
      conv => lhs; whnf
      unfold rdR; (repeat (first | rw [if_pos (by first | omega | decide | assumption | (simp only [LL] at * <;> omega) | (simp; omega))] | rw [if_neg (by first | omega | decide | assumption | (simp only [LL] at * <;> omega) | (simp; omega))])); try simp only [NO]
    · rw [hc0]; replace hc0 := of_ine_f hc0; try simp only [llen_eq] at hc0
      subst hc0
      conv => lhs; whnf
      rcases Bool.eq_false_or_eq_true (ilt n 0) with hc1 | hc1
      · rw [hc1]; replace hc1 := of_ilt_t hc1; try simp only [llen_eq] at hc1
        conv => lhs; whnf
        rw [toReq_call]
        rw [ev_fail _ _ _ _]
        conv => lhs; whnf
        unfold rdR; (repeat (first | rw [if_pos (by first | omega | decide | assumption | (simp only [LL] at * <;> omega) | (simp; omega))] | rw [if_neg (by first | omega | decide | assumption | (simp only [LL] at * <;> omega) | (simp; omega))])); try simp only [NO]
      · rw [hc1]; replace hc1 := of_ilt_f hc1; try simp only [llen_eq] at hc1
        conv => lhs; whnf
        rw [toReq_call]
        rw [ev_take _ _ _ _ _ (by omega) (by omega) (by omega) (by omega)]
        conv => lhs; whnf
        rw [ine_f (by omega)]
        conv => lhs; whnf
        rw [fits_t (by (simp only [LL] at * <;> omega))]
        conv => lhs; whnf
        rw [iadd_eq (by omega)]
        rw [show (p : Int) + n = ((p + n.toNat : Nat) : Int) from by omega]; unfold rdR; (repeat (first | rw [if_pos (by first | omega | decide | assumption | (simp only [LL] at * <;> omega) | (simp; omega))] | rw [if_neg (by first | omega | decide | assumption | (simp only [LL] at * <;> omega) | (simp; omega))])); rfl
theorem ev_rend (b : List UInt8) (p : Nat) (e : Int) (hb : b.length ≤ 4294967296) (hp : p ≤ b.length) : Y E0 (.call 151 [.pa 0 0] [.var [.sl .u8 b, .i p, .i e]]) = some (.ret (.i (rdE b p e)) [some (.var [.sl .u8 b, .i p, .i e])]) := by
  rw [Y_go]; conv => lhs; whnf
  rcases Bool.eq_false_or_eq_true (ieq e 0) with hc0 | hc0
  · rw [hc0]; replace hc0 := of_ieq_t hc0; try simp only [llen_eq] at hc0
    subst hc0
    conv => lhs; whnf
    rw [toReq_call]
    rw [ev_left _ _ _ (by omega) (by omega)]
    conv => lhs; whnf
    rcases Bool.eq_false_or_eq_true (ilt 0 ↑(b.length - p)) with hc1 | hc1
    · rw [hc1]; replace hc1 := of_ilt_t hc1; try simp only [llen_eq] at hc1
      conv => lhs; whnf
      unfold rdE; (repeat (first | rw [if_pos (by first | omega | decide | assumption | (simp only [LL] at * <;> omega) | (simp; omega))] | rw [if_neg (by first | omega | decide | assumption | (simp only [LL] at * <;> omega) | (simp; omega))])); try simp only [NO]
    · rw [hc1]; replace hc1 := of_ilt_f hc1; try simp only [llen_eq] at hc1
      conv => lhs; whnf
      unfold rdE; (repeat (first | rw [if_pos (by first | omega | decide | assumption | (simp only [LL] at * <;> omega) | (simp; omega))] | rw [if_neg (by first | omega | decide | assumption | (simp only [LL] at * <;> omega) | (simp; omega))])); try simp only [NO]
  · rw [hc0]; replace hc0 := of_ieq_f hc0; try simp only [llen_eq] at hc0
    conv => lhs; whnf
    unfold rdE; (repeat (first | rw [if_pos (by first | omega | decide | assumption | (simp only [LL] at * <;> omega) | (simp; omega))] | rw [if_neg (by first | omega | decide | assumption | (simp only [LL] at * <;> omega) | (simp; omega))])); try simp only [NO]
end Go.Proofs.YtfjcmolccckhhaaGreatDoor

namespace Go.Proofs.YtfjcmolccckhhaaGreatDoor
open Go Go.Ax
set_option linter.unusedVariables false
set_option linter.unusedSimpArgs false
attribute [local irreducible] iadd isub imul iquo irem ibit ineg ieq ine ilt ile ishl ishr beq' bnot and' seq' u8op u8rem u32op u64op u8shr u8shl u64shr u64shl u32shr u32shl i64w u8i u64i iu8 iu32 iu64 u8u64 u64u8 u32u8 u64cmp u8cmp u32cmp llen lget linb lset lcut lrep lapp lcpy lemp fits fitn ieqs sealed drawChk fpSame
set_option maxHeartbeats 1000000
set_option maxRecDepth 100000
theorem ev_ruint_loop (l b : List UInt8) (n p e : Int) (hl : l.length ≤ 8) : ∀ (k : Nat) (acc : UInt64) (j : Int), j = (l.length : Int) - k → k ≤ l.length →
    Y E0 (.loop 149 0 1 1 [(0, .pa 0 0), (1, .i n), (7, .u64 acc), (38, .sl .u8 l), (39, .i (llen l)), (40, .i j)] [(0, some (.var [.sl .u8 b, .i p, .i e]))]) = some (.fin (.exit 0) 1 [(0, .pa 0 0), (1, .i n), (7, .u64 ((l.drop j.toNat).foldl (fun n x => n <<< 8 ||| x.toUInt64) acc))] [(0, some (.var [.sl .u8 b, .i p, .i e]))])
  | 0, acc, j, hj, hk => by
    rw [Y_go]; conv => lhs; whnf
    rw [ilt_f (by (simp only [LL] at * <;> omega))]
    conv => lhs; whnf
    rw [List.drop_eq_nil_of_le (by omega)]; rfl
  | k + 1, acc, j, hj, hk => by
    have hlt : j.toNat < l.length := by omega
    rw [Y_go]; conv => lhs; whnf
    rw [ilt_t (by (simp only [LL] at * <;> omega))]
    conv => lhs; whnf
    rw [lget_i (by omega)]
    conv => lhs; whnf
    rw [iadd_eq (by omega)]
    rw [ev_ruint_loop l b n p e hl k _ _ (by omega) (by omega)]
    conv => lhs; whnf
    rw [show l.drop j.toNat = l[j.toNat] :: l.drop (j + 1).toNat from by rw [List.drop_eq_getElem_cons hlt, show (j + 1).toNat = j.toNat + 1 from by omega], List.foldl_cons, u64or_eq, u8u64_eq, u64shl_eq (by decide)]; rfl
theorem ev_ruint (b : List UInt8) (p : Nat) (e n : Int) (hb : b.length ≤ 4294967296) (hp : p ≤ b.length) : Y E0 (.call 149 [.pa 0 0, .i n] [.var [.sl .u8 b, .i p, .i e]]) = some (.ret (.i (rdU b p e n).1) [some (.var [.sl .u8 b, .i (rdU b p e n).2.1, .i (rdU b p e n).2.2])]) := by
  have hv : ∀ l : List UInt8, (l.drop (0 : Int).toNat).foldl (fun (n : UInt64) (x : UInt8) => n <<< 8 ||| x.toUInt64) (UInt64.ofNat 0) = beN l := fun _ => rfl
  by_cases h4 : (b.length : Int) < (p : Int) + n
  · rw [Y_go]; conv => lhs; whnf
    rcases Bool.eq_false_or_eq_true (ine e 0) with hc0 | hc0
    · rw [hc0]; replace hc0 := of_ine_t hc0; try simp only [llen_eq] at hc0
      conv => lhs; whnf
      unfold rdU; (repeat (first | rw [if_pos (by first | omega | decide | assumption | (simp only [LL] at * <;> omega) | (simp; omega))] | rw [if_neg (by first | omega | decide | assumption | (simp only [LL] at * <;> omega) | (simp; omega))])); try simp only [NO]
    · rw [hc0]; replace hc0 := of_ine_f hc0; try simp only [llen_eq] at hc0
      subst hc0
      conv => lhs; whnf
      rw [ilt_f (by omega)]
      conv => lhs; whnf
      rcases Bool.eq_false_or_eq_true (ilt 8 n) with hc1 | hc1
      · rw [hc1]; replace hc1 := of_ilt_t hc1; try simp only [llen_eq] at hc1
        conv => lhs; whnf
        rw [toReq_call]
        rw [ev_fail _ _ _ _]
        conv => lhs; whnf
        unfold rdU; (repeat (first | rw [if_pos (by first | omega | decide | assumption | (simp only [LL] at * <;> omega) | (simp; omega))] | rw [if_neg (by first | omega | decide | assumption | (simp only [LL] at * <;> omega) | (simp; omega))])); try simp only [NO]
      · rw [hc1]; replace hc1 := of_ilt_f hc1; try simp only [llen_eq] at hc1
        conv => lhs; whnf
        rw [toReq_call]
        rw [ev_take_f _ _ _ _ _ (by omega) (by omega) (by omega) (by omega)]
        conv => lhs; whnf
        rw [ine_t (by omega)]
        conv => lhs; whnf
        rw [toReq_call]
        rw [ev_fail _ _ _ _]
        conv => lhs; whnf
        unfold rdU; (repeat (first | rw [if_pos (by first | omega | decide | assumption | (simp only [LL] at * <;> omega) | (simp; omega))] | rw [if_neg (by first | omega | decide | assumption | (simp only [LL] at * <;> omega) | (simp; omega))])); try simp only [NO]
  · by_cases h5 : 9223372036854775807 < (beN ((b.drop p).take n.toNat)).toNat
    · rw [Y_go]; conv => lhs; whnf
      rcases Bool.eq_false_or_eq_true (ine e 0) with hc0 | hc0
      · rw [hc0]; replace hc0 := of_ine_t hc0; try simp only [llen_eq] at hc0
        conv => lhs; whnf
        unfold rdU; (repeat (first | rw [if_pos (by first | omega | decide | assumption | (simp only [LL] at * <;> omega) | (simp; omega))] | rw [if_neg (by first | omega | decide | assumption | (simp only [LL] at * <;> omega) | (simp; omega))])); try simp only [NO]
      · rw [hc0]; replace hc0 := of_ine_f hc0; try simp only [llen_eq] at hc0
        subst hc0
        conv => lhs; whnf
        rcases Bool.eq_false_or_eq_true (ilt n 1) with hc1 | hc1
        · rw [hc1]; replace hc1 := of_ilt_t hc1; try simp only [llen_eq] at hc1
          conv => lhs; whnf
          rw [toReq_call]
          rw [ev_fail _ _ _ _]
          conv => lhs; whnf
          unfold rdU; (repeat (first | rw [if_pos (by first | omega | decide | assumption | (simp only [LL] at * <;> omega) | (simp; omega))] | rw [if_neg (by first | omega | decide | assumption | (simp only [LL] at * <;> omega) | (simp; omega))])); try simp only [NO]
        · rw [hc1]; replace hc1 := of_ilt_f hc1; try simp only [llen_eq] at hc1
          conv => lhs; whnf
          rcases Bool.eq_false_or_eq_true (ilt 8 n) with hc2 | hc2
          · rw [hc2]; replace hc2 := of_ilt_t hc2; try simp only [llen_eq] at hc2
            conv => lhs; whnf
            rw [toReq_call]
            rw [ev_fail _ _ _ _]
            conv => lhs; whnf
            unfold rdU; (repeat (first | rw [if_pos (by first | omega | decide | assumption | (simp only [LL] at * <;> omega) | (simp; omega))] | rw [if_neg (by first | omega | decide | assumption | (simp only [LL] at * <;> omega) | (simp; omega))])); try simp only [NO]
          · rw [hc2]; replace hc2 := of_ilt_f hc2; try simp only [llen_eq] at hc2
            conv => lhs; whnf
            rw [toReq_call]
            rw [ev_take _ _ _ _ _ (by omega) (by omega) (by omega) (by omega)]
            conv => lhs; whnf
            rw [ine_f (by omega)]
            conv => lhs; whnf
            rw [toReq_loop]
            rw [ev_ruint_loop _ b n p 0 (by simp; omega) ((b.drop (p : Int).toNat).take n.toNat).length _ 0 (by omega) (by omega), hv, Int.toNat_natCast]
            conv => lhs; whnf
            rw [u64gt_t (by simpa using h5)]; conv => lhs; whnf
            rw [toReq_call]
            rw [ev_fail _ _ _ _]
            conv => lhs; whnf
            unfold rdU; (repeat (first | rw [if_pos (by first | omega | decide | assumption | (simp only [LL] at * <;> omega) | (simp; omega))] | rw [if_neg (by first | omega | decide | assumption | (simp only [LL] at * <;> omega) | (simp; omega))])); try simp only [NO]
    · rw [Y_go]; conv => lhs; whnf
      rcases Bool.eq_false_or_eq_true (ine e 0) with hc0 | hc0
      · rw [hc0]; replace hc0 := of_ine_t hc0; try simp only [llen_eq] at hc0
        conv => lhs; whnf
        unfold rdU; (repeat (first | rw [if_pos (by first | omega | decide | assumption | (simp only [LL] at * <;> omega) | (simp; omega))] | rw [if_neg (by first | omega | decide | assumption | (simp only [LL] at * <;> omega) | (simp; omega))])); try simp only [NO]
      · rw [hc0]; replace hc0 := of_ine_f hc0; try simp only [llen_eq] at hc0
        subst hc0
        conv => lhs; whnf
        rcases Bool.eq_false_or_eq_true (ilt n 1) with hc1 | hc1
        · rw [hc1]; replace hc1 := of_ilt_t hc1; try simp only [llen_eq] at hc1
          conv => lhs; whnf
          rw [toReq_call]
          rw [ev_fail _ _ _ _]
          conv => lhs; whnf
          unfold rdU; (repeat (first | rw [if_pos (by first | omega | decide | assumption | (simp only [LL] at * <;> omega) | (simp; omega))] | rw [if_neg (by first | omega | decide | assumption | (simp only [LL] at * <;> omega) | (simp; omega))])); try simp only [NO]
        · rw [hc1]; replace hc1 := of_ilt_f hc1; try simp only [llen_eq] at hc1
          conv => lhs; whnf
          rcases Bool.eq_false_or_eq_true (ilt 8 n) with hc2 | hc2
          · rw [hc2]; replace hc2 := of_ilt_t hc2; try simp only [llen_eq] at hc2
            conv => lhs; whnf
            rw [toReq_call]
            rw [ev_fail _ _ _ _]
            conv => lhs; whnf
            unfold rdU; (repeat (first | rw [if_pos (by first | omega | decide | assumption | (simp only [LL] at * <;> omega) | (simp; omega))] | rw [if_neg (by first | omega | decide | assumption | (simp only [LL] at * <;> omega) | (simp; omega))])); try simp only [NO]
          · rw [hc2]; replace hc2 := of_ilt_f hc2; try simp only [llen_eq] at hc2
            conv => lhs; whnf
            rw [toReq_call]
            rw [ev_take _ _ _ _ _ (by omega) (by omega) (by omega) (by omega)]
            conv => lhs; whnf
            rw [ine_f (by omega)]
            conv => lhs; whnf
            rw [toReq_loop]
            rw [ev_ruint_loop _ b n p 0 (by simp; omega) ((b.drop (p : Int).toNat).take n.toNat).length _ 0 (by omega) (by omega), hv, Int.toNat_natCast]
            conv => lhs; whnf
            rw [u64gt_f (by simpa using h5)]; conv => lhs; whnf
            rw [u64i_eq (by omega)]
            rw [iadd_eq (by omega)]
            rw [show (p : Int) + n = ((p + n.toNat : Nat) : Int) from by omega]; unfold rdU; (repeat (first | rw [if_pos (by first | omega | decide | assumption | (simp only [LL] at * <;> omega) | (simp; omega))] | rw [if_neg (by first | omega | decide | assumption | (simp only [LL] at * <;> omega) | (simp; omega))]))
theorem ev_rblob (b : List UInt8) (p : Nat) (e n : Int) (hb : b.length ≤ 4294967296) (hp : p ≤ b.length) : Y E0 (.call 150 [.pa 0 0, .i n] [.var [.sl .u8 b, .i p, .i e]]) = some (.ret (.sl .u8 (rdB b p e n).1) [some (.var [.sl .u8 b, .i (rdB b p e n).2.1, .i (rdB b p e n).2.2])]) := by
  by_cases h2 : (b.length : Int) < (p : Int) + 2
  · rw [Y_go]; conv => lhs; whnf
    rcases Bool.eq_false_or_eq_true (ine e 0) with hc0 | hc0
    · rw [hc0]; replace hc0 := of_ine_t hc0; try simp only [llen_eq] at hc0
      conv => lhs; whnf
      unfold rdB; (repeat (first | rw [if_pos (by first | omega | decide | assumption | (simp only [LL] at * <;> omega) | (simp; omega))] | rw [if_neg (by first | omega | decide | assumption | (simp only [LL] at * <;> omega) | (simp; omega))])); try simp only [NO]
    · rw [hc0]; replace hc0 := of_ine_f hc0; try simp only [llen_eq] at hc0
      subst hc0
      conv => lhs; whnf
      rw [toReq_call]
      rw [ev_take_f _ _ _ _ _ (by omega) (by omega) (by omega) (by omega)]
      conv => lhs; whnf
      rw [ine_t (by omega)]
      conv => lhs; whnf
      rw [toReq_call]
      rw [ev_fail _ _ _ _]
      conv => lhs; whnf
      unfold rdB; (repeat (first | rw [if_pos (by first | omega | decide | assumption | (simp only [LL] at * <;> omega) | (simp; omega))] | rw [if_neg (by first | omega | decide | assumption | (simp only [LL] at * <;> omega) | (simp; omega))])); try simp only [NO]
  · have g0 : lget ((b.drop (p : Int).toNat).take (2 : Int).toNat) 0 = some (b.getD p 0) := lget_s (by omega) (by simp [List.getElem?_take, List.getElem?_drop, List.getD]; rw [List.getElem?_eq_getElem (by omega)]; rfl)
    have g1 : lget ((b.drop (p : Int).toNat).take (2 : Int).toNat) 1 = some (b.getD (p + 1) 0) := lget_s (by omega) (by simp [List.getElem?_take, List.getElem?_drop, List.getD]; rw [List.getElem?_eq_getElem (by omega)]; rfl)
    have hv : ibit .or (ishl (u8i (b.getD p 0)) (UInt64.ofNat 8).toNat) (u8i (b.getD (p + 1) 0)) = (lenAt b p : Int) := by
      rw [show (UInt64.ofNat 8).toNat = 8 from rfl, u8i_eq, u8i_eq, ishl8, ior_eq, or_bytes, lenAt]
    have hx := (b.getD p 0).toNat_lt
    have hy := (b.getD (p + 1) 0).toNat_lt
    have hl : lenAt b p ≤ 65535 := by rw [lenAt]; omega
    by_cases h4 : (b.length : Int) < (p : Int) + 2 + lenAt b p
    · rw [Y_go]; conv => lhs; whnf
      rcases Bool.eq_false_or_eq_true (ine e 0) with hc0 | hc0
      · rw [hc0]; replace hc0 := of_ine_t hc0; try simp only [llen_eq] at hc0
        conv => lhs; whnf
        unfold rdB; (repeat (first | rw [if_pos (by first | omega | decide | assumption | (simp only [LL] at * <;> omega) | (simp; omega))] | rw [if_neg (by first | omega | decide | assumption | (simp only [LL] at * <;> omega) | (simp; omega))])); try simp only [NO]
      · rw [hc0]; replace hc0 := of_ine_f hc0; try simp only [llen_eq] at hc0
        subst hc0
        conv => lhs; whnf
        rw [toReq_call]
        rw [ev_take _ _ _ _ _ (by omega) (by omega) (by omega) (by omega)]
        conv => lhs; whnf
        rw [ine_f (by omega)]
        conv => lhs; whnf
        rw [g0]; conv => lhs; whnf
        rw [g1]; conv => lhs; whnf
        rw [hv]; conv => lhs; whnf
        rw [drw (by kernel_rfl)]; conv => lhs; whnf
        rcases Bool.eq_false_or_eq_true (ilt n ↑(lenAt b p)) with hc1 | hc1
        · rw [hc1]; replace hc1 := of_ilt_t hc1; try simp only [llen_eq] at hc1
          conv => lhs; whnf
          rw [toReq_call]
          rw [ev_fail _ _ _ _]
          conv => lhs; whnf
          unfold rdB; (repeat (first | rw [if_pos (by first | omega | decide | assumption | (simp only [LL] at * <;> omega) | (simp; omega))] | rw [if_neg (by first | omega | decide | assumption | (simp only [LL] at * <;> omega) | (simp; omega))])); try simp only [NO]
        · rw [hc1]; replace hc1 := of_ilt_f hc1; try simp only [llen_eq] at hc1
          conv => lhs; whnf
          rw [iadd_eq (by omega)]
          rw [toReq_call]
          rw [ev_take_f _ _ _ _ _ (by omega) (by omega) (by omega) (by omega)]
          conv => lhs; whnf
          rw [ine_t (by omega)]
          conv => lhs; whnf
          rw [toReq_call]
          rw [ev_fail _ _ _ _]
          conv => lhs; whnf
          unfold rdB; (repeat (first | rw [if_pos (by first | omega | decide | assumption | (simp only [LL] at * <;> omega) | (simp; omega))] | rw [if_neg (by first | omega | decide | assumption | (simp only [LL] at * <;> omega) | (simp; omega))])); try simp only [NO]
    · rw [Y_go]; conv => lhs; whnf
      rcases Bool.eq_false_or_eq_true (ine e 0) with hc0 | hc0
      · rw [hc0]; replace hc0 := of_ine_t hc0; try simp only [llen_eq] at hc0
        conv => lhs; whnf
        unfold rdB; (repeat (first | rw [if_pos (by first | omega | decide | assumption | (simp only [LL] at * <;> omega) | (simp; omega))] | rw [if_neg (by first | omega | decide | assumption | (simp only [LL] at * <;> omega) | (simp; omega))])); try simp only [NO]
      · rw [hc0]; replace hc0 := of_ine_f hc0; try simp only [llen_eq] at hc0
        subst hc0
        conv => lhs; whnf
        rw [toReq_call]
        rw [ev_take _ _ _ _ _ (by omega) (by omega) (by omega) (by omega)]
        conv => lhs; whnf
        rw [ine_f (by omega)]
        conv => lhs; whnf
        rw [g0]; conv => lhs; whnf
        rw [g1]; conv => lhs; whnf
        rw [hv]; conv => lhs; whnf
        rw [drw (by kernel_rfl)]; conv => lhs; whnf
        rcases Bool.eq_false_or_eq_true (ilt n ↑(lenAt b p)) with hc1 | hc1
        · rw [hc1]; replace hc1 := of_ilt_t hc1; try simp only [llen_eq] at hc1
          conv => lhs; whnf
          rw [toReq_call]
          rw [ev_fail _ _ _ _]
          conv => lhs; whnf
          unfold rdB; (repeat (first | rw [if_pos (by first | omega | decide | assumption | (simp only [LL] at * <;> omega) | (simp; omega))] | rw [if_neg (by first | omega | decide | assumption | (simp only [LL] at * <;> omega) | (simp; omega))])); try simp only [NO]
        · rw [hc1]; replace hc1 := of_ilt_f hc1; try simp only [llen_eq] at hc1
          conv => lhs; whnf
          rw [iadd_eq (by omega)]
          rw [toReq_call]
          rw [ev_take _ _ _ _ _ (by omega) (by omega) (by omega) (by omega)]
          conv => lhs; whnf
          rw [ine_f (by omega)]
          conv => lhs; whnf
          rw [fits_t (by (simp only [LL] at * <;> omega))]
          conv => lhs; whnf
          rw [iadd_eq (a := 2) (b := ↑(lenAt b p)) (by omega)]
          rw [iadd_eq (by omega)]
          unfold rdB; (repeat (first | rw [if_pos (by first | omega | decide | assumption | (simp only [LL] at * <;> omega) | (simp; omega))] | rw [if_neg (by first | omega | decide | assumption | (simp only [LL] at * <;> omega) | (simp; omega))])); simp only [show ((p : Int) + 2).toNat = p + 2 from by omega, show ((lenAt b p : Nat) : Int).toNat = lenAt b p from by omega]; rw [show (p : Int) + (2 + (lenAt b p : Int)) = ((p + 2 + lenAt b p : Nat) : Int) from by omega]
end Go.Proofs.YtfjcmolccckhhaaGreatDoor

namespace Go.Ax
open Go Go.Eng Go.RowKit
set_option linter.unusedVariables false
set_option linter.unusedSimpArgs false
theorem ibit_eq (op : BinOp) (a b : Int) : ibit op a b = bits op .i64 a b := by rw [ibit_d]; rfl
theorem fr1_len (tag : Int) (a : List UInt8) : (frameB tag [a]).length = 5 + a.length := by
  simp [frameB, fieldsB, len4_len]; omega
theorem fr2_len (tag : Int) (a b : List UInt8) : (frameB tag [a, b]).length = 9 + a.length + b.length := by
  simp [frameB, fieldsB, len4_len]; omega
theorem fr3_len (tag : Int) (a b c : List UInt8) : (frameB tag [a, b, c]).length = 13 + a.length + b.length + c.length := by
  simp [frameB, fieldsB, len4_len]; omega
theorem beB_one (x : Int) : beB 1 (UInt64.ofInt x) = [UInt8.ofInt x] := by
  have h : (UInt64.ofInt x).toUInt8 = UInt8.ofInt x := by
    apply UInt8.toNat_inj.1
    rw [UInt64.toNat_toUInt8, UInt64.ofInt, UInt8.ofInt, UInt64.toNat_ofNat', UInt8.toNat_ofNat']
    omega
  have h2 : (UInt64.ofInt x) >>> UInt64.ofNat (8 * 0) = UInt64.ofInt x := by
    apply UInt64.toNat_inj.1
    rw [UInt64.toNat_shiftRight]; simp
  rw [beB, h2, h]; rfl
structure Pub where
  kind : Int
  attr : Int
  height : Int
  policy : List UInt8
  unique : List UInt8
deriving DecidableEq
def pub0 : Pub := ⟨0, 0, 0, [], []⟩
def uniq (k : Int) : Int := if k = 2 then 17 else 32
theorem uniq_bd (k : Int) : 17 ≤ uniq k ∧ uniq k ≤ 32 := by unfold uniq; split <;> omega
def chkP (p : Pub) : Int :=
  if p.kind < 1 ∨ 3 < p.kind then 19
  else if p.attr < 0 ∨ 7 < p.attr ∨ (bits .and .i64 p.attr 4 ≠ 0 ∧ p.kind ≠ 2) ∨ (bits .and .i64 p.attr 1 = 0 ∧ p.policy.length = 0) then 20
  else if p.height < 0 ∨ 3 < p.height ∨ (p.height ≠ 0 ∧ p.kind ≠ 2) ∨ (p.policy.length ≠ 0 ∧ p.policy.length ≠ 32) ∨ (p.unique.length : Int) ≠ uniq p.kind then 1 else 0
def encP (p : Pub) : List UInt8 := blobB (blobB [UInt8.ofInt p.kind, UInt8.ofInt p.attr, UInt8.ofInt p.height] p.policy) p.unique
def decP (b : List UInt8) : Pub × Int :=
  let k := rdU b 0 0 1
  let a := rdU b k.2.1 k.2.2 1
  let h := rdU b a.2.1 a.2.2 1
  let o := rdB b h.2.1 h.2.2 32
  let u := rdB b o.2.1 o.2.2 32
  let e := rdE b u.2.1 u.2.2
  if e ≠ 0 then (pub0, e) else if chkP ⟨k.1, a.1, h.1, o.1, u.1⟩ ≠ 0 then (pub0, chkP ⟨k.1, a.1, h.1, o.1, u.1⟩) else (⟨k.1, a.1, h.1, o.1, u.1⟩, 0)
structure OkP (p : Pub) : Prop where
  kind : 1 ≤ p.kind ∧ p.kind ≤ 3
  attr : 0 ≤ p.attr ∧ p.attr ≤ 7
  height : 0 ≤ p.height ∧ p.height ≤ 3
  policy : p.policy.length ≤ 32
  unique : p.unique.length ≤ 32
theorem okP_of {p : Pub} (h : chkP p = 0) : OkP p := by
  unfold chkP at h
  split at h
  · simp at h
  rename_i h1
  split at h
  · simp at h
  rename_i h2
  split at h
  · simp at h
  rename_i h3
  have hu : uniq p.kind = 17 ∨ uniq p.kind = 32 := by unfold uniq; split; exact .inl rfl; exact .inr rfl
  refine ⟨by omega, by omega, by omega, by omega, by omega⟩
def flatP (p : Pub) : List UInt8 :=
  beB 1 (UInt64.ofInt p.kind) ++ (beB 1 (UInt64.ofInt p.attr) ++ (beB 1 (UInt64.ofInt p.height) ++ (len2 p.policy.length ++ p.policy ++ (len2 p.unique.length ++ p.unique ++ []))))
theorem encP_flat {p : Pub} (hp : p.policy.length ≤ 65535) (hu : p.unique.length ≤ 65535) : encP p = flatP p := by
  unfold encP flatP
  rw [blobB_eq hp, blobB_eq hu, beB_one, beB_one, beB_one]
  simp only [List.append_assoc, List.append_nil, List.cons_append, List.nil_append]
theorem encP_len {p : Pub} (hp : p.policy.length ≤ 65535) (hu : p.unique.length ≤ 65535) : (encP p).length = 7 + p.policy.length + p.unique.length := by
  rw [encP_flat hp hu]
  simp only [flatP, List.length_append, beB_len, len2_len, List.length_nil]; omega
theorem enc_decP {b : List UInt8} {p : Pub} (h : decP b = (p, 0)) : encP p = b ∧ chkP p = 0 := by
  unfold decP at h
  dsimp only at h
  split at h
  · rename_i he; simp only [Prod.mk.injEq] at h; exact absurd h.2 he
  rename_i heE
  split at h
  · rename_i he; simp only [Prod.mk.injEq] at h; exact absurd h.2 he
  rename_i hc
  simp only [Prod.mk.injEq, and_true] at h
  have heE := Classical.not_not.1 heE
  have hc := Classical.not_not.1 hc
  generalize g0 : rdU b 0 0 1 = x0 at *
  generalize g1 : rdU b x0.2.1 x0.2.2 1 = x1 at *
  generalize g2 : rdU b x1.2.1 x1.2.2 1 = x2 at *
  generalize g3 : rdB b x2.2.1 x2.2.2 32 = x3 at *
  generalize g4 : rdB b x3.2.1 x3.2.2 32 = x4 at *
  obtain ⟨k, p0, e0⟩ := x0; obtain ⟨a, p1, e1⟩ := x1; obtain ⟨t, p2, e2⟩ := x2; obtain ⟨o, p3, e3⟩ := x3; obtain ⟨u, p4, e4⟩ := x4
  simp only at *
  have k0 := (rdU_le (b := b) (at' := 0) (e := 0) (size := 1) (Nat.zero_le _)); rw [g0] at k0
  have k1 := (rdU_le (b := b) (at' := p0) (e := e0) (size := 1) k0); rw [g1] at k1
  have k2 := (rdU_le (b := b) (at' := p1) (e := e1) (size := 1) k1); rw [g2] at k2
  have k3 := (rdB_le (b := b) (at' := p2) (e := e2) (most := 32) k2); rw [g3] at k3
  have k4 := (rdB_le (b := b) (at' := p3) (e := e3) (most := 32) k3); rw [g4] at k4
  obtain ⟨rfl, z5⟩ := rdE_inv k4 heE
  obtain ⟨rfl, _, _, i4, _, j4⟩ := rdB_inv k3 g4
  obtain ⟨rfl, _, _, i3, _, j3⟩ := rdB_inv k2 g3
  obtain ⟨rfl, _, _, i2, _⟩ := rdU_inv (n := 1) k1 (by omega) g2
  obtain ⟨rfl, _, _, i1, _⟩ := rdU_inv (n := 1) k0 (by omega) g1
  obtain ⟨_, _, _, i0, _⟩ := rdU_inv (n := 1) (Nat.zero_le _) (by omega) g0
  subst h
  refine ⟨?_, hc⟩
  rw [encP_flat (by simpa using j3) (by simpa using j4)]
  simp only [flatP]
  rw [z5] at i4
  rw [← i4, ← i3, ← i2, ← i1, ← i0]
  rfl
theorem decP_of {b v3 v4 : List UInt8} {v0 v1 v2 er0 er1 er2 er3 er4 : Int} {p0 p1 p2 p3 p4 : Nat}
    (g0 : rdU b 0 0 1 = (v0, p0, er0)) (g1 : rdU b p0 er0 1 = (v1, p1, er1)) (g2 : rdU b p1 er1 1 = (v2, p2, er2)) (g3 : rdB b p2 er2 32 = (v3, p3, er3)) (g4 : rdB b p3 er3 32 = (v4, p4, er4)) :
    decP b = if rdE b p4 er4 ≠ 0 then (pub0, rdE b p4 er4) else if chkP ⟨v0, v1, v2, v3, v4⟩ ≠ 0 then (pub0, chkP ⟨v0, v1, v2, v3, v4⟩) else (⟨v0, v1, v2, v3, v4⟩, 0) := by
  simp only [decP, g0, g1, g2, g3, g4]
structure Evi where
  machine : Int
  attest : List UInt8
  sig : List UInt8
  log : List UInt8
deriving DecidableEq
def evi0 : Evi := ⟨0, [], [], []⟩
def CanE (x : Evi) : Prop := 1 ≤ x.machine ∧ x.machine ≤ 4 ∧ x.attest.length ≤ 1024 ∧ x.sig.length ≤ 1024 ∧ x.log.length ≤ 8192
instance (x : Evi) : Decidable (CanE x) := by unfold CanE; infer_instance
def formE (x : Evi) : List UInt8 := blobB (blobB (blobB [UInt8.ofInt x.machine] x.attest) x.sig) x.log
def encE (x : Evi) : List UInt8 := if CanE x then formE x else []
def decE (b : List UInt8) : Evi × Int :=
  let m := rdU b 0 0 1
  let a := rdB b m.2.1 m.2.2 1024
  let s := rdB b a.2.1 a.2.2 1024
  let l := rdB b s.2.1 s.2.2 8192
  if rdE b l.2.1 l.2.2 ≠ 0 ∨ m.1 < 1 ∨ 4 < m.1 then (evi0, 30) else (⟨m.1, a.1, s.1, l.1⟩, 0)
def flatE (x : Evi) : List UInt8 := beB 1 (UInt64.ofInt x.machine) ++ (len2 x.attest.length ++ x.attest ++ (len2 x.sig.length ++ x.sig ++ (len2 x.log.length ++ x.log ++ [])))
end Go.Ax

namespace Go.Ax
open Go Go.Eng Go.RowKit
set_option linter.unusedVariables false
set_option linter.unusedSimpArgs false
def fillB (n : Nat) (b : List UInt8) : List UInt8 := b.take n ++ (List.replicate n 0).drop b.length
theorem fillB_len (n : Nat) (b : List UInt8) : (fillB n b).length = n := by simp [fillB]; omega
def vattr (k a : Int) (pol : Bool) : Int :=
  let x := if k = 2 then a else bits .andNot .i64 a 4
  if pol then x else bits .or .i64 x 1
def validP (p : Pub) : Pub :=
  ⟨1 + p.kind % 3, vattr (1 + p.kind % 3) (p.attr % 8) (decide (0 < p.policy.length)), if 1 + p.kind % 3 = 2 then p.height % 2 else 0,
   if 0 < p.policy.length then seedB p.policy else [], fillB (uniq (1 + p.kind % 3)).toNat p.unique⟩
def fewPub (p : Pub) : Bool := decide ((p.policy.length : Int) ≤ 60) && decide ((p.unique.length : Int) ≤ 60)
def sameP (p q : Pub) : Bool := decide (p.kind = q.kind) && (decide (p.attr = q.attr) && (decide (p.height = q.height) && (decide (p.policy = q.policy) && decide (p.unique = q.unique))))
structure Idx where
  n : Int
  kind : Int
  attr : Int
  size : Int
  policy : List UInt8
  auth : List UInt8
  written : Bool
  data : List UInt8
def idxB (x : Idx) : List UInt8 := uintB [UInt8.ofInt x.n, UInt8.ofInt x.kind, UInt8.ofInt x.attr] 2 x.size ++ [if x.written then 1 else 0]
def nameB (p : Pub) : List UInt8 := sha256 (frameB 6 [encP p])
def idxNameB (x : Idx) : List UInt8 := sha256 (frameB 7 [idxB x, x.policy])
def hierB (h : Int) : List UInt8 := if h < 0 ∨ 3 < h then [] else sha256 (frameB 11 [[UInt8.ofInt h]])
theorem idxB_len (x : Idx) : (idxB x).length = 6 := by rw [idxB, List.length_append, uintB_l2]; rfl
end Go.Ax

namespace Go.Ax
abbrev pubX (p : Pub) : List AV := [.i p.kind, .i p.attr, .i p.height, .sl .u8 p.policy, .sl .u8 p.unique]
abbrev idxX (x : Idx) : List AV := [.i x.n, .i x.kind, .i x.attr, .i x.size, .sl .u8 x.policy, .sl .u8 x.auth, .b x.written, .sl .u8 x.data]
end Go.Ax
namespace Go.Proofs.YtfjcmolccckhhaaGreatDoor
open Go Go.Ax Go.Eng
set_option linter.unusedVariables false
set_option linter.unusedSimpArgs false
attribute [local irreducible] iadd isub imul iquo irem ibit ineg ieq ine ilt ile ishl ishr beq' bnot and' seq' u8op u8rem u32op u64op u8shr u8shl u64shr u64shl u32shr u32shl i64w u8i u64i iu8 iu32 iu64 u8u64 u64u8 u32u8 u64cmp u8cmp u32cmp llen lget linb lset lcut lrep lapp lcpy lemp fits fitn ieqs sealed drawChk fpSame
set_option maxHeartbeats 4000000
set_option maxRecDepth 100000
theorem ev_asize (k : Int) : Y E0 (.call 179 [.i k] []) = some (.ret (.i (uniq k)) []) := by
  rw [Y_go]; conv => lhs; whnf
  rcases Bool.eq_false_or_eq_true (ieq k 2) with hc0 | hc0
  · rw [hc0]; replace hc0 := of_ieq_t hc0; try simp only [llen_eq] at hc0
    subst hc0
    conv => lhs; whnf
    unfold uniq; (repeat (first | rw [if_pos (by first | omega | decide | assumption | (simp only [uintB_l2, uintB_l1, blobB_l, seedB_len, fillB_len, idxB_len, sha256_len, fr1_len, fr2_len, fr3_len, LL] at * <;> omega) | (simp; omega))] | rw [if_neg (by first | omega | decide | assumption | (simp only [uintB_l2, uintB_l1, blobB_l, seedB_len, fillB_len, idxB_len, sha256_len, fr1_len, fr2_len, fr3_len, LL] at * <;> omega) | (simp; omega))])); try simp only [NO]
  · rw [hc0]; replace hc0 := of_ieq_f hc0; try simp only [llen_eq] at hc0
    conv => lhs; whnf
    unfold uniq; (repeat (first | rw [if_pos (by first | omega | decide | assumption | (simp only [uintB_l2, uintB_l1, blobB_l, seedB_len, fillB_len, idxB_len, sha256_len, fr1_len, fr2_len, fr3_len, LL] at * <;> omega) | (simp; omega))] | rw [if_neg (by first | omega | decide | assumption | (simp only [uintB_l2, uintB_l1, blobB_l, seedB_len, fillB_len, idxB_len, sha256_len, fr1_len, fr2_len, fr3_len, LL] at * <;> omega) | (simp; omega))])); try simp only [NO]
theorem ev_acheck (kind attr height : Int) (policy unique : List UInt8) : Y E0 (.call 118 [.agg [.i kind, .i attr, .i height, .sl .u8 policy, .sl .u8 unique]] []) = some (.ret (.i (chkP ⟨kind, attr, height, policy, unique⟩)) []) := by
  rw [Y_go]; conv => lhs; whnf
  rcases Bool.eq_false_or_eq_true (ilt kind 1) with hc0 | hc0
  · rw [hc0]; replace hc0 := of_ilt_t hc0; try simp only [llen_eq] at hc0
    conv => lhs; whnf
    (try simp only [ibit_eq] at *); unfold chkP; dsimp only; (repeat (first | rw [if_pos (by omega)] | rw [if_neg (by omega)])); done
  · rw [hc0]; replace hc0 := of_ilt_f hc0; try simp only [llen_eq] at hc0
    conv => lhs; whnf
    rcases Bool.eq_false_or_eq_true (ilt 3 kind) with hc1 | hc1
    · rw [hc1]; replace hc1 := of_ilt_t hc1; try simp only [llen_eq] at hc1
      conv => lhs; whnf
      (try simp only [ibit_eq] at *); unfold chkP; dsimp only; (repeat (first | rw [if_pos (by omega)] | rw [if_neg (by omega)])); done
    · rw [hc1]; replace hc1 := of_ilt_f hc1; try simp only [llen_eq] at hc1
      conv => lhs; whnf
      rcases Bool.eq_false_or_eq_true (ilt attr 0) with hc2 | hc2
      · rw [hc2]; replace hc2 := of_ilt_t hc2; try simp only [llen_eq] at hc2
        conv => lhs; whnf
        (try simp only [ibit_eq] at *); unfold chkP; dsimp only; (repeat (first | rw [if_pos (by omega)] | rw [if_neg (by omega)])); done
      · rw [hc2]; replace hc2 := of_ilt_f hc2; try simp only [llen_eq] at hc2
        conv => lhs; whnf
        rcases Bool.eq_false_or_eq_true (ilt 7 attr) with hc3 | hc3
        · rw [hc3]; replace hc3 := of_ilt_t hc3; try simp only [llen_eq] at hc3
          conv => lhs; whnf
          (try simp only [ibit_eq] at *); unfold chkP; dsimp only; (repeat (first | rw [if_pos (by omega)] | rw [if_neg (by omega)])); done
        · rw [hc3]; replace hc3 := of_ilt_f hc3; try simp only [llen_eq] at hc3
          conv => lhs; whnf
          rcases Bool.eq_false_or_eq_true (ine (ibit BinOp.and attr 4) 0) with hc4 | hc4
          · rw [hc4]; replace hc4 := of_ine_t hc4; try simp only [llen_eq] at hc4
            conv => lhs; whnf
            rw [bnot_eq]; conv => lhs; whnf
            rcases Bool.eq_false_or_eq_true (ieq kind 2) with hc5 | hc5
            · rw [hc5]; replace hc5 := of_ieq_t hc5; try simp only [llen_eq] at hc5
              subst hc5
              conv => lhs; whnf
              rcases Bool.eq_false_or_eq_true (ieq (ibit BinOp.and attr 1) 0) with hc6 | hc6
              · rw [hc6]; replace hc6 := of_ieq_t hc6; try simp only [llen_eq] at hc6
                conv => lhs; whnf
                rcases Bool.eq_false_or_eq_true (ieq (llen policy) 0) with hc7 | hc7
                · rw [hc7]; replace hc7 := of_ieq_t hc7; try simp only [llen_eq] at hc7
                  conv => lhs; whnf
                  rw [Y_go]; conv => lhs; whnf
                  (try simp only [ibit_eq] at *); unfold chkP; dsimp only; (repeat (first | rw [if_pos (by omega)] | rw [if_neg (by omega)])); done
                · rw [hc7]; replace hc7 := of_ieq_f hc7; try simp only [llen_eq] at hc7
                  conv => lhs; whnf
                  rcases Bool.eq_false_or_eq_true (ilt height 0) with hc8 | hc8
                  · rw [hc8]; replace hc8 := of_ilt_t hc8; try simp only [llen_eq] at hc8
                    conv => lhs; whnf
                    rw [Y_go]; conv => lhs; whnf
                    (try simp only [ibit_eq] at *); unfold chkP; dsimp only; (repeat (first | rw [if_pos (by omega)] | rw [if_neg (by omega)])); done
                  · rw [hc8]; replace hc8 := of_ilt_f hc8; try simp only [llen_eq] at hc8
                    conv => lhs; whnf
                    rw [Y_go]; conv => lhs; whnf
                    rcases Bool.eq_false_or_eq_true (ilt 3 height) with hc9 | hc9
                    · rw [hc9]; replace hc9 := of_ilt_t hc9; try simp only [llen_eq] at hc9
                      conv => lhs; whnf
                      (try simp only [ibit_eq] at *); unfold chkP; dsimp only; (repeat (first | rw [if_pos (by omega)] | rw [if_neg (by omega)])); done
                    · rw [hc9]; replace hc9 := of_ilt_f hc9; try simp only [llen_eq] at hc9
                      conv => lhs; whnf
                      rcases Bool.eq_false_or_eq_true (ine height 0) with hc10 | hc10
                      · rw [hc10]; replace hc10 := of_ine_t hc10; try simp only [llen_eq] at hc10
                        conv => lhs; whnf
                        rw [bnot_eq]; conv => lhs; whnf
                        rw [ine_t (by (simp only [uintB_l2, uintB_l1, blobB_l, seedB_len, fillB_len, idxB_len, sha256_len, fr1_len, fr2_len, fr3_len, LL] at * <;> omega))]
                        conv => lhs; whnf
                        rcases Bool.eq_false_or_eq_true (ine (llen policy) 32) with hc11 | hc11
                        · rw [hc11]; replace hc11 := of_ine_t hc11; try simp only [llen_eq] at hc11
                          conv => lhs; whnf
                          (try simp only [ibit_eq] at *); unfold chkP; dsimp only; (repeat (first | rw [if_pos (by omega)] | rw [if_neg (by omega)])); done
                        · rw [hc11]; replace hc11 := of_ine_f hc11; try simp only [llen_eq] at hc11
                          conv => lhs; whnf
                          rw [toReq_call]
                          rw [ev_asize _]
                          conv => lhs; whnf
                          rw [drw (by kernel_rfl)]; conv => lhs; whnf
                          rcases Bool.eq_false_or_eq_true (ine (llen unique) (uniq 2)) with hc12 | hc12
                          · rw [hc12]; replace hc12 := of_ine_t hc12; try simp only [llen_eq] at hc12
                            conv => lhs; whnf
                            (try simp only [ibit_eq] at *); unfold chkP; dsimp only; (repeat (first | rw [if_pos (by omega)] | rw [if_neg (by omega)])); done
                          · rw [hc12]; replace hc12 := of_ine_f hc12; try simp only [llen_eq] at hc12
                            conv => lhs; whnf
                            rw [Y_go]; conv => lhs; whnf
                            (try simp only [ibit_eq] at *); unfold chkP; dsimp only; (repeat (first | rw [if_pos (by omega)] | rw [if_neg (by omega)])); done
                      · rw [hc10]; replace hc10 := of_ine_f hc10; try simp only [llen_eq] at hc10
                        subst hc10
                        conv => lhs; whnf
                        rw [ine_t (by (simp only [uintB_l2, uintB_l1, blobB_l, seedB_len, fillB_len, idxB_len, sha256_len, fr1_len, fr2_len, fr3_len, LL] at * <;> omega))]
                        conv => lhs; whnf
                        rcases Bool.eq_false_or_eq_true (ine (llen policy) 32) with hc13 | hc13
                        · rw [hc13]; replace hc13 := of_ine_t hc13; try simp only [llen_eq] at hc13
                          conv => lhs; whnf
                          (try simp only [ibit_eq] at *); unfold chkP; dsimp only; (repeat (first | rw [if_pos (by omega)] | rw [if_neg (by omega)])); done
                        · rw [hc13]; replace hc13 := of_ine_f hc13; try simp only [llen_eq] at hc13
                          conv => lhs; whnf
                          rw [toReq_call]
                          rw [ev_asize _]
                          conv => lhs; whnf
                          rw [drw (by kernel_rfl)]; conv => lhs; whnf
                          rcases Bool.eq_false_or_eq_true (ine (llen unique) (uniq 2)) with hc14 | hc14
                          · rw [hc14]; replace hc14 := of_ine_t hc14; try simp only [llen_eq] at hc14
                            conv => lhs; whnf
                            (try simp only [ibit_eq] at *); unfold chkP; dsimp only; (repeat (first | rw [if_pos (by omega)] | rw [if_neg (by omega)])); done
                          · rw [hc14]; replace hc14 := of_ine_f hc14; try simp only [llen_eq] at hc14
                            conv => lhs; whnf
                            rw [Y_go]; conv => lhs; whnf
                            (try simp only [ibit_eq] at *); unfold chkP; dsimp only; (repeat (first | rw [if_pos (by omega)] | rw [if_neg (by omega)])); done
              · rw [hc6]; replace hc6 := of_ieq_f hc6; try simp only [llen_eq] at hc6
                conv => lhs; whnf
                rcases Bool.eq_false_or_eq_true (ilt height 0) with hc15 | hc15
                · rw [hc15]; replace hc15 := of_ilt_t hc15; try simp only [llen_eq] at hc15
                  conv => lhs; whnf
                  rw [Y_go]; conv => lhs; whnf
                  (try simp only [ibit_eq] at *); unfold chkP; dsimp only; (repeat (first | rw [if_pos (by omega)] | rw [if_neg (by omega)])); done
                · rw [hc15]; replace hc15 := of_ilt_f hc15; try simp only [llen_eq] at hc15
                  conv => lhs; whnf
                  rw [Y_go]; conv => lhs; whnf
                  rcases Bool.eq_false_or_eq_true (ilt 3 height) with hc16 | hc16
                  · rw [hc16]; replace hc16 := of_ilt_t hc16; try simp only [llen_eq] at hc16
                    conv => lhs; whnf
                    (try simp only [ibit_eq] at *); unfold chkP; dsimp only; (repeat (first | rw [if_pos (by omega)] | rw [if_neg (by omega)])); done
                  · rw [hc16]; replace hc16 := of_ilt_f hc16; try simp only [llen_eq] at hc16
                    conv => lhs; whnf
                    rcases Bool.eq_false_or_eq_true (ine height 0) with hc17 | hc17
                    · rw [hc17]; replace hc17 := of_ine_t hc17; try simp only [llen_eq] at hc17
                      conv => lhs; whnf
                      rw [bnot_eq]; conv => lhs; whnf
                      rcases Bool.eq_false_or_eq_true (ine (llen policy) 0) with hc18 | hc18
                      · rw [hc18]; replace hc18 := of_ine_t hc18; try simp only [llen_eq] at hc18
                        conv => lhs; whnf
                        rcases Bool.eq_false_or_eq_true (ine (llen policy) 32) with hc19 | hc19
                        · rw [hc19]; replace hc19 := of_ine_t hc19; try simp only [llen_eq] at hc19
                          conv => lhs; whnf
                          (try simp only [ibit_eq] at *); unfold chkP; dsimp only; (repeat (first | rw [if_pos (by omega)] | rw [if_neg (by omega)])); done
                        · rw [hc19]; replace hc19 := of_ine_f hc19; try simp only [llen_eq] at hc19
                          conv => lhs; whnf
                          rw [toReq_call]
                          rw [ev_asize _]
                          conv => lhs; whnf
                          rw [drw (by kernel_rfl)]; conv => lhs; whnf
                          rcases Bool.eq_false_or_eq_true (ine (llen unique) (uniq 2)) with hc20 | hc20
                          · rw [hc20]; replace hc20 := of_ine_t hc20; try simp only [llen_eq] at hc20
                            conv => lhs; whnf
                            (try simp only [ibit_eq] at *); unfold chkP; dsimp only; (repeat (first | rw [if_pos (by omega)] | rw [if_neg (by omega)])); done
                          · rw [hc20]; replace hc20 := of_ine_f hc20; try simp only [llen_eq] at hc20
                            conv => lhs; whnf
                            rw [Y_go]; conv => lhs; whnf
                            (try simp only [ibit_eq] at *); unfold chkP; dsimp only; (repeat (first | rw [if_pos (by omega)] | rw [if_neg (by omega)])); done
                      · rw [hc18]; replace hc18 := of_ine_f hc18; try simp only [llen_eq] at hc18
                        conv => lhs; whnf
                        rw [toReq_call]
                        rw [ev_asize _]
                        conv => lhs; whnf
                        rw [drw (by kernel_rfl)]; conv => lhs; whnf
                        rcases Bool.eq_false_or_eq_true (ine (llen unique) (uniq 2)) with hc21 | hc21
                        · rw [hc21]; replace hc21 := of_ine_t hc21; try simp only [llen_eq] at hc21
                          conv => lhs; whnf
                          (try simp only [ibit_eq] at *); unfold chkP; dsimp only; (repeat (first | rw [if_pos (by omega)] | rw [if_neg (by omega)])); done
                        · rw [hc21]; replace hc21 := of_ine_f hc21; try simp only [llen_eq] at hc21
                          conv => lhs; whnf
                          rw [Y_go]; conv => lhs; whnf
                          (try simp only [ibit_eq] at *); unfold chkP; dsimp only; (repeat (first | rw [if_pos (by omega)] | rw [if_neg (by omega)])); done
                    · rw [hc17]; replace hc17 := of_ine_f hc17; try simp only [llen_eq] at hc17
                      subst hc17
                      conv => lhs; whnf
                      rcases Bool.eq_false_or_eq_true (ine (llen policy) 0) with hc22 | hc22
                      · rw [hc22]; replace hc22 := of_ine_t hc22; try simp only [llen_eq] at hc22
                        conv => lhs; whnf
                        rcases Bool.eq_false_or_eq_true (ine (llen policy) 32) with hc23 | hc23
                        · rw [hc23]; replace hc23 := of_ine_t hc23; try simp only [llen_eq] at hc23
                          conv => lhs; whnf
                          (try simp only [ibit_eq] at *); unfold chkP; dsimp only; (repeat (first | rw [if_pos (by omega)] | rw [if_neg (by omega)])); done
                        · rw [hc23]; replace hc23 := of_ine_f hc23; try simp only [llen_eq] at hc23
                          conv => lhs; whnf
                          rw [toReq_call]
                          rw [ev_asize _]
                          conv => lhs; whnf
                          rw [drw (by kernel_rfl)]; conv => lhs; whnf
                          rcases Bool.eq_false_or_eq_true (ine (llen unique) (uniq 2)) with hc24 | hc24
                          · rw [hc24]; replace hc24 := of_ine_t hc24; try simp only [llen_eq] at hc24
                            conv => lhs; whnf
                            (try simp only [ibit_eq] at *); unfold chkP; dsimp only; (repeat (first | rw [if_pos (by omega)] | rw [if_neg (by omega)])); done
                          · rw [hc24]; replace hc24 := of_ine_f hc24; try simp only [llen_eq] at hc24
                            conv => lhs; whnf
                            rw [Y_go]; conv => lhs; whnf
                            (try simp only [ibit_eq] at *); unfold chkP; dsimp only; (repeat (first | rw [if_pos (by omega)] | rw [if_neg (by omega)])); done
                      · rw [hc22]; replace hc22 := of_ine_f hc22; try simp only [llen_eq] at hc22
                        conv => lhs; whnf
                        rw [toReq_call]
                        rw [ev_asize _]
                        conv => lhs; whnf
                        rw [drw (by kernel_rfl)]; conv => lhs; whnf
                        rcases Bool.eq_false_or_eq_true (ine (llen unique) (uniq 2)) with hc25 | hc25
                        · rw [hc25]; replace hc25 := of_ine_t hc25; try simp only [llen_eq] at hc25
                          conv => lhs; whnf
                          (try simp only [ibit_eq] at *); unfold chkP; dsimp only; (repeat (first | rw [if_pos (by omega)] | rw [if_neg (by omega)])); done
                        · rw [hc25]; replace hc25 := of_ine_f hc25; try simp only [llen_eq] at hc25
                          conv => lhs; whnf
                          rw [Y_go]; conv => lhs; whnf
                          (try simp only [ibit_eq] at *); unfold chkP; dsimp only; (repeat (first | rw [if_pos (by omega)] | rw [if_neg (by omega)])); done
            · rw [hc5]; replace hc5 := of_ieq_f hc5; try simp only [llen_eq] at hc5
              conv => lhs; whnf
              (try simp only [ibit_eq] at *); unfold chkP; dsimp only; (repeat (first | rw [if_pos (by omega)] | rw [if_neg (by omega)])); done
          · rw [hc4]; replace hc4 := of_ine_f hc4; try simp only [llen_eq] at hc4
            conv => lhs; whnf
            rcases Bool.eq_false_or_eq_true (ieq (ibit BinOp.and attr 1) 0) with hc26 | hc26
            · rw [hc26]; replace hc26 := of_ieq_t hc26; try simp only [llen_eq] at hc26
              conv => lhs; whnf
              rcases Bool.eq_false_or_eq_true (ieq (llen policy) 0) with hc27 | hc27
              · rw [hc27]; replace hc27 := of_ieq_t hc27; try simp only [llen_eq] at hc27
                conv => lhs; whnf
                (try simp only [ibit_eq] at *); unfold chkP; dsimp only; (repeat (first | rw [if_pos (by omega)] | rw [if_neg (by omega)])); done
              · rw [hc27]; replace hc27 := of_ieq_f hc27; try simp only [llen_eq] at hc27
                conv => lhs; whnf
                rcases Bool.eq_false_or_eq_true (ilt height 0) with hc28 | hc28
                · rw [hc28]; replace hc28 := of_ilt_t hc28; try simp only [llen_eq] at hc28
                  conv => lhs; whnf
                  rw [Y_go]; conv => lhs; whnf
                  (try simp only [ibit_eq] at *); unfold chkP; dsimp only; (repeat (first | rw [if_pos (by omega)] | rw [if_neg (by omega)])); done
                · rw [hc28]; replace hc28 := of_ilt_f hc28; try simp only [llen_eq] at hc28
                  conv => lhs; whnf
                  rw [Y_go]; conv => lhs; whnf
                  rcases Bool.eq_false_or_eq_true (ilt 3 height) with hc29 | hc29
                  · rw [hc29]; replace hc29 := of_ilt_t hc29; try simp only [llen_eq] at hc29
                    conv => lhs; whnf
                    (try simp only [ibit_eq] at *); unfold chkP; dsimp only; (repeat (first | rw [if_pos (by omega)] | rw [if_neg (by omega)])); done
                  · rw [hc29]; replace hc29 := of_ilt_f hc29; try simp only [llen_eq] at hc29
                    conv => lhs; whnf
                    rcases Bool.eq_false_or_eq_true (ine height 0) with hc30 | hc30
                    · rw [hc30]; replace hc30 := of_ine_t hc30; try simp only [llen_eq] at hc30
                      conv => lhs; whnf
                      rw [bnot_eq]; conv => lhs; whnf
                      rcases Bool.eq_false_or_eq_true (ieq kind 2) with hc31 | hc31
                      · rw [hc31]; replace hc31 := of_ieq_t hc31; try simp only [llen_eq] at hc31
                        subst hc31
                        conv => lhs; whnf
                        rw [ine_t (by (simp only [uintB_l2, uintB_l1, blobB_l, seedB_len, fillB_len, idxB_len, sha256_len, fr1_len, fr2_len, fr3_len, LL] at * <;> omega))]
                        conv => lhs; whnf
                        rcases Bool.eq_false_or_eq_true (ine (llen policy) 32) with hc32 | hc32
                        · rw [hc32]; replace hc32 := of_ine_t hc32; try simp only [llen_eq] at hc32
                          conv => lhs; whnf
                          (try simp only [ibit_eq] at *); unfold chkP; dsimp only; (repeat (first | rw [if_pos (by omega)] | rw [if_neg (by omega)])); done
                        · rw [hc32]; replace hc32 := of_ine_f hc32; try simp only [llen_eq] at hc32
                          conv => lhs; whnf
                          rw [toReq_call]
                          rw [ev_asize _]
                          conv => lhs; whnf
                          rw [drw (by kernel_rfl)]; conv => lhs; whnf
                          rcases Bool.eq_false_or_eq_true (ine (llen unique) (uniq 2)) with hc33 | hc33
                          · rw [hc33]; replace hc33 := of_ine_t hc33; try simp only [llen_eq] at hc33
                            conv => lhs; whnf
                            (try simp only [ibit_eq] at *); unfold chkP; dsimp only; (repeat (first | rw [if_pos (by omega)] | rw [if_neg (by omega)])); done
                          · rw [hc33]; replace hc33 := of_ine_f hc33; try simp only [llen_eq] at hc33
                            conv => lhs; whnf
                            rw [Y_go]; conv => lhs; whnf
                            (try simp only [ibit_eq] at *); unfold chkP; dsimp only; (repeat (first | rw [if_pos (by omega)] | rw [if_neg (by omega)])); done
                      · rw [hc31]; replace hc31 := of_ieq_f hc31; try simp only [llen_eq] at hc31
                        conv => lhs; whnf
                        (try simp only [ibit_eq] at *); unfold chkP; dsimp only; (repeat (first | rw [if_pos (by omega)] | rw [if_neg (by omega)])); done
                    · rw [hc30]; replace hc30 := of_ine_f hc30; try simp only [llen_eq] at hc30
                      subst hc30
                      conv => lhs; whnf
                      rw [ine_t (by (simp only [uintB_l2, uintB_l1, blobB_l, seedB_len, fillB_len, idxB_len, sha256_len, fr1_len, fr2_len, fr3_len, LL] at * <;> omega))]
                      conv => lhs; whnf
                      rcases Bool.eq_false_or_eq_true (ine (llen policy) 32) with hc34 | hc34
                      · rw [hc34]; replace hc34 := of_ine_t hc34; try simp only [llen_eq] at hc34
                        conv => lhs; whnf
                        (try simp only [ibit_eq] at *); unfold chkP; dsimp only; (repeat (first | rw [if_pos (by omega)] | rw [if_neg (by omega)])); done
                      · rw [hc34]; replace hc34 := of_ine_f hc34; try simp only [llen_eq] at hc34
                        conv => lhs; whnf
                        rw [toReq_call]
                        rw [ev_asize _]
                        conv => lhs; whnf
                        rw [drw (by kernel_rfl)]; conv => lhs; whnf
                        rcases Bool.eq_false_or_eq_true (ine (llen unique) (uniq kind)) with hc35 | hc35
                        · rw [hc35]; replace hc35 := of_ine_t hc35; try simp only [llen_eq] at hc35
                          conv => lhs; whnf
                          (try simp only [ibit_eq] at *); unfold chkP; dsimp only; (repeat (first | rw [if_pos (by omega)] | rw [if_neg (by omega)])); done
                        · rw [hc35]; replace hc35 := of_ine_f hc35; try simp only [llen_eq] at hc35
                          conv => lhs; whnf
                          rw [Y_go]; conv => lhs; whnf
                          (try simp only [ibit_eq] at *); unfold chkP; dsimp only; (repeat (first | rw [if_pos (by omega)] | rw [if_neg (by omega)])); done
            · rw [hc26]; replace hc26 := of_ieq_f hc26; try simp only [llen_eq] at hc26
              conv => lhs; whnf
              rcases Bool.eq_false_or_eq_true (ilt height 0) with hc36 | hc36
              · rw [hc36]; replace hc36 := of_ilt_t hc36; try simp only [llen_eq] at hc36
                conv => lhs; whnf
                rw [Y_go]; conv => lhs; whnf
                (try simp only [ibit_eq] at *); unfold chkP; dsimp only; (repeat (first | rw [if_pos (by omega)] | rw [if_neg (by omega)])); done
              · rw [hc36]; replace hc36 := of_ilt_f hc36; try simp only [llen_eq] at hc36
                conv => lhs; whnf
                rw [Y_go]; conv => lhs; whnf
                rcases Bool.eq_false_or_eq_true (ilt 3 height) with hc37 | hc37
                · rw [hc37]; replace hc37 := of_ilt_t hc37; try simp only [llen_eq] at hc37
                  conv => lhs; whnf
                  (try simp only [ibit_eq] at *); unfold chkP; dsimp only; (repeat (first | rw [if_pos (by omega)] | rw [if_neg (by omega)])); done
                · rw [hc37]; replace hc37 := of_ilt_f hc37; try simp only [llen_eq] at hc37
                  conv => lhs; whnf
                  rcases Bool.eq_false_or_eq_true (ine height 0) with hc38 | hc38
                  · rw [hc38]; replace hc38 := of_ine_t hc38; try simp only [llen_eq] at hc38
                    conv => lhs; whnf
                    rw [bnot_eq]; conv => lhs; whnf
                    rcases Bool.eq_false_or_eq_true (ieq kind 2) with hc39 | hc39
                    · rw [hc39]; replace hc39 := of_ieq_t hc39; try simp only [llen_eq] at hc39
                      subst hc39
                      conv => lhs; whnf
                      rcases Bool.eq_false_or_eq_true (ine (llen policy) 0) with hc40 | hc40
                      · rw [hc40]; replace hc40 := of_ine_t hc40; try simp only [llen_eq] at hc40
                        conv => lhs; whnf
                        rcases Bool.eq_false_or_eq_true (ine (llen policy) 32) with hc41 | hc41
                        · rw [hc41]; replace hc41 := of_ine_t hc41; try simp only [llen_eq] at hc41
                          conv => lhs; whnf
                          (try simp only [ibit_eq] at *); unfold chkP; dsimp only; (repeat (first | rw [if_pos (by omega)] | rw [if_neg (by omega)])); done
                        · rw [hc41]; replace hc41 := of_ine_f hc41; try simp only [llen_eq] at hc41
                          conv => lhs; whnf
                          rw [toReq_call]
                          rw [ev_asize _]
                          conv => lhs; whnf
                          rw [drw (by kernel_rfl)]; conv => lhs; whnf
                          rcases Bool.eq_false_or_eq_true (ine (llen unique) (uniq 2)) with hc42 | hc42
                          · rw [hc42]; replace hc42 := of_ine_t hc42; try simp only [llen_eq] at hc42
                            conv => lhs; whnf
                            (try simp only [ibit_eq] at *); unfold chkP; dsimp only; (repeat (first | rw [if_pos (by omega)] | rw [if_neg (by omega)])); done
                          · rw [hc42]; replace hc42 := of_ine_f hc42; try simp only [llen_eq] at hc42
                            conv => lhs; whnf
                            rw [Y_go]; conv => lhs; whnf
                            (try simp only [ibit_eq] at *); unfold chkP; dsimp only; (repeat (first | rw [if_pos (by omega)] | rw [if_neg (by omega)])); done
                      · rw [hc40]; replace hc40 := of_ine_f hc40; try simp only [llen_eq] at hc40
                        conv => lhs; whnf
                        rw [toReq_call]
                        rw [ev_asize _]
                        conv => lhs; whnf
                        rw [drw (by kernel_rfl)]; conv => lhs; whnf
                        rcases Bool.eq_false_or_eq_true (ine (llen unique) (uniq 2)) with hc43 | hc43
                        · rw [hc43]; replace hc43 := of_ine_t hc43; try simp only [llen_eq] at hc43
                          conv => lhs; whnf
                          (try simp only [ibit_eq] at *); unfold chkP; dsimp only; (repeat (first | rw [if_pos (by omega)] | rw [if_neg (by omega)])); done
                        · rw [hc43]; replace hc43 := of_ine_f hc43; try simp only [llen_eq] at hc43
                          conv => lhs; whnf
                          rw [Y_go]; conv => lhs; whnf
                          (try simp only [ibit_eq] at *); unfold chkP; dsimp only; (repeat (first | rw [if_pos (by omega)] | rw [if_neg (by omega)])); done
                    · rw [hc39]; replace hc39 := of_ieq_f hc39; try simp only [llen_eq] at hc39
                      conv => lhs; whnf
                      (try simp only [ibit_eq] at *); unfold chkP; dsimp only; (repeat (first | rw [if_pos (by omega)] | rw [if_neg (by omega)])); done
                  · rw [hc38]; replace hc38 := of_ine_f hc38; try simp only [llen_eq] at hc38
                    subst hc38
                    conv => lhs; whnf
                    rcases Bool.eq_false_or_eq_true (ine (llen policy) 0) with hc44 | hc44
                    · rw [hc44]; replace hc44 := of_ine_t hc44; try simp only [llen_eq] at hc44
                      conv => lhs; whnf
                      rcases Bool.eq_false_or_eq_true (ine (llen policy) 32) with hc45 | hc45
                      · rw [hc45]; replace hc45 := of_ine_t hc45; try simp only [llen_eq] at hc45
                        conv => lhs; whnf
                        (try simp only [ibit_eq] at *); unfold chkP; dsimp only; (repeat (first | rw [if_pos (by omega)] | rw [if_neg (by omega)])); done
                      · rw [hc45]; replace hc45 := of_ine_f hc45; try simp only [llen_eq] at hc45
                        conv => lhs; whnf
                        rw [toReq_call]
                        rw [ev_asize _]
                        conv => lhs; whnf
                        rw [drw (by kernel_rfl)]; conv => lhs; whnf
                        rcases Bool.eq_false_or_eq_true (ine (llen unique) (uniq kind)) with hc46 | hc46
                        · rw [hc46]; replace hc46 := of_ine_t hc46; try simp only [llen_eq] at hc46
                          conv => lhs; whnf
                          (try simp only [ibit_eq] at *); unfold chkP; dsimp only; (repeat (first | rw [if_pos (by omega)] | rw [if_neg (by omega)])); done
                        · rw [hc46]; replace hc46 := of_ine_f hc46; try simp only [llen_eq] at hc46
                          conv => lhs; whnf
                          rw [Y_go]; conv => lhs; whnf
                          (try simp only [ibit_eq] at *); unfold chkP; dsimp only; (repeat (first | rw [if_pos (by omega)] | rw [if_neg (by omega)])); done
                    · rw [hc44]; replace hc44 := of_ine_f hc44; try simp only [llen_eq] at hc44
                      conv => lhs; whnf
                      rw [toReq_call]
                      rw [ev_asize _]
                      conv => lhs; whnf
                      rw [drw (by kernel_rfl)]; conv => lhs; whnf
                      rcases Bool.eq_false_or_eq_true (ine (llen unique) (uniq kind)) with hc47 | hc47
                      · rw [hc47]; replace hc47 := of_ine_t hc47; try simp only [llen_eq] at hc47
                        conv => lhs; whnf
                        (try simp only [ibit_eq] at *); unfold chkP; dsimp only; (repeat (first | rw [if_pos (by omega)] | rw [if_neg (by omega)])); done
                      · rw [hc47]; replace hc47 := of_ine_f hc47; try simp only [llen_eq] at hc47
                        conv => lhs; whnf
                        rw [Y_go]; conv => lhs; whnf
                        (try simp only [ibit_eq] at *); unfold chkP; dsimp only; (repeat (first | rw [if_pos (by omega)] | rw [if_neg (by omega)])); done
theorem ev_aenc (kind attr height : Int) (policy unique : List UInt8) (hp : policy.length ≤ 1000000) (hu : unique.length ≤ 1000000) : Y E0 (.call 48 [.agg [.i kind, .i attr, .i height, .sl .u8 policy, .sl .u8 unique]] []) = some (.ret (.sl .u8 (encP ⟨kind, attr, height, policy, unique⟩)) []) := by
  rw [Y_go]; conv => lhs; whnf
  rw [toReq_call]
  rw [ev_blob _ _ (by (simp only [uintB_l2, uintB_l1, blobB_l, seedB_len, fillB_len, idxB_len, sha256_len, fr1_len, fr2_len, fr3_len, LL] at * <;> omega))]
  conv => lhs; whnf
  rw [toReq_call]
  rw [ev_blob _ _ (by (simp only [uintB_l2, uintB_l1, blobB_l, seedB_len, fillB_len, idxB_len, sha256_len, fr1_len, fr2_len, fr3_len, LL] at * <;> omega))]
  conv => lhs; whnf
  rw [drw (by kernel_rfl)]; conv => lhs; whnf
  (simp only [iu8_eq]; rfl)
theorem ev_adec_l1 (b : List UInt8) {v0 v1 v2 er0 er1 er2 : Int} {p0 p1 p2 : Nat} (hb : b.length ≤ 4294967296) (g0 : rdU b 0 0 1 = (v0, p0, er0)) (g1 : rdU b p0 er0 1 = (v1, p1, er1)) (g2 : rdU b p1 er1 1 = (v2, p2, er2)) :
    Y E0 (.loop 85 0 0 4 [(2, .pa 0 0), (4, .pa 1 0), (5, .pa 2 0), (17, .nm 3), (18, .i 3), (19, .i 0)] [(0, some (.var [.i 0, .i 0, .i 0, .nil, .nil])), (1, some (.var [.sl .u8 b, .i 0, .i 0])), (2, some (.var [.i 0, .i 0, .i 0, .nil, .nil])), (3, some (.rowA 188 1 3 [.pa 2 0, .pa 2 1, .pa 2 2]))]) = some (.fin (.exit 0) 3 [(2, .pa 0 0), (4, .pa 1 0), (5, .pa 2 0)] [(0, some (.var [.i 0, .i 0, .i 0, .nil, .nil])), (1, some (.var [.sl .u8 b, .i p2, .i er2])), (2, some (.var [.i v0, .i v1, .i v2, .nil, .nil]))]) := by
  have k0 : p0 ≤ b.length := by have := rdU_le (b := b) (at' := 0) (e := 0) (size := 1) (Nat.zero_le _); rw [g0] at this; exact this
  have k1 : p1 ≤ b.length := by have := rdU_le (b := b) (at' := p0) (e := er0) (size := 1) k0; rw [g1] at this; exact this
  have k2 : p2 ≤ b.length := by have := rdU_le (b := b) (at' := p1) (e := er1) (size := 1) k1; rw [g2] at this; exact this
  rw [Y_go]; conv => lhs; whnf
  rw [ilt_t (by omega)]
  conv => lhs; whnf
  rw [ile_t (by omega)]
  conv => lhs; whnf
  rw [ilt_t (by omega)]
  conv => lhs; whnf
  rw [toReq_call]
  rw [show Y E0 (.call 149 [.pa 0 0, .i 1] [.var [.sl .u8 b, .i 0, .i 0]]) = _ from ev_ruint b 0 0 1 hb (Nat.zero_le _), g0]
  conv => lhs; whnf
  rw [iadd_eq (by omega)]
  rw [Y_go]; conv => lhs; whnf
  rw [ilt_t (by omega)]
  conv => lhs; whnf
  rw [ile_t (by omega)]
  conv => lhs; whnf
  rw [ilt_t (by omega)]
  conv => lhs; whnf
  rw [toReq_call]
  rw [ev_ruint b p0 er0 1 hb k0, g1]
  conv => lhs; whnf
  rw [iadd_eq (by omega)]
  rw [Y_go]; conv => lhs; whnf
  rw [ilt_t (by omega)]
  conv => lhs; whnf
  rw [ile_t (by omega)]
  conv => lhs; whnf
  rw [ilt_t (by omega)]
  conv => lhs; whnf
  rw [toReq_call]
  rw [ev_ruint b p1 er1 1 hb k1, g2]
  conv => lhs; whnf
  rw [iadd_eq (by omega)]
  rw [Y_go]; conv => lhs; whnf
  rw [ilt_f (by omega)]
  conv => lhs; whnf
theorem ev_adec_l2 (b : List UInt8) (v0 v1 v2 : Int) {v3 v4 : List UInt8} {er2 er3 er4 : Int} {p2 p3 p4 : Nat} (hb : b.length ≤ 4294967296) (k2 : p2 ≤ b.length) (g3 : rdB b p2 er2 32 = (v3, p3, er3)) (g4 : rdB b p3 er3 32 = (v4, p4, er4)) :
    Y E0 (.loop 85 1 0 4 [(2, .pa 0 0), (4, .pa 1 0), (5, .pa 2 0), (30, .nm 3), (31, .i 2), (32, .i 0)] [(0, some (.var [.i 0, .i 0, .i 0, .nil, .nil])), (1, some (.var [.sl .u8 b, .i p2, .i er2])), (2, some (.var [.i v0, .i v1, .i v2, .nil, .nil])), (3, some (.rowA 190 1 2 [.pa 2 3, .pa 2 4]))]) = some (.fin (.exit 2) 3 [(2, .pa 0 0), (4, .pa 1 0), (5, .pa 2 0)] [(0, some (.var [.i 0, .i 0, .i 0, .nil, .nil])), (1, some (.var [.sl .u8 b, .i p4, .i er4])), (2, some (.var [.i v0, .i v1, .i v2, .sl .u8 v3, .sl .u8 v4]))]) := by
  have k3 : p3 ≤ b.length := by have := rdB_le (b := b) (at' := p2) (e := er2) (most := 32) k2; rw [g3] at this; exact this
  rw [Y_go]; conv => lhs; whnf
  rw [ilt_t (by omega)]
  conv => lhs; whnf
  rw [ile_t (by omega)]
  conv => lhs; whnf
  rw [ilt_t (by omega)]
  conv => lhs; whnf
  rw [toReq_call]
  rw [ev_rblob b p2 er2 32 hb k2, g3]
  conv => lhs; whnf
  rw [iadd_eq (by omega)]
  rw [Y_go]; conv => lhs; whnf
  rw [ilt_t (by omega)]
  conv => lhs; whnf
  rw [ile_t (by omega)]
  conv => lhs; whnf
  rw [ilt_t (by omega)]
  conv => lhs; whnf
  rw [toReq_call]
  rw [ev_rblob b p3 er3 32 hb k3, g4]
  conv => lhs; whnf
  rw [iadd_eq (by omega)]
  rw [Y_go]; conv => lhs; whnf
  rw [ilt_f (by omega)]
  conv => lhs; whnf
theorem ev_adec (b : List UInt8) (hb : b.length ≤ 4294967296) : Y E0 (.call 85 [.sl .u8 b] []) = some (.ret (.tup [.agg (pubX (decP b).1), .i (decP b).2]) []) := by
  rw [Y_go]; conv => lhs; whnf
  rw [toReq_call]
  rw [ev_new _ (by omega)]
  conv => lhs; whnf
  rw [toReq_loop]
  rw [show ((3 : Nat) : Int) = 3 from rfl]; generalize g0 : rdU b 0 0 1 = x0; obtain ⟨v0, p0, er0⟩ := x0; generalize g1 : rdU b p0 er0 1 = x1; obtain ⟨v1, p1, er1⟩ := x1; generalize g2 : rdU b p1 er1 1 = x2; obtain ⟨v2, p2, er2⟩ := x2; rw [ev_adec_l1 b hb g0 g1 g2]
  conv => lhs; whnf
  rw [toReq_loop]
  rw [show ((2 : Nat) : Int) = 2 from rfl]; have k0 : p0 ≤ b.length := (by have := rdU_le (b := b) (at' := 0) (e := 0) (size := 1) (Nat.zero_le _); rw [g0] at this; exact this); have k1 : p1 ≤ b.length := (by have := rdU_le (b := b) (at' := p0) (e := er0) (size := 1) k0; rw [g1] at this; exact this); have k2 : p2 ≤ b.length := (by have := rdU_le (b := b) (at' := p1) (e := er1) (size := 1) k1; rw [g2] at this; exact this); generalize g3 : rdB b p2 er2 32 = x3; obtain ⟨v3, p3, er3⟩ := x3; generalize g4 : rdB b p3 er3 32 = x4; obtain ⟨v4, p4, er4⟩ := x4; have k3 : p3 ≤ b.length := (by have := rdB_le (b := b) (at' := p2) (e := er2) (most := 32) k2; rw [g3] at this; exact this); have k4 : p4 ≤ b.length := (by have := rdB_le (b := b) (at' := p3) (e := er3) (most := 32) k3; rw [g4] at this; exact this); have l3 := rdB_len (b := b) (at' := p2) (e := er2) (most := 32); rw [g3] at l3; have l4 := rdB_len (b := b) (at' := p3) (e := er3) (most := 32); rw [g4] at l4; rw [ev_adec_l2 b v0 v1 v2 hb k2 g3 g4]
  conv => lhs; whnf
  rw [toReq_call]
  rw [ev_rend _ _ _ (by omega) (by omega)]
  conv => lhs; whnf
  rcases Bool.eq_false_or_eq_true (ine (rdE b p4 er4) 0) with hc0 | hc0
  · rw [hc0]; replace hc0 := of_ine_t hc0; try simp only [llen_eq] at hc0
    conv => lhs; whnf
    rw [decP_of g0 g1 g2 g3 g4]; (repeat (first | rw [if_pos (by first | omega | decide | assumption | (simp only [uintB_l2, uintB_l1, blobB_l, seedB_len, fillB_len, idxB_len, sha256_len, fr1_len, fr2_len, fr3_len, LL] at * <;> omega) | (simp; omega))] | rw [if_neg (by first | omega | decide | assumption | (simp only [uintB_l2, uintB_l1, blobB_l, seedB_len, fillB_len, idxB_len, sha256_len, fr1_len, fr2_len, fr3_len, LL] at * <;> omega) | (simp; omega))])); rfl
  · rw [hc0]; replace hc0 := of_ine_f hc0; try simp only [llen_eq] at hc0
    conv => lhs; whnf
    rw [toReq_call]
    rw [ev_acheck _ _ _ _ _]
    conv => lhs; whnf
    rcases Bool.eq_false_or_eq_true (ine (chkP { kind := (v0, v1, v2, v3, v4).fst, attr := (v0, v1, v2, v3, v4).snd.fst, height := (v0, v1, v2, v3, v4).snd.snd.fst, policy := (v0, v1, v2, v3, v4).snd.snd.snd.fst, unique := (v0, v1, v2, v3, v4).snd.snd.snd.snd }) 0) with hc1 | hc1
    · rw [hc1]; replace hc1 := of_ine_t hc1; try simp only [llen_eq] at hc1
      conv => lhs; whnf
      rw [decP_of g0 g1 g2 g3 g4]; (repeat (first | rw [if_pos (by first | omega | decide | assumption | (simp only [uintB_l2, uintB_l1, blobB_l, seedB_len, fillB_len, idxB_len, sha256_len, fr1_len, fr2_len, fr3_len, LL] at * <;> omega) | (simp; omega))] | rw [if_neg (by first | omega | decide | assumption | (simp only [uintB_l2, uintB_l1, blobB_l, seedB_len, fillB_len, idxB_len, sha256_len, fr1_len, fr2_len, fr3_len, LL] at * <;> omega) | (simp; omega))])); rfl
    · rw [hc1]; replace hc1 := of_ine_f hc1; try simp only [llen_eq] at hc1
      conv => lhs; whnf
      rw [decP_of g0 g1 g2 g3 g4]; (repeat (first | rw [if_pos (by first | omega | decide | assumption | (simp only [uintB_l2, uintB_l1, blobB_l, seedB_len, fillB_len, idxB_len, sha256_len, fr1_len, fr2_len, fr3_len, LL] at * <;> omega) | (simp; omega))] | rw [if_neg (by first | omega | decide | assumption | (simp only [uintB_l2, uintB_l1, blobB_l, seedB_len, fillB_len, idxB_len, sha256_len, fr1_len, fr2_len, fr3_len, LL] at * <;> omega) | (simp; omega))])); done
theorem ev_aname (kind attr height : Int) (policy unique : List UInt8) (hp : policy.length ≤ 60000) (hu : unique.length ≤ 60000) : Y E0 (.call 49 [.agg [.i kind, .i attr, .i height, .sl .u8 policy, .sl .u8 unique]] []) = some (.ret (.sl .u8 (nameB ⟨kind, attr, height, policy, unique⟩)) []) := by
  have hl := encP_len (p := ⟨kind, attr, height, policy, unique⟩) (Nat.le_trans hp (by decide)) (Nat.le_trans hu (by decide))
  rw [Y_go]; conv => lhs; whnf
  rw [toReq_call]
  rw [ev_aenc _ _ _ _ _ (by (simp only [uintB_l2, uintB_l1, blobB_l, seedB_len, fillB_len, idxB_len, sha256_len, fr1_len, fr2_len, fr3_len, LL] at * <;> omega)) (by (simp only [uintB_l2, uintB_l1, blobB_l, seedB_len, fillB_len, idxB_len, sha256_len, fr1_len, fr2_len, fr3_len, LL] at * <;> omega))]
  conv => lhs; whnf
  rw [toReq_call]
  rw [ev_dig_hash _ _ (by (simp only [uintB_l2, uintB_l1, blobB_l, seedB_len, fillB_len, idxB_len, sha256_len, fr1_len, fr2_len, fr3_len, LL] at * <;> omega)) (by (simp only [uintB_l2, uintB_l1, blobB_l, seedB_len, fillB_len, idxB_len, sha256_len, fr1_len, fr2_len, fr3_len, LL] at * <;> omega))]
  conv => lhs; whnf
  rfl
end Go.Proofs.YtfjcmolccckhhaaGreatDoor

namespace Go.Ax
open Go Go.Eng Go.RowKit
set_option linter.unusedVariables false
set_option linter.unusedSimpArgs false
def xorB (a b : List UInt8) : List UInt8 := List.zipWith (· ^^^ ·) a b
def encryptL : List UInt8 := [101, 110, 99, 114, 121, 112, 116]
def authL : List UInt8 := [97, 117, 116, 104, 101, 110, 116, 105, 99, 97, 116, 101]
def strB (key nonce b : List UInt8) : List UInt8 := xorB b (derB key encryptL nonce (b.length : Int))
def tagB (key nonce ad c : List UInt8) : List UInt8 := macB (derB key authL nonce 32) (frameB 0 [ad, nonce, c])
def formB (nonce c t : List UInt8) : List UInt8 := blobB (blobB [] nonce) c ++ t
def sealB (key nonce ad plain : List UInt8) : List UInt8 :=
  if 64 < nonce.length ∨ 1024 < plain.length then [] else formB nonce (strB key nonce plain) (tagB key nonce ad (strB key nonce plain))
def openB (key ad b : List UInt8) : List UInt8 × Int :=
  let n := rdB b 0 0 64
  let c := rdB b n.2.1 n.2.2 1024
  let t := rdR b c.2.1 c.2.2 32
  let e := rdE b t.2.1 t.2.2
  if e ≠ 0 then ([], e) else if t.1 ≠ tagB key n.1 ad c.1 then ([], 18) else (strB key n.1 c.1, 0)
theorem derB_len0 {key label ctx : List UInt8} {n : Nat} (h : n ≤ 1024) : (derB key label ctx (n : Int)).length = n := by
  rcases Nat.eq_zero_or_pos n with rfl | hp
  · rfl
  · rw [derB_len (by omega)]; simp
theorem strB_len {key nonce b : List UInt8} (h : b.length ≤ 1024) : (strB key nonce b).length = b.length := by
  rw [strB, xorB, List.length_zipWith, derB_len0 h, Nat.min_self]
theorem tagB_len (key nonce ad c : List UInt8) : (tagB key nonce ad c).length = 32 := macB_len _ _
theorem openB_of {b key ad v0 v1 v2 : List UInt8} {er0 er1 er2 : Int} {p0 p1 p2 : Nat}
    (g0 : rdB b 0 0 64 = (v0, p0, er0)) (g1 : rdB b p0 er0 1024 = (v1, p1, er1)) (g2 : rdR b p1 er1 32 = (v2, p2, er2)) :
    openB key ad b = if rdE b p2 er2 ≠ 0 then ([], rdE b p2 er2) else if v2 ≠ tagB key v0 ad v1 then ([], 18) else (strB key v0 v1, 0) := by
  simp only [openB, g0, g1, g2]
theorem openB_len {key ad b : List UInt8} : (openB key ad b).1.length ≤ b.length := by
  unfold openB; dsimp only
  split
  · simp
  · split
    · simp
    · simp only [strB, xorB, List.length_zipWith]
      have := rdB_len (b := b) (at' := (rdB b 0 0 64).2.1) (e := (rdB b 0 0 64).2.2) (most := 1024)
      omega
end Go.Ax

namespace Go.Ax
def orx (d : UInt8) : List UInt8 → List UInt8 → UInt8
  | a :: x, b :: y => orx (d ||| (a ^^^ b)) x y
  | _, _ => d
theorem orx_zero : ∀ (a b : List UInt8) (d : UInt8), a.length = b.length → (orx d a b = 0 ↔ d = 0 ∧ a = b)
  | [], [], d, _ => by simp [orx]
  | x :: a, y :: b, d, h => by
    rw [orx, orx_zero a b _ (by simpa using h), UInt8.or_eq_zero_iff, UInt8.xor_eq_zero_iff, List.cons.injEq, and_assoc]
  | [], y :: b, d, h => by simp at h
  | x :: a, [], d, h => by simp at h
theorem orx_drop (d : UInt8) (a b : List UInt8) (h : a.length = b.length) (j : Nat) (hj : j < a.length) : orx d (a.drop j) (b.drop j) = orx (d ||| (a[j] ^^^ b[j])) (a.drop (j + 1)) (b.drop (j + 1)) := by
  rw [List.drop_eq_getElem_cons hj, List.drop_eq_getElem_cons (show j < b.length by omega), orx]
theorem xorB_len (b k : List UInt8) (h : k.length = b.length) : (xorB b k).length = b.length := by rw [xorB, List.length_zipWith, h, Nat.min_self]
theorem fill_set (b k : List UInt8) (h : k.length = b.length) (j : Nat) (hj : j < b.length) :
    ((xorB b k).take j ++ List.replicate (b.length - j) 0).set j (b[j] ^^^ k[j]) = (xorB b k).take (j + 1) ++ List.replicate (b.length - (j + 1)) 0 := by
  have hl := xorB_len b k h
  have hx : (xorB b k)[j]'(by omega) = b[j] ^^^ k[j] := by simp [xorB]
  rw [List.take_succ_eq_append_getElem (by omega), hx, List.set_append, if_neg (by rw [List.length_take]; omega), List.length_take, show j - min j (xorB b k).length = 0 from by omega,
    show b.length - j = (b.length - (j + 1)) + 1 from by omega, List.replicate_succ, List.set_cons_zero, List.append_assoc]
  rfl
theorem fill_len (b k : List UInt8) (h : k.length = b.length) (j : Nat) (hj : j ≤ b.length) : ((xorB b k).take j ++ List.replicate (b.length - j) (0 : UInt8)).length = b.length := by
  have hl := xorB_len b k h
  simp; omega
end Go.Ax
namespace Go.Proofs.YtfjcmolccckhhaaGreatDoor
open Go Go.Ax Go.Eng
set_option linter.unusedVariables false
set_option linter.unusedSimpArgs false
attribute [local irreducible] iadd isub imul iquo irem ibit ineg ieq ine ilt ile ishl ishr beq' bnot and' seq' u8op u8rem u32op u64op u8shr u8shl u64shr u64shl u32shr u32shl i64w u8i u64i iu8 iu32 iu64 u8u64 u64u8 u32u8 u64cmp u8cmp u32cmp llen lget linb lset lcut lrep lapp lcpy lemp fits fitn ieqs sealed drawChk fpSame
set_option maxHeartbeats 4000000
set_option maxRecDepth 100000
theorem ev_equal_loop (a b : List UInt8) (h : a.length = b.length) (ha : a.length ≤ 4294967296) : ∀ (n j : Nat) (d : UInt8), j + n = a.length → Y E0 (.loop 153 0 0 0 [(0, .sl .u8 a), (1, .sl .u8 b), (5, .u8 d), (13, .i a.length), (14, .i (j : Int))] []) = some (.fin (.exit 0) 0 [(5, .u8 (orx d (a.drop j) (b.drop j)))] [])
  | 0, j, d, hj => by
    rw [List.drop_eq_nil_of_le (by omega), List.drop_eq_nil_of_le (by omega), orx]
    rw [Y_go]; conv => lhs; whnf
    rw [ilt_f (by omega)]
    conv => lhs; whnf
    all_goals intros; simp_all
  | n + 1, j, d, hj => by
    have ih := ev_equal_loop a b h ha n (j + 1) (d ||| (a[j]'(by omega) ^^^ b[j]'(by omega))) (by omega)
    rw [← orx_drop d a b h j (by omega)] at ih
    rw [Y_go]; conv => lhs; whnf
    rw [ilt_t (by omega)]
    conv => lhs; whnf
    rw [lget_n (by omega)]
    conv => lhs; whnf
    rw [lget_n (by omega)]
    conv => lhs; whnf
    rw [drw (by kernel_rfl)]; conv => lhs; whnf
    rw [iadd_eq (by omega)]
    refine (congrArg (Y E0) ?_).trans ih; (try simp only [Rq.loop.injEq, Rq.call.injEq, Rq.ops.injEq, List.cons.injEq, Prod.mk.injEq, AV.i.injEq, AV.sl.injEq, AV.st.injEq, AV.b.injEq, AV.u8.injEq, AV.nm.injEq, Option.some.injEq, Rs.row.injEq, Rs.var.injEq, heq_eq_eq, true_and, and_true]); (try (repeat' apply And.intro)); all_goals first | (with_reducible rfl) | omega | (rw [iadd_eq (by omega)]; omega) | (rw [isub_eq (by omega)]; omega) | (rw [u8xor_eq, u8or_eq])
theorem ev_equal (a b : List UInt8) (ha : a.length ≤ 4294967296) : Y E0 (.call 153 [.sl .u8 a, .sl .u8 b] []) = some (.ret (.b (decide (a = b))) []) := by
  by_cases hab : a.length = b.length
  · have hl := ev_equal_loop a b hab ha a.length 0 (UInt8.ofNat 0) (by omega)
    rw [List.drop_zero, List.drop_zero, show ((0 : Nat) : Int) = 0 from rfl] at hl
    have hz := orx_zero a b (UInt8.ofNat 0) hab
    rw [Y_go]; conv => lhs; whnf
    rw [ine_f (by (simp only [uintB_l2, uintB_l1, blobB_l, tagB_len, macB_len, fr1_len, fr2_len, fr3_len, LL] at * <;> omega))]
    conv => lhs; whnf
    rw [toReq_loop]
    rw [llen_eq, hl]
    conv => lhs; whnf
    exact congrArg (fun b => some (Rsp.ret (AV.b b) [])) (by rw [u8cmp_eql, ieq_eq]; apply decide_eq_decide.2; rw [Int.ofNat_inj, UInt8.toNat_inj]; exact hz.trans (by simp))
  · rw [decide_eq_false (fun e => hab (by rw [e]))]
    rw [Y_go]; conv => lhs; whnf
    rw [ine_t (by (simp only [uintB_l2, uintB_l1, blobB_l, tagB_len, macB_len, fr1_len, fr2_len, fr3_len, LL] at * <;> omega))]
    conv => lhs; whnf
theorem ev_bmask1 (b k : List UInt8) (j : Nat) (h : k.length = b.length) (hj : j < b.length) : Y E0 (.call 244 [.i (j : Int), .pa 0 0, .pa 1 0] [.var [.sl .u8 b], .var [.sl .u8 k]]) = some (.ret (.u8 (b[j] ^^^ k[j])) [some (.var [.sl .u8 b]), some (.var [.sl .u8 k])]) := by
  rw [Y_go]; conv => lhs; whnf
  rw [lget_n (by omega)]
  conv => lhs; whnf
  rw [lget_n (by omega)]
  conv => lhs; whnf
  rw [drw (by kernel_rfl)]; conv => lhs; whnf
  rw [u8xor_eq]
theorem ev_bmask_loop (b k : List UInt8) (h : k.length = b.length) (hb : b.length ≤ 1024) : ∀ (n j : Nat), j + n = b.length → Y E0 (.loop 195 0 0 3 [(8, .fn 244 [] [.pa 0 0, .pa 1 0]), (9, .nm 2), (21, .i b.length), (22, .i (j : Int))] [(0, some (.var [.sl .u8 b])), (1, some (.var [.sl .u8 k])), (2, some (.row 5 .u8 ((xorB b k).take j ++ List.replicate (b.length - j) 0)))]) = some (.fin (.exit 0) 0 [(9, .sl .u8 (xorB b k))] [])
  | 0, j, hj => by
    have hl := xorB_len b k h
    rw [List.take_of_length_le (by omega), show b.length - j = 0 from by omega, List.replicate_zero, List.append_nil]
    rw [Y_go]; conv => lhs; whnf
    rw [ilt_f (by omega)]
    conv => lhs; whnf
  | n + 1, j, hj => by
    have ih := ev_bmask_loop b k h hb n (j + 1) (by omega)
    have hs := fill_set b k h j (by omega)
    have hl2 := fill_len b k h j (by omega)
    rw [Y_go]; conv => lhs; whnf
    rw [ilt_t (by omega)]
    conv => lhs; whnf
    rw [toReq_call]
    rw [ev_bmask1 b k j h (by omega)]
    conv => lhs; whnf
    rw [linb_t (by omega)]
    conv => lhs; whnf
    rw [lget_n (by omega)]
    conv => lhs; whnf
    rw [iadd_eq (by omega)]
    refine (congrArg (Y E0) ?_).trans ih; (try simp only [Rq.loop.injEq, Rq.call.injEq, Rq.ops.injEq, List.cons.injEq, Prod.mk.injEq, AV.i.injEq, AV.sl.injEq, AV.st.injEq, AV.b.injEq, AV.u8.injEq, AV.nm.injEq, Option.some.injEq, Rs.row.injEq, Rs.var.injEq, heq_eq_eq, true_and, and_true]); (try (repeat' apply And.intro)); all_goals first | (with_reducible rfl) | omega | (rw [iadd_eq (by omega)]; omega) | (rw [isub_eq (by omega)]; omega) | (rw [lset_eq]; exact hs)
theorem ev_bmask (key nonce b : List UInt8) (hk : key.length ≤ 1000000) (hn : nonce.length ≤ 1000) (hb : b.length ≤ 1024) : Y E0 (.call 195 [.sl .u8 key, .sl .u8 nonce, .sl .u8 b] []) = some (.ret (.sl .u8 (strB key nonce b)) []) := by
  have hd := derB_len0 (key := key) (label := encryptL) (ctx := nonce) hb
  have hl := ev_bmask_loop b _ hd hb b.length 0 (by omega)
  rw [List.take_zero, List.nil_append, Nat.sub_zero, show ((0 : Nat) : Int) = 0 from rfl] at hl
  rw [Y_go]; conv => lhs; whnf
  rw [toReq_call]
  rw [show strOf { data := #[101, 110, 99, 114, 121, 112, 116] } = encryptL from rfl, ev_derive _ _ _ _ (by omega) (by decide) (by omega), llen_eq]
  conv => lhs; whnf
  rw [fitn_t (by (simp only [uintB_l2, uintB_l1, blobB_l, tagB_len, macB_len, fr1_len, fr2_len, fr3_len, LL] at * <;> omega))]
  conv => lhs; whnf
  rw [ieq_t (by omega)]
  conv => lhs; whnf
  rw [toReq_loop]
  rw [llen_eq, llen_eq, lrep_eq, Int.toNat_natCast, List.length_replicate, hl]
  conv => lhs; whnf
  rfl
theorem ev_btag (key nonce ad c : List UInt8) (hk : key.length ≤ 1000000) (hn : nonce.length ≤ 1000) (ha : ad.length ≤ 1000000) (hc : c.length ≤ 1024) : Y E0 (.call 196 [.sl .u8 key, .sl .u8 nonce, .sl .u8 ad, .sl .u8 c] []) = some (.ret (.sl .u8 (tagB key nonce ad c)) []) := by
  have hd := derB_len (key := key) (label := authL) (ctx := nonce) (n := 32) (by omega)
  rw [Y_go]; conv => lhs; whnf
  rw [toReq_call]
  rw [show strOf { data := #[97, 117, 116, 104, 101, 110, 116, 105, 99, 97, 116, 101] } = authL from rfl, ev_derive _ _ _ _ (by omega) (by decide) (by omega)]
  conv => lhs; whnf
  rw [toReq_call]
  rw [ev_dig_frame _ _ (by (simp only [uintB_l2, uintB_l1, blobB_l, tagB_len, macB_len, fr1_len, fr2_len, fr3_len, LL] at * <;> omega)) (by (simp only [uintB_l2, uintB_l1, blobB_l, tagB_len, macB_len, fr1_len, fr2_len, fr3_len, LL] at * <;> omega))]
  conv => lhs; whnf
  rw [toReq_call]
  rw [ev_mac _ _ (by omega) (by (simp only [uintB_l2, uintB_l1, blobB_l, tagB_len, macB_len, fr1_len, fr2_len, fr3_len, LL] at * <;> omega))]
  conv => lhs; whnf
  rfl
theorem ev_seal (key nonce ad plain : List UInt8) (hk : key.length ≤ 1000000) (ha : ad.length ≤ 1000000) : Y E0 (.call 147 [.sl .u8 key, .sl .u8 nonce, .sl .u8 ad, .sl .u8 plain] []) = some (.ret (.sl .u8 (sealB key nonce ad plain)) []) := by
  rw [Y_go]; conv => lhs; whnf
  rcases Bool.eq_false_or_eq_true (ilt 64 (llen nonce)) with hc0 | hc0
  · rw [hc0]; replace hc0 := of_ilt_t hc0; try simp only [llen_eq] at hc0
    conv => lhs; whnf
    unfold sealB; (repeat (first | rw [if_pos (by first | omega | decide | assumption | (simp only [uintB_l2, uintB_l1, blobB_l, tagB_len, macB_len, fr1_len, fr2_len, fr3_len, LL] at * <;> omega) | (simp; omega))] | rw [if_neg (by first | omega | decide | assumption | (simp only [uintB_l2, uintB_l1, blobB_l, tagB_len, macB_len, fr1_len, fr2_len, fr3_len, LL] at * <;> omega) | (simp; omega))])); try simp only [NO]
  · rw [hc0]; replace hc0 := of_ilt_f hc0; try simp only [llen_eq] at hc0
    conv => lhs; whnf
    rcases Bool.eq_false_or_eq_true (ilt 1024 (llen plain)) with hc1 | hc1
    · rw [hc1]; replace hc1 := of_ilt_t hc1; try simp only [llen_eq] at hc1
      conv => lhs; whnf
      unfold sealB; (repeat (first | rw [if_pos (by first | omega | decide | assumption | (simp only [uintB_l2, uintB_l1, blobB_l, tagB_len, macB_len, fr1_len, fr2_len, fr3_len, LL] at * <;> omega) | (simp; omega))] | rw [if_neg (by first | omega | decide | assumption | (simp only [uintB_l2, uintB_l1, blobB_l, tagB_len, macB_len, fr1_len, fr2_len, fr3_len, LL] at * <;> omega) | (simp; omega))])); try simp only [NO]
    · rw [hc1]; replace hc1 := of_ilt_f hc1; try simp only [llen_eq] at hc1
      conv => lhs; whnf
      rw [toReq_call]
      have hs := strB_len (key := key) (nonce := nonce) (b := plain) (by omega); rw [ev_bmask _ _ _ (by omega) (by omega) (by omega)]
      conv => lhs; whnf
      rw [toReq_call]
      rw [ev_blob _ _ (by (simp only [uintB_l2, uintB_l1, blobB_l, tagB_len, macB_len, fr1_len, fr2_len, fr3_len, LL] at * <;> omega))]
      conv => lhs; whnf
      rw [toReq_call]
      rw [ev_blob _ _ (by (simp only [uintB_l2, uintB_l1, blobB_l, tagB_len, macB_len, fr1_len, fr2_len, fr3_len, LL] at * <;> omega))]
      conv => lhs; whnf
      rw [toReq_call]
      rw [ev_btag _ _ _ _ (by omega) (by omega) (by omega) (by omega)]
      conv => lhs; whnf
      rw [fits_t (by (simp only [uintB_l2, uintB_l1, blobB_l, tagB_len, macB_len, fr1_len, fr2_len, fr3_len, LL] at * <;> omega))]
      conv => lhs; whnf
      (rw [sealB, if_neg (by omega), formB, lapp_eq])
theorem ev_open (key ad b : List UInt8) (hk : key.length ≤ 1000000) (ha : ad.length ≤ 1000000) (hb : b.length ≤ 4294967296) : Y E0 (.call 152 [.sl .u8 key, .sl .u8 ad, .sl .u8 b] []) = some (.ret (.tup [.sl .u8 (openB key ad b).1, .i (openB key ad b).2]) []) := by
  rw [Y_go]; conv => lhs; whnf
  rw [toReq_call]
  rw [ev_new _ (by omega)]
  conv => lhs; whnf
  rw [toReq_call]
  rw [show Y E0 (.call 150 [.pa 0 0, .i 64] [.var [.sl .u8 b, .i 0, .i 0]]) = _ from ev_rblob b 0 0 64 hb (Nat.zero_le _)]; generalize g0 : rdB b 0 0 64 = x0; obtain ⟨v0, p0, er0⟩ := x0; have k0 : p0 ≤ b.length := (by have := rdB_le (b := b) (at' := 0) (e := 0) (most := 64) (Nat.zero_le _); rw [g0] at this; exact this); have l0 : v0.length ≤ b.length := (by have := rdB_len (b := b) (at' := 0) (e := 0) (most := 64); rw [g0] at this; exact this); have m0 : v0.length ≤ 64 := (by have := rdB_most (b := b) (at' := 0) (e := 0) (most := 64) (by decide); rw [g0] at this; simp only at this; omega)
  conv => lhs; whnf
  rw [toReq_call]
  rw [ev_rblob b p0 er0 1024 hb k0]; generalize g1 : rdB b p0 er0 1024 = x1; obtain ⟨v1, p1, er1⟩ := x1; have k1 : p1 ≤ b.length := (by have := rdB_le (b := b) (at' := p0) (e := er0) (most := 1024) k0; rw [g1] at this; exact this); have l1 : v1.length ≤ b.length := (by have := rdB_len (b := b) (at' := p0) (e := er0) (most := 1024); rw [g1] at this; exact this); have m1 : v1.length ≤ 1024 := (by have := rdB_most (b := b) (at' := p0) (e := er0) (most := 1024) (by decide); rw [g1] at this; simp only at this; omega)
  conv => lhs; whnf
  rw [toReq_call]
  rw [ev_raw b p1 er1 32 hb k1 (by decide)]; generalize g2 : rdR b p1 er1 32 = x2; obtain ⟨v2, p2, er2⟩ := x2; have k2 : p2 ≤ b.length := (by have := rdR_le (b := b) (at' := p1) (e := er1) (n := 32) k1; rw [g2] at this; exact this); have l2 : v2.length ≤ b.length := (by have := rdR_len (b := b) (at' := p1) (e := er1) (n := 32); rw [g2] at this; exact this)
  conv => lhs; whnf
  rw [toReq_call]
  rw [ev_rend _ _ _ (by omega) (by omega)]
  conv => lhs; whnf
  rcases Bool.eq_false_or_eq_true (ine (rdE b (v2, p2, er2).snd.fst (v2, p2, er2).snd.snd) 0) with hc0 | hc0
  · rw [hc0]; replace hc0 := of_ine_t hc0; try simp only [llen_eq] at hc0
    conv => lhs; whnf
    (rw [openB_of g0 g1 g2, if_pos (by omega)]; try rfl)
  · rw [hc0]; replace hc0 := of_ine_f hc0; try simp only [llen_eq] at hc0
    conv => lhs; whnf
    rw [toReq_call]
    rw [ev_btag _ _ _ _ (by omega) (by (simp only [uintB_l2, uintB_l1, blobB_l, tagB_len, macB_len, fr1_len, fr2_len, fr3_len, LL] at * <;> omega)) (by omega) (by omega)]
    conv => lhs; whnf
    rw [toReq_call]
    rw [ev_equal _ _ (by (simp only [uintB_l2, uintB_l1, blobB_l, tagB_len, macB_len, fr1_len, fr2_len, fr3_len, LL] at * <;> omega))]
    conv => lhs; whnf
    rw [bnot_eq]; conv => lhs; whnf
    rcases Bool.eq_false_or_eq_true (decide ((v2, p2, er2).fst = tagB key (v0, p0, er0).fst ad (v1, p1, er1).fst)) with hc1 | hc1
    · rw [hc1]; replace hc1 := of_decide_eq_true hc1; try simp only at hc1
      conv => lhs; whnf
      rw [toReq_call]
      rw [ev_bmask _ _ _ (by omega) (by (simp only [uintB_l2, uintB_l1, blobB_l, tagB_len, macB_len, fr1_len, fr2_len, fr3_len, LL] at * <;> omega)) (by omega)]
      conv => lhs; whnf
      (rw [openB_of g0 g1 g2, if_neg (by omega), if_neg (by simp_all)]; try rfl)
    · rw [hc1]; replace hc1 := of_decide_eq_false hc1; try simp only at hc1
      conv => lhs; whnf
      (rw [openB_of g0 g1 g2, if_neg (by omega), if_pos (by assumption)]; try rfl)
end Go.Proofs.YtfjcmolccckhhaaGreatDoor

namespace Go.Ax
open Go Go.Eng Go.RowKit
set_option linter.unusedVariables false
set_option linter.unusedSimpArgs false
structure Sen where
  auth : List UInt8
  seed : List UInt8
  data : List UInt8
abbrev senX (s : Sen) : List AV := [.sl .u8 s.auth, .sl .u8 s.seed, .sl .u8 s.data]
def sen0 : Sen := ⟨[], [], []⟩
def seedL : List UInt8 := [115, 101, 101, 100]
def privL : List UInt8 := [112, 114, 105, 118, 97, 116, 101]
def uniB (kind h : Int) (s : Sen) : List UInt8 := if kind = 2 then pubK s.seed h else sha256 (frameB 13 [s.seed, s.data])
def makeP (secret : List UInt8) (p : Pub) (auth data : List UInt8) : Pub × Sen × Int :=
  if chkP ⟨p.kind, p.attr, p.height, p.policy, List.replicate (uniq p.kind).toNat 0⟩ ≠ 0 then (pub0, sen0, chkP ⟨p.kind, p.attr, p.height, p.policy, List.replicate (uniq p.kind).toNat 0⟩)
  else if 32 < auth.length ∨ 128 < data.length then (pub0, sen0, 4)
  else if 0 < data.length ∧ p.kind ≠ 3 then (pub0, sen0, 1)
  else (⟨p.kind, p.attr, p.height, p.policy, uniB p.kind p.height ⟨auth, derB secret seedL [] 32, data⟩⟩, ⟨auth, derB secret seedL [] 32, data⟩, 0)
def wkey (par : Sen) (nm : List UInt8) : List UInt8 := derB par.seed privL nm 32
def plainS (s : Sen) : List UInt8 := blobB (blobB (blobB [] s.auth) s.seed) s.data
def privB (par : Sen) (p : Pub) (s : Sen) : List UInt8 := sealB (wkey par (nameB p)) ((nameB p).take 16) (encP p) (plainS s)
def readS (p : Pub) (b : List UInt8) : Sen × Int :=
  let a := rdB b 0 0 32
  let d := rdB b a.2.1 a.2.2 32
  let t := rdB b d.2.1 d.2.2 128
  let e := rdE b t.2.1 t.2.2
  if e ≠ 0 then (sen0, e) else if p.unique ≠ uniB p.kind p.height ⟨a.1, d.1, t.1⟩ then (sen0, 18) else (⟨a.1, d.1, t.1⟩, 0)
def openS (par : Sen) (p : Pub) (b : List UInt8) : Sen × Int :=
  if (openB (wkey par (nameB p)) (encP p) b).2 ≠ 0 then (sen0, (openB (wkey par (nameB p)) (encP p) b).2) else readS p (openB (wkey par (nameB p)) (encP p) b).1
def sameS (a b : Sen) : Bool := decide (a.auth = b.auth) && (decide (a.seed = b.seed) && decide (a.data = b.data))
structure OkS (s : Sen) : Prop where
  auth : s.auth.length ≤ 32
  seed : s.seed.length = 32
  data : s.data.length ≤ 128
theorem uniB_le (k h : Int) (s : Sen) : (uniB k h s).length ≤ 32 := by
  unfold uniB; split
  · have := pubK_le s.seed h; omega
  · rw [sha256_len]; exact Nat.le_refl _
theorem nameB_l32 (p : Pub) : (nameB p).length = 32 := sha256_len _
theorem wkey_32 (par : Sen) (nm : List UInt8) : (wkey par nm).length = 32 := derB_len (by omega)
theorem make_okP {secret auth data : List UInt8} {p : Pub} (hc : chkP p = 0) (ha : auth.length ≤ 32) (hd : data.length ≤ 128) (hk : 0 < data.length → p.kind = 3) :
    makeP secret p auth data = (⟨p.kind, p.attr, p.height, p.policy, uniB p.kind p.height ⟨auth, derB secret seedL [] 32, data⟩⟩, ⟨auth, derB secret seedL [] 32, data⟩, 0) := by
  have h0 : chkP ⟨p.kind, p.attr, p.height, p.policy, List.replicate (uniq p.kind).toNat 0⟩ = 0 := by
    have hu := uniq_bd p.kind
    unfold chkP at hc ⊢
    split at hc
    · simp at hc
    rename_i g1
    split at hc
    · simp at hc
    rename_i g2
    split at hc
    · simp at hc
    rename_i g3
    rw [if_neg g1, if_neg g2, if_neg]
    rintro (q | q | q | q | q)
    · exact g3 (.inl q)
    · exact g3 (.inr (.inl q))
    · exact g3 (.inr (.inr (.inl q)))
    · exact g3 (.inr (.inr (.inr (.inl q))))
    · simp only [List.length_replicate] at q; omega
  rw [makeP, if_neg (by rw [h0]; simp), if_neg (by omega), if_neg (by intro q; exact q.2 (hk q.1))]
theorem make_len {secret auth data : List UInt8} {p : Pub} : (makeP secret p auth data).1.unique.length ≤ 32 ∧ (makeP secret p auth data).1.policy.length ≤ p.policy.length ∧ (makeP secret p auth data).2.1.auth.length ≤ 32 ∧ (makeP secret p auth data).2.1.seed.length ≤ 32 ∧ (makeP secret p auth data).2.1.data.length ≤ 128 := by
  unfold makeP
  split
  · simp [pub0, sen0]
  · split
    · simp [pub0, sen0]
    · split
      · simp [pub0, sen0]
      · have h1 := uniB_le p.kind p.height ⟨auth, derB secret seedL [] 32, data⟩
        have h2 := derB_len (key := secret) (label := seedL) (ctx := []) (n := 32) (by omega)
        refine ⟨h1, Nat.le_refl _, ?_, ?_, ?_⟩ <;> simp only <;> omega
theorem readS_of {b v0 v1 v2 : List UInt8} {er0 er1 er2 : Int} {p0 p1 p2 : Nat} {p : Pub}
    (g0 : rdB b 0 0 32 = (v0, p0, er0)) (g1 : rdB b p0 er0 32 = (v1, p1, er1)) (g2 : rdB b p1 er1 128 = (v2, p2, er2)) :
    readS p b = if rdE b p2 er2 ≠ 0 then (sen0, rdE b p2 er2) else if p.unique ≠ uniB p.kind p.height ⟨v0, v1, v2⟩ then (sen0, 18) else (⟨v0, v1, v2⟩, 0) := by
  simp only [readS, g0, g1, g2]
end Go.Ax

namespace Go.Proofs.YtfjcmolccckhhaaGreatDoor
open Go Go.Ax Go.Eng
set_option linter.unusedVariables false
set_option linter.unusedSimpArgs false
attribute [local irreducible] iadd isub imul iquo irem ibit ineg ieq ine ilt ile ishl ishr beq' bnot and' seq' u8op u8rem u32op u64op u8shr u8shl u64shr u64shl u32shr u32shl i64w u8i u64i iu8 iu32 iu64 u8u64 u64u8 u32u8 u64cmp u8cmp u32cmp llen lget linb lset lcut lrep lapp lcpy lemp fits fitn ieqs sealed drawChk fpSame
attribute [local irreducible] pubK sigK verK chkP nameB uniB wkey openB sealB encP
set_option maxHeartbeats 4000000
set_option maxRecDepth 100000
theorem ev_wunique (k h : Int) (a s d : List UInt8) (ha : a.length ≤ 100000) (hs : s.length ≤ 100000) (hd : d.length ≤ 100000) : Y E0 (.call 119 [.i k, .i h, .agg [.sl .u8 a, .sl .u8 s, .sl .u8 d]] []) = some (.ret (.sl .u8 (uniB k h ⟨a, s, d⟩)) []) := by
  rw [Y_go]; conv => lhs; whnf
  rcases Bool.eq_false_or_eq_true (ieq k 2) with hc0 | hc0
  · rw [hc0]; replace hc0 := of_ieq_t hc0; try simp only [llen_eq] at hc0
    subst hc0
    conv => lhs; whnf
    dsimp -iota -beta -eta -zeta only
    rw [toReq_call]
    rw [ev_spub _ _ (by omega)]
    conv => lhs; whnf
    (unfold uniB; (repeat (first | rw [if_pos (by omega)] | rw [if_neg (by omega)])); try rfl)
  · rw [hc0]; replace hc0 := of_ieq_f hc0; try simp only [llen_eq] at hc0
    conv => lhs; whnf
    dsimp -iota -beta -eta -zeta only
    rw [toReq_call]
    rw [ev_dig_hash _ _ (by (simp only [sha256_len, fr1_len, fr2_len, fr3_len, nameB_l32, wkey_32, uintB_l2, uintB_l1, blobB_l, LL] at * <;> omega)) (by (simp only [sha256_len, fr1_len, fr2_len, fr3_len, nameB_l32, wkey_32, uintB_l2, uintB_l1, blobB_l, LL] at * <;> omega))]
    conv => lhs; whnf
    (unfold uniB; (repeat (first | rw [if_pos (by omega)] | rw [if_neg (by omega)])); try rfl)
theorem ev_wfail (e : Int) : Y E0 (.call 117 [.i e] []) = some (.ret (.tup [.agg (pubX pub0), .agg (senX sen0), .i e]) []) := by
  rw [Y_go]; conv => lhs; whnf
  dsimp -iota -beta -eta -zeta only
  rfl
theorem ev_wmake (secret : List UInt8) (k a h : Int) (o u auth data : List UInt8) (hs : secret.length ≤ 100000) : Y E0 (.call 46 [.sl .u8 secret, .agg [.i k, .i a, .i h, .sl .u8 o, .sl .u8 u], .sl .u8 auth, .sl .u8 data] []) = some (.ret (.tup [.agg (pubX (makeP secret ⟨k, a, h, o, u⟩ auth data).1), .agg (senX (makeP secret ⟨k, a, h, o, u⟩ auth data).2.1), .i (makeP secret ⟨k, a, h, o, u⟩ auth data).2.2]) []) := by
  have hu := uniq_bd k
  have hd := derB_len (key := secret) (label := seedL) (ctx := []) (n := 32) (by omega)
  have hE : lrep (uniq k) (0 : UInt8) = List.replicate (uniq k).toNat 0 := by rw [lrep_eq]
  by_cases hk : k = 2
  · subst hk
    have hr : lrep 17 (0 : UInt8) = List.replicate (uniq 2).toNat 0 := by rw [lrep_eq]; rfl
    rw [Y_go]; conv => lhs; whnf
    rw [fitn_t (by omega)]
    conv => lhs; whnf
    rw [ieq_t (by omega)]
    conv => lhs; whnf
    rw [ieq_t (by omega)]
    conv => lhs; whnf
    rw [hr]
    rw [fitn_t (by omega)]
    conv => lhs; whnf
    rw [ieq_t (by omega)]
    conv => lhs; whnf
    rw [Y_go]; conv => lhs; whnf
    dsimp -iota -beta -eta -zeta only
    rw [toReq_call]
    rw [ev_acheck _ _ _ _ _]
    conv => lhs; whnf
    rcases Bool.eq_false_or_eq_true (ine (chkP { kind := 2, attr := a, height := h, policy := o, unique := List.replicate (uniq 2).toNat 0 }) 0) with hc0 | hc0
    · rw [hc0]; replace hc0 := of_ine_t hc0; try simp only [llen_eq] at hc0
      conv => lhs; whnf
      dsimp -iota -beta -eta -zeta only
      rw [toReq_call]
      rw [ev_wfail _]
      conv => lhs; whnf
      dsimp -iota -beta -eta -zeta only
      (unfold makeP; dsimp only; (repeat (first | rw [if_pos (by first | assumption | omega)] | rw [if_neg (by first | assumption | omega)])); try rfl)
    · rw [hc0]; replace hc0 := of_ine_f hc0; try simp only [llen_eq] at hc0
      conv => lhs; whnf
      rcases Bool.eq_false_or_eq_true (ilt 32 (llen auth)) with hc1 | hc1
      · rw [hc1]; replace hc1 := of_ilt_t hc1; try simp only [llen_eq] at hc1
        conv => lhs; whnf
        dsimp -iota -beta -eta -zeta only
        rw [toReq_call]
        rw [ev_wfail _]
        conv => lhs; whnf
        dsimp -iota -beta -eta -zeta only
        (unfold makeP; dsimp only; (repeat (first | rw [if_pos (by first | assumption | omega)] | rw [if_neg (by first | assumption | omega)])); try rfl)
      · rw [hc1]; replace hc1 := of_ilt_f hc1; try simp only [llen_eq] at hc1
        conv => lhs; whnf
        rcases Bool.eq_false_or_eq_true (ilt 128 (llen data)) with hc2 | hc2
        · rw [hc2]; replace hc2 := of_ilt_t hc2; try simp only [llen_eq] at hc2
          conv => lhs; whnf
          dsimp -iota -beta -eta -zeta only
          rw [toReq_call]
          rw [ev_wfail _]
          conv => lhs; whnf
          dsimp -iota -beta -eta -zeta only
          (unfold makeP; dsimp only; (repeat (first | rw [if_pos (by first | assumption | omega)] | rw [if_neg (by first | assumption | omega)])); try rfl)
        · rw [hc2]; replace hc2 := of_ilt_f hc2; try simp only [llen_eq] at hc2
          conv => lhs; whnf
          rcases Bool.eq_false_or_eq_true (ilt 0 (llen data)) with hc3 | hc3
          · rw [hc3]; replace hc3 := of_ilt_t hc3; try simp only [llen_eq] at hc3
            conv => lhs; whnf
            rw [ine_t (by omega)]
            conv => lhs; whnf
            dsimp -iota -beta -eta -zeta only
            rw [toReq_call]
            rw [ev_wfail _]
            conv => lhs; whnf
            dsimp -iota -beta -eta -zeta only
            (unfold makeP; dsimp only; (repeat (first | rw [if_pos (by first | assumption | omega)] | rw [if_neg (by first | assumption | omega)])); try rfl)
          · rw [hc3]; replace hc3 := of_ilt_f hc3; try simp only [llen_eq] at hc3
            conv => lhs; whnf
            dsimp -iota -beta -eta -zeta only
            rw [toReq_call]
            rw [show strOf { data := #[115, 101, 101, 100] } = seedL from rfl, ev_derive _ _ _ _ (by omega) (by decide) (by simp)]
            conv => lhs; whnf
            dsimp -iota -beta -eta -zeta only
            rw [toReq_call]
            rw [ev_wunique _ _ _ _ _ (by omega) (by omega) (by omega)]
            conv => lhs; whnf
            dsimp -iota -beta -eta -zeta only
            rw [drw (by kernel_rfl)]; conv => lhs; whnf
            dsimp -iota -beta -eta -zeta only
            (unfold makeP; dsimp only; (repeat (first | rw [if_pos (by first | assumption | omega)] | rw [if_neg (by first | assumption | omega)])); try rfl)
  · have hr : lrep 32 (0 : UInt8) = List.replicate (uniq k).toNat 0 := by rw [lrep_eq, uniq, if_neg hk]
    rw [Y_go]; conv => lhs; whnf
    rw [hr]
    rw [fitn_t (by omega)]
    conv => lhs; whnf
    rw [ieq_t (by omega)]
    conv => lhs; whnf
    rw [ieq_f (by omega)]
    conv => lhs; whnf
    rw [Y_go]; conv => lhs; whnf
    dsimp -iota -beta -eta -zeta only
    rw [toReq_call]
    rw [ev_acheck _ _ _ _ _]
    conv => lhs; whnf
    rcases Bool.eq_false_or_eq_true (ine (chkP { kind := k, attr := a, height := h, policy := o, unique := List.replicate (uniq k).toNat 0 }) 0) with hc0 | hc0
    · rw [hc0]; replace hc0 := of_ine_t hc0; try simp only [llen_eq] at hc0
      conv => lhs; whnf
      dsimp -iota -beta -eta -zeta only
      rw [toReq_call]
      rw [ev_wfail _]
      conv => lhs; whnf
      dsimp -iota -beta -eta -zeta only
      (unfold makeP; dsimp only; (repeat (first | rw [if_pos (by first | assumption | omega)] | rw [if_neg (by first | assumption | omega)])); try rfl)
    · rw [hc0]; replace hc0 := of_ine_f hc0; try simp only [llen_eq] at hc0
      conv => lhs; whnf
      rcases Bool.eq_false_or_eq_true (ilt 32 (llen auth)) with hc1 | hc1
      · rw [hc1]; replace hc1 := of_ilt_t hc1; try simp only [llen_eq] at hc1
        conv => lhs; whnf
        dsimp -iota -beta -eta -zeta only
        rw [toReq_call]
        rw [ev_wfail _]
        conv => lhs; whnf
        dsimp -iota -beta -eta -zeta only
        (unfold makeP; dsimp only; (repeat (first | rw [if_pos (by first | assumption | omega)] | rw [if_neg (by first | assumption | omega)])); try rfl)
      · rw [hc1]; replace hc1 := of_ilt_f hc1; try simp only [llen_eq] at hc1
        conv => lhs; whnf
        rcases Bool.eq_false_or_eq_true (ilt 128 (llen data)) with hc2 | hc2
        · rw [hc2]; replace hc2 := of_ilt_t hc2; try simp only [llen_eq] at hc2
          conv => lhs; whnf
          dsimp -iota -beta -eta -zeta only
          rw [toReq_call]
          rw [ev_wfail _]
          conv => lhs; whnf
          dsimp -iota -beta -eta -zeta only
          (unfold makeP; dsimp only; (repeat (first | rw [if_pos (by first | assumption | omega)] | rw [if_neg (by first | assumption | omega)])); try rfl)
        · rw [hc2]; replace hc2 := of_ilt_f hc2; try simp only [llen_eq] at hc2
          conv => lhs; whnf
          rcases Bool.eq_false_or_eq_true (ilt 0 (llen data)) with hc3 | hc3
          · rw [hc3]; replace hc3 := of_ilt_t hc3; try simp only [llen_eq] at hc3
            conv => lhs; whnf
            rcases Bool.eq_false_or_eq_true (ine k 3) with hc4 | hc4
            · rw [hc4]; replace hc4 := of_ine_t hc4; try simp only [llen_eq] at hc4
              conv => lhs; whnf
              dsimp -iota -beta -eta -zeta only
              rw [toReq_call]
              rw [ev_wfail _]
              conv => lhs; whnf
              dsimp -iota -beta -eta -zeta only
              (unfold makeP; dsimp only; (repeat (first | rw [if_pos (by first | assumption | omega)] | rw [if_neg (by first | assumption | omega)])); try rfl)
            · rw [hc4]; replace hc4 := of_ine_f hc4; try simp only [llen_eq] at hc4
              subst hc4
              conv => lhs; whnf
              dsimp -iota -beta -eta -zeta only
              rw [toReq_call]
              rw [show strOf { data := #[115, 101, 101, 100] } = seedL from rfl, ev_derive _ _ _ _ (by omega) (by decide) (by simp)]
              conv => lhs; whnf
              dsimp -iota -beta -eta -zeta only
              rw [toReq_call]
              rw [ev_wunique _ _ _ _ _ (by omega) (by omega) (by omega)]
              conv => lhs; whnf
              dsimp -iota -beta -eta -zeta only
              rw [drw (by kernel_rfl)]; conv => lhs; whnf
              dsimp -iota -beta -eta -zeta only
              (unfold makeP; dsimp only; (repeat (first | rw [if_pos (by first | assumption | omega)] | rw [if_neg (by first | assumption | omega)])); try rfl)
          · rw [hc3]; replace hc3 := of_ilt_f hc3; try simp only [llen_eq] at hc3
            conv => lhs; whnf
            dsimp -iota -beta -eta -zeta only
            rw [toReq_call]
            rw [show strOf { data := #[115, 101, 101, 100] } = seedL from rfl, ev_derive _ _ _ _ (by omega) (by decide) (by simp)]
            conv => lhs; whnf
            dsimp -iota -beta -eta -zeta only
            rw [toReq_call]
            rw [ev_wunique _ _ _ _ _ (by omega) (by omega) (by omega)]
            conv => lhs; whnf
            dsimp -iota -beta -eta -zeta only
            rw [drw (by kernel_rfl)]; conv => lhs; whnf
            dsimp -iota -beta -eta -zeta only
            (unfold makeP; dsimp only; (repeat (first | rw [if_pos (by first | assumption | omega)] | rw [if_neg (by first | assumption | omega)])); try rfl)
theorem ev_wkey (a s d : List UInt8) (k t h : Int) (o u : List UInt8) (hs : s.length ≤ 100000) (ho : o.length ≤ 60000) (hu : u.length ≤ 60000) : Y E0 (.call 146 [.agg [.sl .u8 a, .sl .u8 s, .sl .u8 d], .agg [.i k, .i t, .i h, .sl .u8 o, .sl .u8 u]] []) = some (.ret (.tup [.sl .u8 (wkey ⟨a, s, d⟩ (nameB ⟨k, t, h, o, u⟩)), .sl .u8 ((nameB ⟨k, t, h, o, u⟩).take 16)]) []) := by
  have hn := nameB_l32 ⟨k, t, h, o, u⟩
  rw [Y_go]; conv => lhs; whnf
  dsimp -iota -beta -eta -zeta only
  rw [toReq_call]
  rw [ev_aname _ _ _ _ _ (by omega) (by omega)]
  conv => lhs; whnf
  dsimp -iota -beta -eta -zeta only
  rw [toReq_call]
  rw [show strOf { data := #[112, 114, 105, 118, 97, 116, 101] } = privL from rfl, ev_derive _ _ _ _ (by omega) (by decide) (by omega)]
  conv => lhs; whnf
  rw [ieq_t (by omega)]
  conv => lhs; whnf
  rw [lcut_0 (by omega)]
  conv => lhs; whnf
  dsimp -iota -beta -eta -zeta only
  rw [drw (by kernel_rfl)]; conv => lhs; whnf
  (unfold wkey; rfl)
theorem ev_wpriv (a s d : List UInt8) (k t h : Int) (o u a' s' d' : List UInt8) (hs : s.length ≤ 100000) (ho : o.length ≤ 60000) (hu : u.length ≤ 60000) : Y E0 (.call 84 [.agg [.sl .u8 a, .sl .u8 s, .sl .u8 d], .agg [.i k, .i t, .i h, .sl .u8 o, .sl .u8 u], .agg [.sl .u8 a', .sl .u8 s', .sl .u8 d']] []) = some (.ret (.sl .u8 (privB ⟨a, s, d⟩ ⟨k, t, h, o, u⟩ ⟨a', s', d'⟩)) []) := by
  have hn := nameB_l32 ⟨k, t, h, o, u⟩
  have he := encP_len (p := ⟨k, t, h, o, u⟩) (by simp only; omega) (by simp only; omega)
  have hw := wkey_32 ⟨a, s, d⟩ (nameB ⟨k, t, h, o, u⟩)
  simp only at he
  rw [Y_go]; conv => lhs; whnf
  dsimp -iota -beta -eta -zeta only
  rw [toReq_call]
  rw [ev_wkey _ _ _ _ _ _ _ _ (by omega) (by omega) (by omega)]
  conv => lhs; whnf
  dsimp -iota -beta -eta -zeta only
  rw [toReq_call]
  rw [ev_blob _ _ (by (simp only [sha256_len, fr1_len, fr2_len, fr3_len, nameB_l32, wkey_32, uintB_l2, uintB_l1, blobB_l, LL] at * <;> omega))]
  conv => lhs; whnf
  dsimp -iota -beta -eta -zeta only
  rw [toReq_call]
  rw [ev_blob _ _ (by (simp only [sha256_len, fr1_len, fr2_len, fr3_len, nameB_l32, wkey_32, uintB_l2, uintB_l1, blobB_l, LL] at * <;> omega))]
  conv => lhs; whnf
  dsimp -iota -beta -eta -zeta only
  rw [toReq_call]
  rw [ev_blob _ _ (by (simp only [sha256_len, fr1_len, fr2_len, fr3_len, nameB_l32, wkey_32, uintB_l2, uintB_l1, blobB_l, LL] at * <;> omega))]
  conv => lhs; whnf
  dsimp -iota -beta -eta -zeta only
  rw [drw (by kernel_rfl)]; conv => lhs; whnf
  dsimp -iota -beta -eta -zeta only
  rw [toReq_call]
  rw [ev_aenc _ _ _ _ _ (by omega) (by omega)]
  conv => lhs; whnf
  dsimp -iota -beta -eta -zeta only
  rw [toReq_call]
  rw [ev_seal _ _ _ _ (by omega) (by omega)]
  conv => lhs; whnf
  (unfold privB plainS; rfl)
theorem ev_wopen (a s d : List UInt8) (k t h : Int) (o u x : List UInt8) (hs : s.length ≤ 100000) (ho : o.length ≤ 60000) (hu : u.length ≤ 60000) (hx : x.length ≤ 1000000) : Y E0 (.call 86 [.agg [.sl .u8 a, .sl .u8 s, .sl .u8 d], .agg [.i k, .i t, .i h, .sl .u8 o, .sl .u8 u], .sl .u8 x] []) = some (.ret (.tup [.agg (senX (openS ⟨a, s, d⟩ ⟨k, t, h, o, u⟩ x).1), .i (openS ⟨a, s, d⟩ ⟨k, t, h, o, u⟩ x).2]) []) := by
  have hn := nameB_l32 ⟨k, t, h, o, u⟩
  have he := encP_len (p := ⟨k, t, h, o, u⟩) (by simp only; omega) (by simp only; omega)
  have hw := wkey_32 ⟨a, s, d⟩ (nameB ⟨k, t, h, o, u⟩)
  simp only at he
  have eo := ev_open (wkey ⟨a, s, d⟩ (nameB ⟨k, t, h, o, u⟩)) (encP ⟨k, t, h, o, u⟩) x (by omega) (by omega) (by omega)
  have hl := openB_len (key := wkey ⟨a, s, d⟩ (nameB ⟨k, t, h, o, u⟩)) (ad := encP ⟨k, t, h, o, u⟩) (b := x)
  unfold openS
  generalize openB (wkey ⟨a, s, d⟩ (nameB ⟨k, t, h, o, u⟩)) (encP ⟨k, t, h, o, u⟩) x = R at *
  obtain ⟨b, e⟩ := R
  dsimp only at eo hl ⊢
  have hb : b.length ≤ 4294967296 := by omega
  by_cases hz : e = 0
  · subst hz
    rw [if_neg (by simp)]
    rw [Y_go]; conv => lhs; whnf
    dsimp -iota -beta -eta -zeta only
    rw [toReq_call]
    rw [ev_wkey _ _ _ _ _ _ _ _ (by omega) (by omega) (by omega)]
    conv => lhs; whnf
    dsimp -iota -beta -eta -zeta only
    rw [toReq_call]
    rw [ev_aenc _ _ _ _ _ (by omega) (by omega)]
    conv => lhs; whnf
    dsimp -iota -beta -eta -zeta only
    rw [toReq_call]
    rw [eo]
    conv => lhs; whnf
    rw [ine_f (by omega)]
    conv => lhs; whnf
    dsimp -iota -beta -eta -zeta only
    rw [toReq_call]
    rw [ev_new _ (by omega)]
    conv => lhs; whnf
    dsimp -iota -beta -eta -zeta only
    rw [toReq_call]
    rw [show Y E0 (.call 150 [.pa 0 0, .i 32] [.var [.sl .u8 b, .i 0, .i 0]]) = _ from ev_rblob b 0 0 32 hb (Nat.zero_le _)]; generalize g0 : rdB b 0 0 32 = x0; obtain ⟨v0, p0, er0⟩ := x0; have k0 : p0 ≤ b.length := (by have := rdB_le (b := b) (at' := 0) (e := 0) (most := 32) (Nat.zero_le _); rw [g0] at this; exact this); have l0 : v0.length ≤ b.length := (by have := rdB_len (b := b) (at' := 0) (e := 0) (most := 32); rw [g0] at this; exact this); have m0 : v0.length ≤ 32 := (by have := rdB_most (b := b) (at' := 0) (e := 0) (most := 32) (by decide); rw [g0] at this; simp only at this; omega)
    conv => lhs; whnf
    dsimp -iota -beta -eta -zeta only
    rw [toReq_call]
    rw [ev_rblob b p0 er0 32 hb k0]; generalize g1 : rdB b p0 er0 32 = x1; obtain ⟨v1, p1, er1⟩ := x1; have k1 : p1 ≤ b.length := (by have := rdB_le (b := b) (at' := p0) (e := er0) (most := 32) k0; rw [g1] at this; exact this); have l1 : v1.length ≤ b.length := (by have := rdB_len (b := b) (at' := p0) (e := er0) (most := 32); rw [g1] at this; exact this); have m1 : v1.length ≤ 32 := (by have := rdB_most (b := b) (at' := p0) (e := er0) (most := 32) (by decide); rw [g1] at this; simp only at this; omega)
    conv => lhs; whnf
    dsimp -iota -beta -eta -zeta only
    rw [toReq_call]
    rw [ev_rblob b p1 er1 128 hb k1]; generalize g2 : rdB b p1 er1 128 = x2; obtain ⟨v2, p2, er2⟩ := x2; have k2 : p2 ≤ b.length := (by have := rdB_le (b := b) (at' := p1) (e := er1) (most := 128) k1; rw [g2] at this; exact this); have l2 : v2.length ≤ b.length := (by have := rdB_len (b := b) (at' := p1) (e := er1) (most := 128); rw [g2] at this; exact this); have m2 : v2.length ≤ 128 := (by have := rdB_most (b := b) (at' := p1) (e := er1) (most := 128) (by decide); rw [g2] at this; simp only at this; omega)
    conv => lhs; whnf
    dsimp -iota -beta -eta -zeta only
    rw [toReq_call]
    rw [ev_rend _ _ _ (by omega) (by omega)]
    conv => lhs; whnf
    rcases Bool.eq_false_or_eq_true (ine (rdE b p2 er2) 0) with hc0 | hc0
    · rw [hc0]; replace hc0 := of_ine_t hc0; try simp only [llen_eq] at hc0
      conv => lhs; whnf
      dsimp -iota -beta -eta -zeta only
      (rw [readS_of g0 g1 g2, if_pos (by omega)]; try rfl)
    · rw [hc0]; replace hc0 := of_ine_f hc0; try simp only [llen_eq] at hc0
      conv => lhs; whnf
      dsimp -iota -beta -eta -zeta only
      rw [toReq_call]
      rw [ev_wunique _ _ _ _ _ (by omega) (by omega) (by omega)]
      conv => lhs; whnf
      dsimp -iota -beta -eta -zeta only
      rw [toReq_call]
      rw [ev_equal _ _ (by omega)]
      conv => lhs; whnf
      dsimp -iota -beta -eta -zeta only
      rw [drw (by kernel_rfl)]; conv => lhs; whnf
      rw [bnot_eq]; conv => lhs; whnf
      rcases Bool.eq_false_or_eq_true (decide (u = uniB k h { auth := v0, seed := v1, data := v2 })) with hc1 | hc1
      · rw [hc1]; replace hc1 := of_decide_eq_true hc1; try simp only at hc1
        conv => lhs; whnf
        dsimp -iota -beta -eta -zeta only
        (rw [readS_of g0 g1 g2, if_neg (by omega), if_neg (by first | assumption | simp_all)]; try rfl)
      · rw [hc1]; replace hc1 := of_decide_eq_false hc1; try simp only at hc1
        conv => lhs; whnf
        dsimp -iota -beta -eta -zeta only
        (rw [readS_of g0 g1 g2, if_neg (by omega), if_pos (by first | assumption | simp_all)]; try rfl)
  · rw [if_pos hz]
    rw [Y_go]; conv => lhs; whnf
    dsimp -iota -beta -eta -zeta only
    rw [toReq_call]
    rw [ev_wkey _ _ _ _ _ _ _ _ (by omega) (by omega) (by omega)]
    conv => lhs; whnf
    dsimp -iota -beta -eta -zeta only
    rw [toReq_call]
    rw [ev_aenc _ _ _ _ _ (by omega) (by omega)]
    conv => lhs; whnf
    dsimp -iota -beta -eta -zeta only
    rw [toReq_call]
    rw [eo]
    conv => lhs; whnf
    rw [ine_t (by omega)]
    conv => lhs; whnf
    dsimp -iota -beta -eta -zeta only
    rfl
end Go.Proofs.YtfjcmolccckhhaaGreatDoor

namespace Go.Ax
open Go Go.Eng Go.RowKit
set_option linter.unusedVariables false
set_option linter.unusedSimpArgs false
theorem lg0 {α : Type} (x : α) (l : List α) : lget (x :: l) 0 = some x := by rw [lget_d]; simp [lget0]
theorem lg1 {α : Type} (x y : α) (l : List α) : lget (x :: y :: l) 1 = some y := by rw [lget_d]; simp [lget0]
theorem lg2 {α : Type} (x y z : α) (l : List α) : lget (x :: y :: z :: l) 2 = some z := by rw [lget_d]; simp [lget0]
abbrev objE (p : Pub) (s : Sen) (h : Int) : El objT := ((p.kind, p.attr, p.height, p.policy, p.unique), (s.auth, s.seed, s.data), h)
def obj0 : El objT := ((0, 0, 0, [], []), ([], [], []), 0)
def ses0 : El sesT := (0, [], [], 0, 0, 0, 0, false)
def kindE (x : El objT) : Int := x.1.1
def freeAt : List (El objT) → Nat
  | [] => 0
  | x :: l => if x.1.1 = 0 then 0 else freeAt l + 1
def slotAt (ob : List (El objT)) (h : Int) : Option (El objT) := if 512 ≤ h then (match ob[(h - 512).toNat]? with | some x => if x.1.1 = 0 then none else some x | none => none) else none
def primL : List UInt8 := [112, 114, 105, 109, 97, 114, 121]
def randL : List UInt8 := [114, 97, 110, 100, 111, 109]
def entrL : List UInt8 := [101, 110, 116, 114, 111, 112, 121]
noncomputable def primS (seed : List UInt8) (k a h : Int) (o data : List UInt8) : List UInt8 := derB seed primL (frameB 0 [[iu8 k, iu8 a, iu8 h], o, data]) 32
structure Ans where
  err : Int
  ints : List Int
  blobs : List (List UInt8)
def putO (ob : List (El objT)) (p : Pub) (s : Sen) (h : Int) (blobs : List (List UInt8)) : List (El objT) × Ans :=
  if freeAt ob < ob.length then (ob.set (freeAt ob) (objE p s h), ⟨0, [512 + (freeAt ob : Int)], blobs⟩) else (ob, ⟨25, [], []⟩)
noncomputable def primR (sd : List (List UInt8)) (ob : List (El objT)) (h k a t : Int) (o auth data : List UInt8) : List (El objT) × Ans :=
  if 0 ≤ h ∧ h < sd.length then
    (let m := makeP (primS (sd.getD h.toNat []) k a t o data) ⟨k, a, t, o, []⟩ auth data
     if m.2.2 ≠ 0 then (ob, ⟨m.2.2, [], []⟩) else putO ob m.1 m.2.1 h [encP m.1, nameB m.1])
  else (ob, ⟨7, [], []⟩)
def bankJ (n : Nat) (j : Nat) : List (List UInt8) := (List.range j).map fun i => List.replicate n (if 12 ≤ i then 255 else 0)
theorem bankJ_succ (n j : Nat) : bankJ n (j + 1) = bankJ n j ++ [List.replicate n (if 12 ≤ j then 255 else 0)] := by simp [bankJ, List.range_succ]
theorem bankJ_len (n j : Nat) : (bankJ n j).length = j := by simp [bankJ]
def bankB (n : Nat) : List (List UInt8) := bankJ n 16
def sizB (b : Int) : Int := if b = 0 then 20 else if b = 1 then 32 else 0
theorem bank_app (b : Int) (n j : Nat) (hn : (sizB b).toNat = n) : lapp (bankJ n j) [List.replicate (sizB b).toNat (if (12 : Int) ≤ (j : Int) then (255 : UInt8) else 0)] = bankJ n (j + 1) := by
  rw [lapp_eq, bankJ_succ, hn]
  by_cases h : 12 ≤ j
  · rw [if_pos (by omega), if_pos h]
  · rw [if_neg (by omega), if_neg h]
theorem rep_set (j k : Nat) (x : UInt8) : (List.replicate j x ++ List.replicate (k + 1) 0).set j x = List.replicate (j + 1) x ++ List.replicate k 0 := by
  rw [List.set_append_right _ _ (by simp)]
  simp only [List.length_replicate, Nat.sub_self, List.replicate_succ, List.set_cons_zero]
  rw [← List.replicate_succ, List.replicate_succ', List.append_assoc]; rfl
def newRB (ac : Int) : List (List (List UInt8)) := if ac % 4 = 0 then [] else [if ac % 2 = 1 then bankB 20 else [], if ac / 2 % 2 = 1 then bankB 32 else []]
def ent0 : List UInt8 := seedB [UInt8.ofNat 7]
def seedsE (en : List UInt8) : List (List UInt8) := [derB en seedL [0] 32, derB en seedL [1] 32, derB en seedL [2] 32]
def randB (en : List UInt8) (re rs dr n : Int) : List UInt8 := derB en randL (uintB (uintB (uintB [] 8 re) 8 rs) 8 dr) n
def creR (par : Sen) (en : List UInt8) (re rs dr k a t : Int) (o auth data : List UInt8) : Int × Ans :=
  let m := makeP (randB en re rs dr 32) ⟨k, a, t, o, []⟩ auth data
  if m.2.2 ≠ 0 then (dr, ⟨m.2.2, [], []⟩) else (dr + 1, ⟨0, [], [encP m.1, privB par m.1 m.2.1]⟩)
def loaR (ob : List (El objT)) (par : Sen) (hier : Int) (pub priv : List UInt8) : List (El objT) × Ans :=
  if (decP pub).2 ≠ 0 then (ob, ⟨(decP pub).2, [], []⟩)
  else if (openS par (decP pub).1 priv).2 ≠ 0 then (ob, ⟨(openS par (decP pub).1 priv).2, [], []⟩)
  else putO ob (decP pub).1 (openS par (decP pub).1 priv).1 hier [nameB (decP pub).1]
def keyAt (u : List UInt8) : List (El lvT) → Nat
  | [] => 0
  | x :: l => if x.1 = u then 0 else keyAt u l + 1
def useR (ks : List (El lvT)) (u : List UInt8) (h : Int) : List (El lvT) × Int × Int :=
  if keyAt u ks < ks.length then
    (if (2 : Int) ^ h.toNat ≤ (ks.getD (keyAt u ks) ([], 0)).2 then (ks, 0, 26) else (ks.set (keyAt u ks) ((ks.getD (keyAt u ks) ([], 0)).1, (ks.getD (keyAt u ks) ([], 0)).2 + 1), (ks.getD (keyAt u ks) ([], 0)).2, 0))
  else if 8 ≤ ks.length then (ks, 0, 25) else (ks ++ [(u, 1)], 0, 0)
theorem prim_ex {sd : List (List UInt8)} {ob : List (El objT)} {h k a t : Int} {o auth d : List UInt8} (hh : 0 ≤ h ∧ h < sd.length) (hf : freeAt ob < ob.length) (hc : chkP ⟨k, a, t, o, List.replicate (uniq k).toNat 0⟩ = 0) (ha : auth.length ≤ 32) (hd : d.length ≤ 128) (hk : 0 < d.length → k = 3) :
    ∃ S, S = derB (primS (sd.getD h.toNat []) k a t o d) seedL [] 32 ∧ S.length = 32 ∧ primR sd ob h k a t o auth d = (ob.set (freeAt ob) ((k, a, t, o, uniB k t ⟨auth, S, d⟩), (auth, S, d), h), ⟨0, [512 + (freeAt ob : Int)], [encP ⟨k, a, t, o, uniB k t ⟨auth, S, d⟩⟩, nameB ⟨k, a, t, o, uniB k t ⟨auth, S, d⟩⟩]⟩) := by
  refine ⟨_, rfl, derB_len (n := 32) (by omega), ?_⟩
  have hm := make_okP (secret := primS (sd.getD h.toNat []) k a t o d) hc ha hd hk
  unfold primR
  rw [if_pos hh, show makeP (primS (sd.getD h.toNat []) k a t o d) ⟨k, a, t, o, []⟩ auth d = makeP (primS (sd.getD h.toNat []) k a t o d) ⟨k, a, t, o, List.replicate (uniq k).toNat 0⟩ auth d from rfl, hm]
  simp only [ne_eq, not_true_eq_false, if_false]
  unfold putO
  rw [if_pos hf]
theorem seedsE_le (en : List UInt8) : ∀ l ∈ seedsE en, l.length ≤ 1000 := by
  intro l hl
  simp only [seedsE, List.mem_cons, List.not_mem_nil, or_false] at hl
  rcases hl with rfl | rfl | rfl <;> (rw [derB_len (by omega)]; decide)
abbrev ansX (a : Ans) : List AV := [.i a.err, .sl .i64 a.ints, .sl (.sl .u8) a.blobs, .sl (.sl .u8) []]
end Go.Ax

namespace Go.Proofs.YtfjcmolccckhhaaGreatDoor
open Go Go.Ax Go.Eng
set_option linter.unusedVariables false
set_option linter.unusedSimpArgs false
attribute [local irreducible] iadd isub imul iquo irem ibit ineg ieq ine ilt ile ishl ishr beq' bnot and' seq' u8op u8rem u32op u64op u8shr u8shl u64shr u64shl u32shr u32shl i64w u8i u64i iu8 iu32 iu64 u8u64 u64u8 u32u8 u64cmp u8cmp u32cmp llen lget linb lset lcut lrep lapp lcpy lemp fits fitn ieqs sealed drawChk fpSame
attribute [local irreducible] derB seedB
set_option maxHeartbeats 4000000
set_option maxRecDepth 100000
theorem ev_r8fill_loop (x : UInt8) (m : Nat) (hm : m ≤ 1000) : ∀ (k j : Nat), j + k = m → Y E0 (.loop 213 0 0 1 [(0, .i (m : Int)), (1, .u8 x), (5, .nm 0), (6, .i (j : Int))] [(0, some (.row 5 .u8 (List.replicate j x ++ List.replicate k 0)))]) = some (.fin (.exit 0) 0 [(5, .sl .u8 (List.replicate m x))] [])
  | 0, j, hj => by
    obtain rfl : j = m := by omega
    rw [Y_go]; conv => lhs; whnf
    rw [ilt_f (by omega)]
    conv => lhs; whnf
    simp
  | k + 1, j, hj => by
    have ih := ev_r8fill_loop x m hm k (j + 1) (by omega)
    rw [show ((j + 1 : Nat) : Int) = (j : Int) + 1 from by omega, ← rep_set] at ih
    have hs : lset (List.replicate j x ++ List.replicate (k + 1) 0) (j : Int) x = (List.replicate j x ++ List.replicate (k + 1) 0).set j x := by rw [lset_eq]; simp
    rw [Y_go]; conv => lhs; whnf
    rw [ilt_t (by omega)]
    conv => lhs; whnf
    rw [linb_t (by (simp only [sha256_len, fr1_len, fr2_len, fr3_len, nameB_l32, wkey_32, uintB_l2, uintB_l1, blobB_l, bankJ_len, LL] at * <;> omega))]
    conv => lhs; whnf
    rw [lget_n (by (simp only [sha256_len, fr1_len, fr2_len, fr3_len, nameB_l32, wkey_32, uintB_l2, uintB_l1, blobB_l, bankJ_len, LL] at * <;> omega))]
    conv => lhs; whnf
    dsimp -iota -beta -eta -zeta only
    rw [iadd_eq (by omega)]
    rw [hs]; exact ih
theorem ev_r8fill (n : Int) (x : UInt8) (hn : 0 ≤ n ∧ n ≤ 1000) : Y E0 (.call 213 [.i n, .u8 x] []) = some (.ret (.sl .u8 (List.replicate n.toNat x)) []) := by
  obtain ⟨m, rfl⟩ : ∃ m : Nat, n = m := ⟨n.toNat, by omega⟩
  have hl := ev_r8fill_loop x m (by omega) m 0 (by omega)
  rw [show ((0 : Nat) : Int) = 0 from rfl, List.replicate_zero, List.nil_append] at hl
  have he : lrep (m : Int) (0 : UInt8) = List.replicate m 0 := by rw [lrep_eq]; simp
  rw [Y_go]; conv => lhs; whnf
  rw [fitn_t (by omega)]
  conv => lhs; whnf
  rw [ieq_t (by omega)]
  conv => lhs; whnf
  dsimp -iota -beta -eta -zeta only
  rw [toReq_loop]
  rw [he, hl]
  conv => lhs; whnf
  simp
theorem ev_r1size (b : Int) : Y E0 (.call 214 [.i b] []) = some (.ret (.i (sizB b)) []) := by
  rw [Y_go]; conv => lhs; whnf
  rcases Bool.eq_false_or_eq_true (ieq b 0) with hc0 | hc0
  · rw [hc0]; replace hc0 := of_ieq_t hc0; try simp only [llen_eq] at hc0
    subst hc0
    conv => lhs; whnf
    unfold sizB; (repeat (first | rw [if_pos (by first | omega | decide | assumption | (simp only [sha256_len, fr1_len, fr2_len, fr3_len, nameB_l32, wkey_32, uintB_l2, uintB_l1, blobB_l, bankJ_len, LL] at * <;> omega) | (simp; omega))] | rw [if_neg (by first | omega | decide | assumption | (simp only [sha256_len, fr1_len, fr2_len, fr3_len, nameB_l32, wkey_32, uintB_l2, uintB_l1, blobB_l, bankJ_len, LL] at * <;> omega) | (simp; omega))])); try simp only [NO]
  · rw [hc0]; replace hc0 := of_ieq_f hc0; try simp only [llen_eq] at hc0
    conv => lhs; whnf
    rcases Bool.eq_false_or_eq_true (ieq b 1) with hc1 | hc1
    · rw [hc1]; replace hc1 := of_ieq_t hc1; try simp only [llen_eq] at hc1
      subst hc1
      conv => lhs; whnf
      unfold sizB; (repeat (first | rw [if_pos (by first | omega | decide | assumption | (simp only [sha256_len, fr1_len, fr2_len, fr3_len, nameB_l32, wkey_32, uintB_l2, uintB_l1, blobB_l, bankJ_len, LL] at * <;> omega) | (simp; omega))] | rw [if_neg (by first | omega | decide | assumption | (simp only [sha256_len, fr1_len, fr2_len, fr3_len, nameB_l32, wkey_32, uintB_l2, uintB_l1, blobB_l, bankJ_len, LL] at * <;> omega) | (simp; omega))])); try simp only [NO]
    · rw [hc1]; replace hc1 := of_ieq_f hc1; try simp only [llen_eq] at hc1
      conv => lhs; whnf
      unfold sizB; (repeat (first | rw [if_pos (by first | omega | decide | assumption | (simp only [sha256_len, fr1_len, fr2_len, fr3_len, nameB_l32, wkey_32, uintB_l2, uintB_l1, blobB_l, bankJ_len, LL] at * <;> omega) | (simp; omega))] | rw [if_neg (by first | omega | decide | assumption | (simp only [sha256_len, fr1_len, fr2_len, fr3_len, nameB_l32, wkey_32, uintB_l2, uintB_l1, blobB_l, bankJ_len, LL] at * <;> omega) | (simp; omega))])); try simp only [NO]
theorem ev_r8init (b j : Int) (hb : b = 0 ∨ b = 1) : Y E0 (.call 173 [.i b, .i j] []) = some (.ret (.sl .u8 (List.replicate (sizB b).toNat (if 12 ≤ j then 255 else 0))) []) := by
  have hs : 0 ≤ sizB b ∧ sizB b ≤ 1000 := by unfold sizB; split <;> (try split) <;> omega
  rw [Y_go]; conv => lhs; whnf
  rcases Bool.eq_false_or_eq_true (ile 12 j) with hc0 | hc0
  · rw [hc0]; replace hc0 := of_ile_t hc0; try simp only [llen_eq] at hc0
    conv => lhs; whnf
    dsimp -iota -beta -eta -zeta only
    rw [toReq_call]
    rw [ev_r1size _]
    conv => lhs; whnf
    dsimp -iota -beta -eta -zeta only
    rw [toReq_call]
    rw [ev_r8fill _ _ (by omega)]
    conv => lhs; whnf
    (rw [if_pos (by omega)]; try rfl)
  · rw [hc0]; replace hc0 := of_ile_f hc0; try simp only [llen_eq] at hc0
    conv => lhs; whnf
    dsimp -iota -beta -eta -zeta only
    rw [toReq_call]
    rw [ev_r1size _]
    conv => lhs; whnf
    dsimp -iota -beta -eta -zeta only
    rw [toReq_call]
    rw [ev_r8fill _ _ (by omega)]
    conv => lhs; whnf
    (rw [if_neg (by omega)]; try rfl)
theorem ev_r13new : Y E0 (.call 110 [] []) = some (.ret (.agg [.i 0, .i 5, .i 100, .i 0, .i 0, .i 1000]) []) := by
  rw [Y_go]; conv => lhs; whnf
theorem ev_r8on0 (a : Int) (h : ibit .and (ishr a (iu64 0).toNat) 1 = 1) : ∀ (k j : Nat), j + k = 16 → Y E0 (.loop 111 1 0 3 [(0, .i a), (2, .pa 0 0), (3, .pa 1 0), (4, .i 0), (5, .nm 2), (6, .i (j : Int))] [(0, some (.var [.nil, .i 0])), (1, some (.var [.nil, .i 0])), (2, some (.row 22 (.sl .u8) (bankJ 20 j)))]) = some (.fin (.exit 2) 2 [(0, AV.i a), (2, AV.pa 0 0), (3, AV.pa 1 0), (4, AV.i 0), (5, AV.sl Ty.u8.sl (bankJ 20 16))] [(0, some (Rs.var [AV.nil, AV.i 0])), (1, some (Rs.var [AV.nil, AV.i 0]))])
  | 0, j, hj => by
    obtain rfl : j = 16 := by omega
    rw [Y_go]; conv => lhs; whnf
    rw [ilt_f (by omega)]
    conv => lhs; whnf
  | k + 1, j, hj => by
    have ih := ev_r8on0 a h k (j + 1) (by omega)
    rw [show ((j + 1 : Nat) : Int) = (j : Int) + 1 from by omega, ← bank_app 0 20 j rfl] at ih
    rw [Y_go]; conv => lhs; whnf
    rw [ilt_t (by omega)]
    conv => lhs; whnf
    rw [ieq_t (by omega)]
    conv => lhs; whnf
    dsimp -iota -beta -eta -zeta only
    rw [toReq_call]
    rw [ev_r8init _ _ (by omega)]
    conv => lhs; whnf
    rw [fits_t (by (simp only [sha256_len, fr1_len, fr2_len, fr3_len, nameB_l32, wkey_32, uintB_l2, uintB_l1, blobB_l, bankJ_len, LL] at * <;> omega))]
    conv => lhs; whnf
    dsimp -iota -beta -eta -zeta only
    rw [iadd_eq (by omega)]
    exact ih
theorem ev_r8off0 (a : Int) (h : ibit .and (ishr a (iu64 0).toNat) 1 ≠ 1) : Y E0 (.loop 111 1 0 3 [(0, .i a), (2, .pa 0 0), (3, .pa 1 0), (4, .i 0), (5, .nm 2), (6, .i 0)] [(0, some (.var [.nil, .i 0])), (1, some (.var [.nil, .i 0])), (2, some (.row 22 (.sl .u8) []))]) = some (.fin (.exit 2) 2 [(0, AV.i a), (2, AV.pa 0 0), (3, AV.pa 1 0), (4, AV.i 0), (5, AV.sl Ty.u8.sl [])] [(0, some (Rs.var [AV.nil, AV.i 0])), (1, some (Rs.var [AV.nil, AV.i 0]))]) := by
  rw [Y_go]; conv => lhs; whnf
  rw [ilt_t (by omega)]
  conv => lhs; whnf
  rw [ieq_f (by omega)]
  conv => lhs; whnf
theorem ev_r8on1 (a : Int) (l : List (List UInt8)) (h : ibit .and (ishr a (iu64 1).toNat) 1 = 1) : ∀ (k j : Nat), j + k = 16 → Y E0 (.loop 111 1 0 4 [(0, .i a), (2, .pa 0 0), (3, .pa 1 0), (4, .i 1), (5, .nm 2), (6, .i (j : Int))] [(0, some (.var [.nil, .i 0])), (1, some (.var [.nm 3, .i 0])), (2, some (.row 22 (.sl .u8) (bankJ 32 j))), (3, some (.row 29 (.sl (.sl .u8)) [l]))]) = some (.fin (.exit 2) 3 [(0, .i a), (2, .pa 0 0), (3, .pa 1 0), (4, .i 1), (5, .sl (.sl .u8) (bankJ 32 16))] [(0, some (.var [.nil, .i 0])), (1, some (.var [.nm 2, .i 0])), (2, some (.row 29 (.sl (.sl .u8)) [l]))])
  | 0, j, hj => by
    obtain rfl : j = 16 := by omega
    rw [Y_go]; conv => lhs; whnf
    rw [ilt_f (by omega)]
    conv => lhs; whnf
  | k + 1, j, hj => by
    have ih := ev_r8on1 a l h k (j + 1) (by omega)
    rw [show ((j + 1 : Nat) : Int) = (j : Int) + 1 from by omega, ← bank_app 1 32 j rfl] at ih
    rw [Y_go]; conv => lhs; whnf
    rw [ilt_t (by omega)]
    conv => lhs; whnf
    rw [ieq_t (by omega)]
    conv => lhs; whnf
    dsimp -iota -beta -eta -zeta only
    rw [toReq_call]
    rw [ev_r8init _ _ (by omega)]
    conv => lhs; whnf
    rw [fits_t (by (simp only [sha256_len, fr1_len, fr2_len, fr3_len, nameB_l32, wkey_32, uintB_l2, uintB_l1, blobB_l, bankJ_len, LL] at * <;> omega))]
    conv => lhs; whnf
    dsimp -iota -beta -eta -zeta only
    rw [iadd_eq (by omega)]
    exact ih
theorem ev_r8off1 (a : Int) (l : List (List UInt8)) (h : ibit .and (ishr a (iu64 1).toNat) 1 ≠ 1) : Y E0 (.loop 111 1 0 4 [(0, .i a), (2, .pa 0 0), (3, .pa 1 0), (4, .i 1), (5, .nm 2), (6, .i 0)] [(0, some (.var [.nil, .i 0])), (1, some (.var [.nm 3, .i 0])), (2, some (.row 22 (.sl .u8) [])), (3, some (.row 29 (.sl (.sl .u8)) [l]))]) = some (.fin (.exit 2) 3 [(0, .i a), (2, .pa 0 0), (3, .pa 1 0), (4, .i 1), (5, .sl (.sl .u8) [])] [(0, some (.var [.nil, .i 0])), (1, some (.var [.nm 2, .i 0])), (2, some (.row 29 (.sl (.sl .u8)) [l]))]) := by
  rw [Y_go]; conv => lhs; whnf
  rw [ilt_t (by omega)]
  conv => lhs; whnf
  rw [ieq_f (by omega)]
  conv => lhs; whnf
theorem ev_r8in0 (a : Int) (l : List (List UInt8)) (hl : l = if ibit .and (ishr a (iu64 0).toNat) 1 = 1 then bankB 20 else []) : Y E0 (.loop 111 1 0 3 [(0, .i a), (2, .pa 0 0), (3, .pa 1 0), (4, .i 0), (5, .nm 2), (6, .i 0)] [(0, some (.var [.nil, .i 0])), (1, some (.var [.nil, .i 0])), (2, some (.row 22 (.sl .u8) []))]) = some (.fin (.exit 2) 2 [(0, AV.i a), (2, AV.pa 0 0), (3, AV.pa 1 0), (4, AV.i 0), (5, AV.sl Ty.u8.sl l)] [(0, some (Rs.var [AV.nil, AV.i 0])), (1, some (Rs.var [AV.nil, AV.i 0]))]) := by
  by_cases h : ibit .and (ishr a (iu64 0).toNat) 1 = 1
  · rw [if_pos h] at hl; subst hl; exact ev_r8on0 a h 16 0 (by omega)
  · rw [if_neg h] at hl; subst hl; exact ev_r8off0 a h
theorem ev_r8in1 (a : Int) (l l' : List (List UInt8)) (hl : l' = if ibit .and (ishr a (iu64 1).toNat) 1 = 1 then bankB 32 else []) : Y E0 (.loop 111 1 0 4 [(0, .i a), (2, .pa 0 0), (3, .pa 1 0), (4, .i 1), (5, .nm 2), (6, .i 0)] [(0, some (.var [.nil, .i 0])), (1, some (.var [.nm 3, .i 0])), (2, some (.row 22 (.sl .u8) [])), (3, some (.row 29 (.sl (.sl .u8)) [l]))]) = some (.fin (.exit 2) 3 [(0, .i a), (2, .pa 0 0), (3, .pa 1 0), (4, .i 1), (5, .sl (.sl .u8) l')] [(0, some (.var [.nil, .i 0])), (1, some (.var [.nm 2, .i 0])), (2, some (.row 29 (.sl (.sl .u8)) [l]))]) := by
  by_cases h : ibit .and (ishr a (iu64 1).toNat) 1 = 1
  · rw [if_pos h] at hl; subst hl; exact ev_r8on1 a l h 16 0 (by omega)
  · rw [if_neg h] at hl; subst hl; exact ev_r8off1 a l h
theorem ev_r8new (a : Int) (ha : 0 ≤ a) : Y E0 (.call 111 [.i a] []) = some (.ret (.agg [.sl (.sl (.sl .u8)) (newRB a), .i 0]) []) := by
  have e3 : ibit .and a 3 = a % 4 := iand_mask 2 (by decide) a
  have b0 : ibit .and (ishr a (iu64 0).toNat) 1 = a % 2 := by rw [show (iu64 0).toNat = 0 from by rw [iu64_eq]; rfl, ishr_eq (by omega)]; exact (iand_mask 1 (by decide) _).trans (by simp)
  have b1 : ibit .and (ishr a (iu64 1).toNat) 1 = a / 2 % 2 := by rw [show (iu64 1).toNat = 1 from by rw [iu64_eq]; rfl, ishr_eq (by omega)]; exact (iand_mask 1 (by decide) _).trans (by simp)
  have q0 := ev_r8in0 a _ (by rw [b0])
  have q1 := ev_r8in1 a (if a % 2 = 1 then bankB 20 else []) _ (by rw [b1])
  have hl : Y E0 (.loop 111 0 0 2 [(0, AV.i a), (2, AV.pa 0 0), (3, AV.pa 1 0), (4, AV.i 0)] [(0, some (Rs.var [AV.nil, AV.i 0])), (1, some (Rs.var [AV.nil, AV.i 0]))]) = some (.fin (.exit 0) 3 [(2, .pa 0 0), (3, .pa 1 0)] [(0, some (.var [.nil, .i 0])), (1, some (.var [.nm 2, .i 0])), (2, some (.row 29 (.sl (.sl .u8)) (lapp [if a % 2 = 1 then bankB 20 else []] [if a / 2 % 2 = 1 then bankB 32 else []])))]) := by
    rw [Y_go]; conv => lhs; whnf
    rw [ilt_t (by omega)]
    conv => lhs; whnf
    dsimp -iota -beta -eta -zeta only
    rw [toReq_loop]
    rw [q0]
    conv => lhs; whnf
    rw [fits_t (by (simp only [sha256_len, fr1_len, fr2_len, fr3_len, nameB_l32, wkey_32, uintB_l2, uintB_l1, blobB_l, bankJ_len, LL] at * <;> omega))]
    conv => lhs; whnf
    dsimp -iota -beta -eta -zeta only
    rw [iadd_eq (by omega)]
    rw [Y_go]; conv => lhs; whnf
    rw [ilt_t (by omega)]
    conv => lhs; whnf
    dsimp -iota -beta -eta -zeta only
    rw [toReq_loop]
    rw [show (0 : Int) + 1 = 1 from rfl, q1]
    conv => lhs; whnf
    rw [fits_t (by (simp only [sha256_len, fr1_len, fr2_len, fr3_len, nameB_l32, wkey_32, uintB_l2, uintB_l1, blobB_l, bankJ_len, LL] at * <;> omega))]
    conv => lhs; whnf
    dsimp -iota -beta -eta -zeta only
    rw [iadd_eq (by omega)]
    rw [Y_go]; conv => lhs; whnf
    rw [ilt_f (by omega)]
    conv => lhs; whnf
  rw [Y_go]; conv => lhs; whnf
  rw [e3]
  rcases Bool.eq_false_or_eq_true (ieq (a % 4) 0) with hc0 | hc0
  · rw [hc0]; replace hc0 := of_ieq_t hc0; try simp only [llen_eq] at hc0
    conv => lhs; whnf
    dsimp -iota -beta -eta -zeta only
    (rw [newRB, if_pos (show a % 4 = 0 by omega)])
  · rw [hc0]; replace hc0 := of_ieq_f hc0; try simp only [llen_eq] at hc0
    conv => lhs; whnf
    dsimp -iota -beta -eta -zeta only
    rw [toReq_loop]
    rw [hl]
    conv => lhs; whnf
    dsimp -iota -beta -eta -zeta only
    (rw [newRB, if_neg (show ¬ a % 4 = 0 by omega), lapp_eq]; rfl)
theorem ev_r17boot (sd au : List (List UInt8)) (en : List UInt8) (ac re rs ck : Int) (od : Bool) (sb : List (List (List UInt8))) (su mc : Int) (ix : List (El idxT)) (l1 l2 l3 l4 l5 l6 : Int) (ks : List (El lvT)) : Y E0 (.call 38 [.agg [.sl (.sl .u8) sd, .sl (.sl .u8) au, .sl .u8 en, .i ac, .i re, .i rs, .i ck, .b od, .sl (.sl (.sl .u8)) sb, .i su, .i mc, .sl idxT ix, .i l1, .i l2, .i l3, .i l4, .i l5, .i l6, .sl lvT ks]] []) = some (.ret (.agg [.sl (.sl .u8) sd, .sl (.sl .u8) au, .sl .u8 en, .i ac, .i re, .i rs, .i ck, .b od, .sl (.sl (.sl .u8)) sb, .i su, .i mc, .sl idxT ix, .i l1, .i l2, .i l3, .i l4, .i l5, .i l6, .sl lvT ks, .b false, .b false, .sl (.sl (.sl .u8)) [], .i 0, .i 0, .b false, .i 0, .sl sesT (List.replicate 3 ses0), .sl objT (List.replicate 3 obj0), .sl .i64 [], .sl .i64 []]) []) := by
  have h1 : lrep 3 ((0, [], [], 0, 0, 0, 0, false) : El sesT) = List.replicate 3 ses0 := by rw [lrep_eq]; rfl
  have h2 : lrep 3 (((0, 0, 0, [], []), ([], [], []), 0) : El objT) = List.replicate 3 obj0 := by rw [lrep_eq]; rfl
  rw [Y_go]; conv => lhs; whnf
  dsimp -iota -beta -eta -zeta only
  rw [fitn_t (by omega)]
  conv => lhs; whnf
  rw [ieq_t (by omega)]
  conv => lhs; whnf
  rw [fitn_t (by omega)]
  conv => lhs; whnf
  rw [ieq_t (by omega)]
  conv => lhs; whnf
  dsimp -iota -beta -eta -zeta only
  rw [drw (by kernel_rfl)]; conv => lhs; whnf
  dsimp -iota -beta -eta -zeta only
  (rw [h1, h2])
theorem ev_r17new_loop (en : List UInt8) (a : Int) (he : en.length = 32) (ha : 0 ≤ a ∧ a ≤ 3) (e : List UInt8) : Y E0 (.loop 36 0 0 3 [(0, AV.sl Ty.u8 en), (4, AV.pa 0 0), (6, AV.pa 1 0), (7, AV.i 0)] [(0, some (Rs.var [AV.nil, AV.nil, AV.nil, AV.i 0, AV.i 0, AV.i 0, AV.i 0, AV.b false, AV.nil, AV.i 0, AV.i 0, AV.nil, AV.i 0, AV.i 0, AV.i 0, AV.i 0, AV.i 0, AV.i 0, AV.nil])), (1, some (Rs.var [AV.nil, AV.nm 2, AV.sl Ty.u8 e, AV.i a, AV.i 0, AV.i 0, AV.i 0, AV.b true, AV.nil, AV.i 0, AV.i 0, AV.nil, AV.i 0, AV.i 5, AV.i 100, AV.i 0, AV.i 0, AV.i 1000, AV.nil])), (2, some (Rs.row 22 Ty.u8.sl (lrep 4 [])))]) =
    some (.fin (.exit 0) 4 [(4, .pa 0 0), (6, .pa 1 0)] [(0, some (Rs.var [AV.nil, AV.nil, AV.nil, AV.i 0, AV.i 0, AV.i 0, AV.i 0, AV.b false, AV.nil, AV.i 0, AV.i 0, AV.nil, AV.i 0, AV.i 0, AV.i 0, AV.i 0, AV.i 0, AV.i 0, AV.nil])), (1, some (Rs.var [AV.nm 2, AV.nm 3, AV.sl Ty.u8 e, AV.i a, AV.i 0, AV.i 0, AV.i 0, AV.b true, AV.nil, AV.i 0, AV.i 0, AV.nil, AV.i 0, AV.i 5, AV.i 100, AV.i 0, AV.i 0, AV.i 1000, AV.nil])), (2, some (Rs.row 22 Ty.u8.sl (lapp (lapp [derB en seedL [iu8 0] 32] [derB en seedL [iu8 1] 32]) [derB en seedL [iu8 2] 32]))), (3, some (Rs.row 22 Ty.u8.sl (lrep 4 [])))]) := by
  rw [Y_go]; conv => lhs; whnf
  rw [ilt_t (by omega)]
  conv => lhs; whnf
  dsimp -iota -beta -eta -zeta only
  rw [toReq_call]
  rw [show strOf { data := #[115, 101, 101, 100] } = seedL from rfl, ev_rderive _ _ _ _ (by omega) (by decide) (by simp)]
  conv => lhs; whnf
  rw [fits_t (by (simp only [sha256_len, fr1_len, fr2_len, fr3_len, nameB_l32, wkey_32, uintB_l2, uintB_l1, blobB_l, bankJ_len, LL] at * <;> omega))]
  conv => lhs; whnf
  dsimp -iota -beta -eta -zeta only
  rw [drw (by kernel_rfl)]; conv => lhs; whnf
  dsimp -iota -beta -eta -zeta only
  rw [iadd_eq (by omega)]
  rw [Y_go]; conv => lhs; whnf
  rw [ilt_t (by omega)]
  conv => lhs; whnf
  dsimp -iota -beta -eta -zeta only
  rw [toReq_call]
  rw [show strOf { data := #[115, 101, 101, 100] } = seedL from rfl, ev_rderive _ _ _ _ (by omega) (by decide) (by simp)]
  conv => lhs; whnf
  rw [fits_t (by (simp only [sha256_len, fr1_len, fr2_len, fr3_len, nameB_l32, wkey_32, uintB_l2, uintB_l1, blobB_l, bankJ_len, LL] at * <;> omega))]
  conv => lhs; whnf
  dsimp -iota -beta -eta -zeta only
  rw [drw (by kernel_rfl)]; conv => lhs; whnf
  dsimp -iota -beta -eta -zeta only
  rw [iadd_eq (by omega)]
  rw [Y_go]; conv => lhs; whnf
  rw [ilt_t (by omega)]
  conv => lhs; whnf
  dsimp -iota -beta -eta -zeta only
  rw [toReq_call]
  rw [show strOf { data := #[115, 101, 101, 100] } = seedL from rfl, ev_rderive _ _ _ _ (by omega) (by decide) (by simp)]
  conv => lhs; whnf
  rw [fits_t (by (simp only [sha256_len, fr1_len, fr2_len, fr3_len, nameB_l32, wkey_32, uintB_l2, uintB_l1, blobB_l, bankJ_len, LL] at * <;> omega))]
  conv => lhs; whnf
  dsimp -iota -beta -eta -zeta only
  rw [drw (by kernel_rfl)]; conv => lhs; whnf
  dsimp -iota -beta -eta -zeta only
  rw [iadd_eq (by omega)]
  rw [Y_go]; conv => lhs; whnf
  rw [ilt_f (by omega)]
  conv => lhs; whnf
  rfl
theorem ev_r17new (en : List UInt8) (a : Int) (he : en.length = 32) (ha : 0 ≤ a ∧ a ≤ 3) : Y E0 (.call 36 [.sl .u8 en, .i a] []) = some (.ret (.tup [.agg [.sl (.sl .u8) (seedsE en), .sl (.sl .u8) [[], [], [], []], .sl .u8 (derB en entrL [] 32), .i a, .i 0, .i 0, .i 0, .b true, .sl (.sl (.sl .u8)) [], .i 0, .i 0, .sl idxT [], .i 0, .i 5, .i 100, .i 0, .i 0, .i 1000, .sl lvT []], .i 0]) []) := by
  have h1 : lapp (lapp [derB en seedL [iu8 0] 32] [derB en seedL [iu8 1] 32]) [derB en seedL [iu8 2] 32] = seedsE en := by rw [lapp_eq, lapp_eq, iu8_eq, iu8_eq, iu8_eq]; rfl
  have h2 : lrep 4 ([] : List UInt8) = [[], [], [], []] := by rw [lrep_eq]; rfl
  rw [Y_go]; conv => lhs; whnf
  rw [ine_f (by (simp only [sha256_len, fr1_len, fr2_len, fr3_len, nameB_l32, wkey_32, uintB_l2, uintB_l1, blobB_l, bankJ_len, LL] at * <;> omega))]
  conv => lhs; whnf
  rw [ilt_f (by omega)]
  conv => lhs; whnf
  rw [ilt_f (by omega)]
  conv => lhs; whnf
  rw [fitn_t (by omega)]
  conv => lhs; whnf
  rw [ieq_t (by omega)]
  conv => lhs; whnf
  dsimp -iota -beta -eta -zeta only
  rw [toReq_call]
  rw [show strOf { data := #[101, 110, 116, 114, 111, 112, 121] } = entrL from rfl, ev_rderive _ _ _ _ (by omega) (by decide) (by simp)]
  conv => lhs; whnf
  dsimp -iota -beta -eta -zeta only
  rw [toReq_call]
  rw [ev_r13new]
  conv => lhs; whnf
  dsimp -iota -beta -eta -zeta only
  rw [drw (by kernel_rfl)]; conv => lhs; whnf
  dsimp -iota -beta -eta -zeta only
  rw [toReq_loop]
  rw [ev_r17new_loop _ _ (by omega) (by omega) _]
  conv => lhs; whnf
  dsimp -iota -beta -eta -zeta only
  (rw [h1, h2])
theorem ev_r17start (sd au : List (List UInt8)) (en : List UInt8) (ac re rs ck : Int) (od : Bool) (sb : List (List (List UInt8))) (su mc : Int) (ix : List (El idxT)) (l1 l2 l3 l4 l5 l6 : Int) (ks : List (El lvT)) (st sp : Bool) (rb : List (List (List UInt8))) (ru vc : Int) (sf : Bool) (dr : Int) (ss : List (El sesT)) (ob : List (El objT)) (rl wl : List Int) (h : st = false ∧ sp = false) (hr : 0 ≤ re ∧ re ≤ 1000000) (ha : 0 ≤ ac) : Y E0 (.call 37 [.agg [.sl (.sl .u8) sd, .sl (.sl .u8) au, .sl .u8 en, .i ac, .i re, .i rs, .i ck, .b od, .sl (.sl (.sl .u8)) sb, .i su, .i mc, .sl idxT ix, .i l1, .i l2, .i l3, .i l4, .i l5, .i l6, .sl lvT ks, .b st, .b sp, .sl (.sl (.sl .u8)) rb, .i ru, .i vc, .b sf, .i dr, .sl sesT ss, .sl objT ob, .sl .i64 rl, .sl .i64 wl], .i 0] []) = some (.ret (.tup [.agg [.sl (.sl .u8) sd, .sl (.sl .u8) au, .sl .u8 en, .i ac, .i (re+1), .i 0, .i ck, .b false, .sl (.sl (.sl .u8)) [], .i 0, .i mc, .sl idxT ix, .i l1, .i l2, .i l3, .i l4, .i l5, .i l6, .sl lvT ks, .b true, .b sp, .sl (.sl (.sl .u8)) (newRB ac), .i 0, .i ck, .b od, .i dr, .sl sesT ss, .sl objT ob, .sl .i64 rl, .sl .i64 wl], .i 0]) []) := by
  obtain ⟨rfl, rfl⟩ := h
  rw [Y_go]; conv => lhs; whnf
  rw [ine_f (by omega)]
  conv => lhs; whnf
  rw [ieq_f (by omega)]
  conv => lhs; whnf
  rw [ieq_t (by omega)]
  conv => lhs; whnf
  dsimp -iota -beta -eta -zeta only
  rw [toReq_call]
  rw [ev_r8new _ (by omega)]
  conv => lhs; whnf
  rw [iadd_eq (by omega)]
  rw [Y_go]; conv => lhs; whnf
theorem ev_wake (sd au : List (List UInt8)) (en : List UInt8) (ac re rs ck : Int) (od : Bool) (sb : List (List (List UInt8))) (su mc : Int) (ix : List (El idxT)) (l1 l2 l3 l4 l5 l6 : Int) (ks : List (El lvT)) (st sp : Bool) (rb : List (List (List UInt8))) (ru vc : Int) (sf : Bool) (dr : Int) (ss : List (El sesT)) (ob : List (El objT)) (rl wl : List Int) (h : st = true) : Y E0 (.call 114 [.agg [.sl (.sl .u8) sd, .sl (.sl .u8) au, .sl .u8 en, .i ac, .i re, .i rs, .i ck, .b od, .sl (.sl (.sl .u8)) sb, .i su, .i mc, .sl idxT ix, .i l1, .i l2, .i l3, .i l4, .i l5, .i l6, .sl lvT ks, .b st, .b sp, .sl (.sl (.sl .u8)) rb, .i ru, .i vc, .b sf, .i dr, .sl sesT ss, .sl objT ob, .sl .i64 rl, .sl .i64 wl]] []) = some (.ret (.agg [.sl (.sl .u8) sd, .sl (.sl .u8) au, .sl .u8 en, .i ac, .i re, .i rs, .i ck, .b od, .sl (.sl (.sl .u8)) sb, .i su, .i mc, .sl idxT ix, .i l1, .i l2, .i l3, .i l4, .i l5, .i l6, .sl lvT ks, .b st, .b sp, .sl (.sl (.sl .u8)) rb, .i ru, .i vc, .b sf, .i dr, .sl sesT ss, .sl objT ob, .sl .i64 rl, .sl .i64 wl]) []) := by
  subst h
  rw [Y_go]; conv => lhs; whnf
theorem ev_play0 (sd au : List (List UInt8)) (en : List UInt8) (ac re rs ck : Int) (od : Bool) (sb : List (List (List UInt8))) (su mc : Int) (ix : List (El idxT)) (l1 l2 l3 l4 l5 l6 : Int) (ks : List (El lvT)) (st sp : Bool) (rb : List (List (List UInt8))) (ru vc : Int) (sf : Bool) (dr : Int) (ss : List (El sesT)) (ob : List (El objT)) (rl wl : List Int) (h : st = true) (n : Int) : Y E0 (.call 39 [.agg [.sl (.sl .u8) sd, .sl (.sl .u8) au, .sl .u8 en, .i ac, .i re, .i rs, .i ck, .b od, .sl (.sl (.sl .u8)) sb, .i su, .i mc, .sl idxT ix, .i l1, .i l2, .i l3, .i l4, .i l5, .i l6, .sl lvT ks, .b st, .b sp, .sl (.sl (.sl .u8)) rb, .i ru, .i vc, .b sf, .i dr, .sl sesT ss, .sl objT ob, .sl .i64 rl, .sl .i64 wl], .sl .u8 [], .sl .u8 [], .i n] []) = some (.ret (.agg [.sl (.sl .u8) sd, .sl (.sl .u8) au, .sl .u8 en, .i ac, .i re, .i rs, .i ck, .b od, .sl (.sl (.sl .u8)) sb, .i su, .i mc, .sl idxT ix, .i l1, .i l2, .i l3, .i l4, .i l5, .i l6, .sl lvT ks, .b st, .b sp, .sl (.sl (.sl .u8)) rb, .i ru, .i vc, .b sf, .i dr, .sl sesT ss, .sl objT ob, .sl .i64 rl, .sl .i64 wl]) []) := by
  subst h
  have hl : Y E0 (.loop 39 0 0 2 [(1, .sl .u8 []), (2, .sl .u8 []), (3, .i n), (4, .pa 0 0), (8, .pa 1 0), (9, .i 0)] [(0, some (.var [.sl (.sl .u8) sd, .sl (.sl .u8) au, .sl .u8 en, .i ac, .i re, .i rs, .i ck, .b od, .sl (.sl (.sl .u8)) sb, .i su, .i mc, .sl idxT ix, .i l1, .i l2, .i l3, .i l4, .i l5, .i l6, .sl lvT ks, .b true, .b sp, .sl (.sl (.sl .u8)) rb, .i ru, .i vc, .b sf, .i dr, .sl sesT ss, .sl objT ob, .sl .i64 rl, .sl .i64 wl])), (1, some (Rs.var [AV.nil, AV.nil, AV.nil, AV.i 0, AV.i 0, AV.i 0, AV.i 0, AV.b false, AV.nil, AV.i 0, AV.i 0, AV.nil, AV.i 0, AV.i 0, AV.i 0, AV.i 0, AV.i 0, AV.i 0, AV.nil, AV.b false, AV.b false, AV.nil, AV.i 0, AV.i 0, AV.b false, AV.i 0, AV.nil, AV.nil, AV.nil, AV.nil]))]) = some (.fin (.exit 0) 2 [(4, .pa 0 0), (8, .pa 1 0)] [(0, some (.var [.sl (.sl .u8) sd, .sl (.sl .u8) au, .sl .u8 en, .i ac, .i re, .i rs, .i ck, .b od, .sl (.sl (.sl .u8)) sb, .i su, .i mc, .sl idxT ix, .i l1, .i l2, .i l3, .i l4, .i l5, .i l6, .sl lvT ks, .b true, .b sp, .sl (.sl (.sl .u8)) rb, .i ru, .i vc, .b sf, .i dr, .sl sesT ss, .sl objT ob, .sl .i64 rl, .sl .i64 wl])), (1, some (Rs.var [AV.nil, AV.nil, AV.nil, AV.i 0, AV.i 0, AV.i 0, AV.i 0, AV.b false, AV.nil, AV.i 0, AV.i 0, AV.nil, AV.i 0, AV.i 0, AV.i 0, AV.i 0, AV.i 0, AV.i 0, AV.nil, AV.b false, AV.b false, AV.nil, AV.i 0, AV.i 0, AV.b false, AV.i 0, AV.nil, AV.nil, AV.nil, AV.nil]))]) := by
    rw [Y_go]; conv => lhs; whnf
    rw [iadd_eq (by omega)]
    rw [ilt_f (by (simp only [sha256_len, fr1_len, fr2_len, fr3_len, nameB_l32, wkey_32, uintB_l2, uintB_l1, blobB_l, bankJ_len, LL] at * <;> omega))]
    conv => lhs; whnf
  rw [Y_go]; conv => lhs; whnf
  dsimp -iota -beta -eta -zeta only
  rw [toReq_loop]
  rw [hl]
  conv => lhs; whnf
  dsimp -iota -beta -eta -zeta only
  rw [toReq_call]
  rw [ev_wake _ _ _ _ _ _ _ _ _ _ _ _ _ _ _ _ _ _ _ _ _ _ _ _ _ _ _ _ _ _ rfl]
  conv => lhs; whnf
theorem ev_state0 (n : Int) : Y E0 (.call 14 [.i n, .sl .u8 [], .sl .u8 []] []) = some (.ret (.agg [.sl (.sl .u8) (seedsE ent0), .sl (.sl .u8) [[], [], [], []], .sl .u8 (derB ent0 entrL [] 32), .i (n % 4), .i 1, .i 0, .i 0, .b false, .sl (.sl (.sl .u8)) [], .i 0, .i 0, .sl idxT [], .i 0, .i 5, .i 100, .i 0, .i 0, .i 1000, .sl lvT [], .b true, .b false, .sl (.sl (.sl .u8)) (newRB (n % 4)), .i 0, .i 0, .b true, .i 0, .sl sesT (List.replicate 3 ses0), .sl objT (List.replicate 3 obj0), .sl .i64 [], .sl .i64 []]) []) := by
  have e3 : ibit .and n 3 = n % 4 := iand_mask 2 (by decide) n
  rw [Y_go]; conv => lhs; whnf
  dsimp -iota -beta -eta -zeta only
  rw [toReq_call]
  rw [ev_seed _]
  conv => lhs; whnf
  dsimp -iota -beta -eta -zeta only
  rw [e3]
  rw [toReq_call]
  rw [ev_r17new _ _ (seedB_len _) (by omega)]
  conv => lhs; whnf
  dsimp -iota -beta -eta -zeta only
  rw [toReq_call]
  rw [ev_r17boot _ _ _ _ _ _ _ _ _ _ _ _ _ _ _ _ _ _ _]
  conv => lhs; whnf
  dsimp -iota -beta -eta -zeta only
  rw [toReq_call]
  rw [ev_r17start _ _ _ _ _ _ _ _ _ _ _ _ _ _ _ _ _ _ _ _ _ _ _ _ _ _ _ _ _ _ ⟨rfl, rfl⟩ (by omega) (by omega)]
  conv => lhs; whnf
  dsimp -iota -beta -eta -zeta only
  rw [toReq_call]
  rw [ev_play0 _ _ _ _ _ _ _ _ _ _ _ _ _ _ _ _ _ _ _ _ _ _ _ _ _ _ _ _ _ _ rfl _]
  conv => lhs; whnf
  dsimp -iota -beta -eta -zeta only
  rfl
end Go.Proofs.YtfjcmolccckhhaaGreatDoor
