/-
  Own texts, laid together for this claim: contracts of functions of the program and its references, used by the statements of this seat.
-/
import Derived.Test.YtfjcmolccckhhaaGreatDoorMsb
set_option linter.all false

namespace Go.Ax
open Go.Eng
end Go.Ax
namespace Go.Proofs.YtfjcmolccckhhaaGreatDoor
open Go Go.Ax Go.Eng
set_option linter.unusedVariables false
set_option linter.unusedSimpArgs false
attribute [local irreducible] iadd isub imul iquo irem ibit ineg ieq ine ilt ile ishl ishr beq' bnot and' seq' u8op u8rem u32op u64op u8shr u8shl u64shr u64shl u32shr u32shl i64w u8i u64i iu8 iu32 iu64 u8u64 u64u8 u32u8 u64cmp u8cmp u32cmp llen lget linb lset lcut lrep lapp lcpy lemp fits fitn ieqs sealed drawChk fpSame
attribute [local irreducible] derB seedB makeP nameB encP uniB frameB primS primR privB openS decP uintB putO sigK verK
set_option maxHeartbeats 4000000
set_option maxRecDepth 100000
theorem iadd_one (x : Int) (h0 : 0 ≤ x) (h1 : x ≤ 1000) : iadd x 1 = x + 1 := iadd_eq (by omega)
theorem ev_use1 (un : List UInt8) (us : Int) (p1 p2 p3 : Int) (p4 p5 s1 s2 s3 : List UInt8) (hr : Int) : Y E0 (.call 184 [.agg [.sl .u8 un, .i us], .pa 0 0] [.var [.i p1, .i p2, .i p3, .sl .u8 p4, .sl .u8 p5, .sl .u8 s1, .sl .u8 s2, .sl .u8 s3, .i hr]]) = some (.ret (.b (decide (un = p5))) [some (.var [.i p1, .i p2, .i p3, .sl .u8 p4, .sl .u8 p5, .sl .u8 s1, .sl .u8 s2, .sl .u8 s3, .i hr])]) := by
  rw [Y_go]; conv => lhs; whnf
  (rw [seq_eq])
theorem ev_idx_loop (ks : List (El lvT)) (p1 p2 p3 : Int) (p4 p5 s1 s2 s3 : List UInt8) (hr : Int) (hl : ks.length ≤ 1000) : ∀ (n j : Nat), j + n = ks.length → keyAt p5 ks = j + keyAt p5 (ks.drop j) → Y E0 (.loop 183 0 2 2 [(0, .nm 0), (1, .fn 184 [] [.pa 1 0]), (7, .i (llen ks)), (8, .i (j : Int))] [(0, some (.row 170 lvT ks)), (1, some (.var [.i p1, .i p2, .i p3, .sl .u8 p4, .sl .u8 p5, .sl .u8 s1, .sl .u8 s2, .sl .u8 s3, .i hr]))]) =
    if keyAt p5 ks < ks.length then some (.fin .ret 2 [(4, .i (keyAt p5 ks : Int))] [(0, some (.row 170 lvT ks)), (1, some (.var [.i p1, .i p2, .i p3, .sl .u8 p4, .sl .u8 p5, .sl .u8 s1, .sl .u8 s2, .sl .u8 s3, .i hr]))]) else some (.fin (.exit 0) 2 [] [(0, some (.row 170 lvT ks)), (1, some (.var [.i p1, .i p2, .i p3, .sl .u8 p4, .sl .u8 p5, .sl .u8 s1, .sl .u8 s2, .sl .u8 s3, .i hr]))])
  | 0, j, hj, hf => by
    rw [if_neg (by rw [List.drop_eq_nil_of_le (by omega), keyAt] at hf; omega)]
    rw [Y_go]; conv => lhs; whnf
    rw [ilt_f (by (simp only [sha256_len, fr1_len, fr2_len, fr3_len, nameB_l32, wkey_32, uintB_l2, uintB_l1, uintB_l8, blobB_l, bankJ_len, LL] at * <;> omega))]
    conv => lhs; whnf
  | n + 1, j, hj, hf => by
    have hd := List.drop_eq_getElem_cons (l := ks) (i := j) (by omega)
    rw [hd] at hf
    have hg : lget ks (j : Int) = some (ks[j]'(by omega)) := lget_n (by omega)
    generalize ks[j]'(by omega) = x at *
    obtain ⟨un, us⟩ := x
    by_cases hk : un = p5
    · subst hk
      rw [keyAt, if_pos rfl] at hf
      rw [if_pos (by omega), show keyAt un ks = j from hf]
      rw [Y_go]; conv => lhs; whnf
      rw [ilt_t (by (simp only [sha256_len, fr1_len, fr2_len, fr3_len, nameB_l32, wkey_32, uintB_l2, uintB_l1, uintB_l8, blobB_l, bankJ_len, LL] at * <;> omega))]
      conv => lhs; whnf
      rw [linb_t (by omega)]
      conv => lhs; whnf
      dsimp -iota -beta -eta -zeta only
      rw [hg]; conv => lhs; whnf
      dsimp -iota -beta -eta -zeta only
      rw [toReq_call]
      rw [ev_use1 _ _ _ _ _ _ _ _ _ _ _]
      conv => lhs; whnf
      rw [decide_eq_true rfl]; conv => lhs; whnf
    · have ih := ev_idx_loop ks p1 p2 p3 p4 p5 s1 s2 s3 hr hl n (j + 1) (by omega) (by rw [hf, keyAt, if_neg hk]; omega)
      rw [show ((j + 1 : Nat) : Int) = (j : Int) + 1 from by omega] at ih
      have hkd : decide (un = p5) = false := decide_eq_false hk
      rw [Y_go]; conv => lhs; whnf
      rw [ilt_t (by (simp only [sha256_len, fr1_len, fr2_len, fr3_len, nameB_l32, wkey_32, uintB_l2, uintB_l1, uintB_l8, blobB_l, bankJ_len, LL] at * <;> omega))]
      conv => lhs; whnf
      rw [linb_t (by omega)]
      conv => lhs; whnf
      dsimp -iota -beta -eta -zeta only
      rw [hg]; conv => lhs; whnf
      dsimp -iota -beta -eta -zeta only
      rw [toReq_call]
      rw [ev_use1 _ _ _ _ _ _ _ _ _ _ _]
      conv => lhs; whnf
      rw [hkd]; conv => lhs; whnf
      dsimp -iota -beta -eta -zeta only
      rw [iadd_eq (by omega)]
      exact ih
theorem ev_idx (ks : List (El lvT)) (p1 p2 p3 : Int) (p4 p5 s1 s2 s3 : List UInt8) (hr : Int) (hl : ks.length ≤ 1000) : Y E0 (.call 183 [.nm 0, .fn 184 [] [.pa 1 0]] [.row 170 lvT ks, .var [.i p1, .i p2, .i p3, .sl .u8 p4, .sl .u8 p5, .sl .u8 s1, .sl .u8 s2, .sl .u8 s3, .i hr]]) = some (.ret (.i (if keyAt p5 ks < ks.length then (keyAt p5 ks : Int) else -1)) [some (.row 170 lvT ks), some (.var [.i p1, .i p2, .i p3, .sl .u8 p4, .sl .u8 p5, .sl .u8 s1, .sl .u8 s2, .sl .u8 s3, .i hr])]) := by
  have hq := ev_idx_loop ks p1 p2 p3 p4 p5 s1 s2 s3 hr hl ks.length 0 (by omega) (by simp)
  rw [show ((0 : Nat) : Int) = 0 from rfl] at hq
  by_cases hc : keyAt p5 ks < ks.length
  · rw [if_pos hc] at hq ⊢
    rw [Y_go]; conv => lhs; whnf
    dsimp -iota -beta -eta -zeta only
    rw [toReq_loop]
    rw [show ∀ (x : Rs), Nat.add 0 [x].length + 1 = 2 from fun _ => rfl, hq]
    conv => lhs; whnf
  · rw [if_neg hc] at hq ⊢
    rw [Y_go]; conv => lhs; whnf
    dsimp -iota -beta -eta -zeta only
    rw [toReq_loop]
    rw [show ∀ (x : Rs), Nat.add 0 [x].length + 1 = 2 from fun _ => rfl, hq]
    conv => lhs; whnf
theorem ev_ouse (sd au : List (List UInt8)) (en : List UInt8) (ac re rs ck : Int) (od : Bool) (sb : List (List (List UInt8))) (su mc : Int) (ix : List (El idxT)) (l1 l2 l3 l4 l5 l6 : Int) (ks : List (El lvT)) (st sp : Bool) (rb : List (List (List UInt8))) (ru vc : Int) (sf : Bool) (dr : Int) (ss : List (El sesT)) (ob : List (El objT)) (rl wl : List Int) (p1 p2 p3 : Int) (p4 p5 s1 s2 s3 : List UInt8) (hr : Int) (hl : ks.length ≤ 100) (hh : 0 ≤ p3 ∧ p3 ≤ 3) (hu : ∀ x ∈ ks, 0 ≤ x.2 ∧ x.2 ≤ 1000) : Y E0 (.call 128 [.agg [.sl (.sl .u8) sd, .sl (.sl .u8) au, .sl .u8 en, .i ac, .i re, .i rs, .i ck, .b od, .sl (.sl (.sl .u8)) sb, .i su, .i mc, .sl idxT ix, .i l1, .i l2, .i l3, .i l4, .i l5, .i l6, .sl lvT ks, .b st, .b sp, .sl (.sl (.sl .u8)) rb, .i ru, .i vc, .b sf, .i dr, .sl sesT ss, .sl objT ob, .sl .i64 rl, .sl .i64 wl], .agg [.i p1, .i p2, .i p3, .sl .u8 p4, .sl .u8 p5, .sl .u8 s1, .sl .u8 s2, .sl .u8 s3, .i hr]] []) = some (.ret (.tup [.agg [.sl (.sl .u8) sd, .sl (.sl .u8) au, .sl .u8 en, .i ac, .i re, .i rs, .i ck, .b od, .sl (.sl (.sl .u8)) sb, .i su, .i mc, .sl idxT ix, .i l1, .i l2, .i l3, .i l4, .i l5, .i l6, .sl lvT ((useR ks p5 p3).1), .b st, .b sp, .sl (.sl (.sl .u8)) rb, .i ru, .i vc, .b sf, .i dr, .sl sesT ss, .sl objT ob, .sl .i64 rl, .sl .i64 wl], .i (useR ks p5 p3).2.1, .i (useR ks p5 p3).2.2]) []) := by
  unfold useR
  have hp : ishl 1 (iu64 (min (max p3 0) 3)).toNat = (2 : Int) ^ p3.toNat := by
    rw [show min (max p3 0) 3 = p3 from by omega]; exact ishl1 (by omega)
  have hpw : 1 ≤ (2 : Int) ^ p3.toNat := by
    have : 1 ≤ 2 ^ p3.toNat := Nat.one_le_two_pow
    exact_mod_cast this
  by_cases hc : keyAt p5 ks < ks.length
  · rw [if_pos hc]
    have hi := ev_idx ks p1 p2 p3 p4 p5 s1 s2 s3 hr (by omega)
    rw [if_pos hc] at hi
    have hg : lget ks (keyAt p5 ks : Int) = some (ks.getD (keyAt p5 ks) ([], 0)) := by rw [lget_n hc]; simp [List.getD, List.getElem?_eq_getElem hc]
    have hm := hu (ks.getD (keyAt p5 ks) ([], 0)) (by simp only [List.getD, List.getElem?_eq_getElem hc, Option.getD_some]; exact List.getElem_mem _)
    have hs : ∀ x, lset ks (keyAt p5 ks : Int) x = ks.set (keyAt p5 ks) x := fun x => by rw [lset_eq]; simp
    generalize ks.getD (keyAt p5 ks) ([], 0) = x at *
    obtain ⟨un, us⟩ := x
    generalize keyAt p5 ks = K at *
    dsimp only at hm ⊢
    generalize (2 : Int) ^ p3.toNat = W at *
    by_cases hw : W ≤ us
    · rw [if_pos hw]
      rw [Y_go]; conv => lhs; whnf
      dsimp -iota -beta -eta -zeta only
      rw [toReq_call]
      rw [ev_cll _ (by omega)]
      conv => lhs; whnf
      dsimp -iota -beta -eta -zeta only
      rw [toReq_call]
      rw [hi]
      conv => lhs; whnf
      rw [ilt_f (by omega)]
      conv => lhs; whnf
      rw [Y_go]; conv => lhs; whnf
      rw [linb_t (by omega)]
      conv => lhs; whnf
      dsimp -iota -beta -eta -zeta only
      rw [hg]; conv => lhs; whnf
      dsimp -iota -beta -eta -zeta only
      rw [hp]
      rw [ile_t (by omega)]
      conv => lhs; whnf
    · rw [if_neg hw]
      have hs1 := iadd_one us hm.1 hm.2
      rw [Y_go]; conv => lhs; whnf
      dsimp -iota -beta -eta -zeta only
      rw [toReq_call]
      rw [ev_cll _ (by omega)]
      conv => lhs; whnf
      dsimp -iota -beta -eta -zeta only
      rw [toReq_call]
      rw [hi]
      conv => lhs; whnf
      rw [ilt_f (by omega)]
      conv => lhs; whnf
      rw [Y_go]; conv => lhs; whnf
      rw [linb_t (by omega)]
      conv => lhs; whnf
      dsimp -iota -beta -eta -zeta only
      rw [hg]; conv => lhs; whnf
      dsimp -iota -beta -eta -zeta only
      rw [hp]
      rw [ile_f (by omega)]
      conv => lhs; whnf
      rw [linb_t (by omega)]
      conv => lhs; whnf
      dsimp -iota -beta -eta -zeta only
      rw [hg]; conv => lhs; whnf
      dsimp -iota -beta -eta -zeta only
      rw [linb_t (by omega)]
      conv => lhs; whnf
      rw [hg]; conv => lhs; whnf
      dsimp -iota -beta -eta -zeta only
      rw [hs]
      (rw [hs1])
  · rw [if_neg hc]
    have hi := ev_idx ks p1 p2 p3 p4 p5 s1 s2 s3 hr (by omega)
    rw [if_neg hc] at hi
    by_cases h8 : 8 ≤ ks.length
    · rw [if_pos h8]
      rw [Y_go]; conv => lhs; whnf
      dsimp -iota -beta -eta -zeta only
      rw [toReq_call]
      rw [ev_cll _ (by omega)]
      conv => lhs; whnf
      dsimp -iota -beta -eta -zeta only
      rw [toReq_call]
      rw [hi]
      conv => lhs; whnf
      rw [ilt_t (by omega)]
      conv => lhs; whnf
      rw [ile_t (by (simp only [sha256_len, fr1_len, fr2_len, fr3_len, nameB_l32, wkey_32, uintB_l2, uintB_l1, uintB_l8, blobB_l, bankJ_len, LL] at * <;> omega))]
      conv => lhs; whnf
    · rw [if_neg h8]
      have hg : lget (lapp ks [(p5, 0)]) (llen ks) = some (p5, 0) := by rw [lapp_eq, llen_eq, lget_n (by simp)]; simp
      have hs : lset (lapp ks [(p5, 0)]) (llen ks) (p5, 0 + 1) = ks ++ [(p5, 1)] := by rw [lset_eq, lapp_eq, llen_eq]; simp
      generalize (2 : Int) ^ p3.toNat = W at *
      rw [Y_go]; conv => lhs; whnf
      dsimp -iota -beta -eta -zeta only
      rw [toReq_call]
      rw [ev_cll _ (by omega)]
      conv => lhs; whnf
      dsimp -iota -beta -eta -zeta only
      rw [toReq_call]
      rw [hi]
      conv => lhs; whnf
      rw [ilt_t (by omega)]
      conv => lhs; whnf
      rw [ile_f (by (simp only [sha256_len, fr1_len, fr2_len, fr3_len, nameB_l32, wkey_32, uintB_l2, uintB_l1, uintB_l8, blobB_l, bankJ_len, LL] at * <;> omega))]
      conv => lhs; whnf
      rw [fits_t (by (simp only [sha256_len, fr1_len, fr2_len, fr3_len, nameB_l32, wkey_32, uintB_l2, uintB_l1, uintB_l8, blobB_l, bankJ_len, LL] at * <;> omega))]
      conv => lhs; whnf
      rw [Y_go]; conv => lhs; whnf
      rw [linb_t (by (simp only [sha256_len, fr1_len, fr2_len, fr3_len, nameB_l32, wkey_32, uintB_l2, uintB_l1, uintB_l8, blobB_l, bankJ_len, LL] at * <;> omega))]
      conv => lhs; whnf
      dsimp -iota -beta -eta -zeta only
      rw [hg]; conv => lhs; whnf
      dsimp -iota -beta -eta -zeta only
      rw [hp]
      rw [ile_f (by omega)]
      conv => lhs; whnf
      rw [linb_t (by (simp only [sha256_len, fr1_len, fr2_len, fr3_len, nameB_l32, wkey_32, uintB_l2, uintB_l1, uintB_l8, blobB_l, bankJ_len, LL] at * <;> omega))]
      conv => lhs; whnf
      dsimp -iota -beta -eta -zeta only
      rw [hg]; conv => lhs; whnf
      dsimp -iota -beta -eta -zeta only
      rw [linb_t (by (simp only [sha256_len, fr1_len, fr2_len, fr3_len, nameB_l32, wkey_32, uintB_l2, uintB_l1, uintB_l8, blobB_l, bankJ_len, LL] at * <;> omega))]
      conv => lhs; whnf
      rw [hg]; conv => lhs; whnf
      dsimp -iota -beta -eta -zeta only
      rw [iadd_eq (by omega)]
      rw [hs]
theorem ev_osig_t (sd au : List (List UInt8)) (en : List UInt8) (ac re rs ck : Int) (od : Bool) (sb : List (List (List UInt8))) (su mc : Int) (ix : List (El idxT)) (l1 l2 l3 l4 l5 l6 : Int) (ks : List (El lvT)) (st sp : Bool) (rb : List (List (List UInt8))) (ru vc : Int) (sf : Bool) (dr : Int) (ss : List (El sesT)) (ob : List (El objT)) (rl wl : List Int) (p1 p2 p3 : Int) (p4 p5 s1 s2 s3 : List UInt8) (hr : Int) (m : List UInt8) (hkl : ks.length ≤ 100) (hh : 0 ≤ p3 ∧ p3 ≤ 3) (hu : ∀ x ∈ ks, 0 ≤ x.2 ∧ x.2 ≤ 1000) (h2 : s2.length ≤ 1000) (hm : m.length ≤ 100000) (he : (useR ks p5 p3).2.2 = 0) : Y E0 (.call 60 [.agg [.sl (.sl .u8) sd, .sl (.sl .u8) au, .sl .u8 en, .i ac, .i re, .i rs, .i ck, .b od, .sl (.sl (.sl .u8)) sb, .i su, .i mc, .sl idxT ix, .i l1, .i l2, .i l3, .i l4, .i l5, .i l6, .sl lvT ks, .b st, .b sp, .sl (.sl (.sl .u8)) rb, .i ru, .i vc, .b sf, .i dr, .sl sesT ss, .sl objT ob, .sl .i64 rl, .sl .i64 wl], .agg [.i p1, .i p2, .i p3, .sl .u8 p4, .sl .u8 p5, .sl .u8 s1, .sl .u8 s2, .sl .u8 s3, .i hr], .sl .u8 m] []) = some (.ret (.tup [.agg [.sl (.sl .u8) sd, .sl (.sl .u8) au, .sl .u8 en, .i ac, .i re, .i rs, .i ck, .b od, .sl (.sl (.sl .u8)) sb, .i su, .i mc, .sl idxT ix, .i l1, .i l2, .i l3, .i l4, .i l5, .i l6, .sl lvT ((useR ks p5 p3).1), .b st, .b sp, .sl (.sl (.sl .u8)) rb, .i ru, .i vc, .b sf, .i dr, .sl sesT ss, .sl objT ob, .sl .i64 rl, .sl .i64 wl], .sl .u8 (sigK s2 p3 (useR ks p5 p3).2.1 m), .i 0]) []) := by
  have e := ev_ouse sd au en ac re rs ck od sb su mc ix l1 l2 l3 l4 l5 l6 ks st sp rb ru vc sf dr ss ob rl wl p1 p2 p3 p4 p5 s1 s2 s3 hr hkl hh hu
  generalize useR ks p5 p3 = U at *
  obtain ⟨u1, u2, u3⟩ := U
  dsimp only at *
  subst he
  rw [Y_go]; conv => lhs; whnf
  dsimp -iota -beta -eta -zeta only
  rw [toReq_call]
  rw [e]
  conv => lhs; whnf
  rw [ine_f (by omega)]
  conv => lhs; whnf
  dsimp -iota -beta -eta -zeta only
  rw [toReq_call]
  rw [ev_ssign _ _ _ _ (by omega) (by omega)]
  conv => lhs; whnf
  dsimp -iota -beta -eta -zeta only
  rw [drw (by kernel_rfl)]; conv => lhs; whnf
theorem ev_osig_f (sd au : List (List UInt8)) (en : List UInt8) (ac re rs ck : Int) (od : Bool) (sb : List (List (List UInt8))) (su mc : Int) (ix : List (El idxT)) (l1 l2 l3 l4 l5 l6 : Int) (ks : List (El lvT)) (st sp : Bool) (rb : List (List (List UInt8))) (ru vc : Int) (sf : Bool) (dr : Int) (ss : List (El sesT)) (ob : List (El objT)) (rl wl : List Int) (p1 p2 p3 : Int) (p4 p5 s1 s2 s3 : List UInt8) (hr : Int) (m : List UInt8) (hkl : ks.length ≤ 100) (hh : 0 ≤ p3 ∧ p3 ≤ 3) (hu : ∀ x ∈ ks, 0 ≤ x.2 ∧ x.2 ≤ 1000) (he : (useR ks p5 p3).2.2 ≠ 0) : Y E0 (.call 60 [.agg [.sl (.sl .u8) sd, .sl (.sl .u8) au, .sl .u8 en, .i ac, .i re, .i rs, .i ck, .b od, .sl (.sl (.sl .u8)) sb, .i su, .i mc, .sl idxT ix, .i l1, .i l2, .i l3, .i l4, .i l5, .i l6, .sl lvT ks, .b st, .b sp, .sl (.sl (.sl .u8)) rb, .i ru, .i vc, .b sf, .i dr, .sl sesT ss, .sl objT ob, .sl .i64 rl, .sl .i64 wl], .agg [.i p1, .i p2, .i p3, .sl .u8 p4, .sl .u8 p5, .sl .u8 s1, .sl .u8 s2, .sl .u8 s3, .i hr], .sl .u8 m] []) = some (.ret (.tup [.agg [.sl (.sl .u8) sd, .sl (.sl .u8) au, .sl .u8 en, .i ac, .i re, .i rs, .i ck, .b od, .sl (.sl (.sl .u8)) sb, .i su, .i mc, .sl idxT ix, .i l1, .i l2, .i l3, .i l4, .i l5, .i l6, .sl lvT ks, .b st, .b sp, .sl (.sl (.sl .u8)) rb, .i ru, .i vc, .b sf, .i dr, .sl sesT ss, .sl objT ob, .sl .i64 rl, .sl .i64 wl], .sl .u8 [], .i (useR ks p5 p3).2.2]) []) := by
  have e := ev_ouse sd au en ac re rs ck od sb su mc ix l1 l2 l3 l4 l5 l6 ks st sp rb ru vc sf dr ss ob rl wl p1 p2 p3 p4 p5 s1 s2 s3 hr hkl hh hu
  generalize useR ks p5 p3 = U at *
  obtain ⟨u1, u2, u3⟩ := U
  dsimp only at *
  rw [Y_go]; conv => lhs; whnf
  dsimp -iota -beta -eta -zeta only
  rw [toReq_call]
  rw [e]
  conv => lhs; whnf
  rw [ine_t (by omega)]
  conv => lhs; whnf
theorem ev_signing_ok (sd au : List (List UInt8)) (en : List UInt8) (ac re rs ck : Int) (od : Bool) (sb : List (List (List UInt8))) (su mc : Int) (ix : List (El idxT)) (l1 l2 l3 l4 l5 l6 : Int) (ks : List (El lvT)) (st sp : Bool) (rb : List (List (List UInt8))) (ru vc : Int) (sf : Bool) (dr : Int) (ss : List (El sesT)) (ob : List (El objT)) (rl wl : List Int) (c h : Int) (hs : List Int) (az : List (El authT)) (is : List Int) (m : List UInt8) (bs : List (List UInt8)) (p1 p2 p3 : Int) (p4 p5 s1 s2 s3 : List UInt8) (hr : Int) (r : Bool) (hl : ob.length ≤ 1000) (hhs : hs.length ≤ 100) (hbs : bs.length ≤ 100) (hx : slotAt ob h = some ((p1, p2, p3, p4, p5), (s1, s2, s3), hr)) (h1 : p1 = 2) (ha : r = !decide (ibit .and p2 4 = 0)) (hm : m.length ≤ 128) :
    Y E0 (.call 59 [.agg [.sl (.sl .u8) sd, .sl (.sl .u8) au, .sl .u8 en, .i ac, .i re, .i rs, .i ck, .b od, .sl (.sl (.sl .u8)) sb, .i su, .i mc, .sl idxT ix, .i l1, .i l2, .i l3, .i l4, .i l5, .i l6, .sl lvT ks, .b st, .b sp, .sl (.sl (.sl .u8)) rb, .i ru, .i vc, .b sf, .i dr, .sl sesT ss, .sl objT ob, .sl .i64 rl, .sl .i64 wl], .agg [.i c, .sl .i64 (h :: hs), .sl authT az, .sl .i64 is, .sl (.sl .u8) (m :: bs)], .b r] []) = some (.ret (.tup [.agg [.i p1, .i p2, .i p3, .sl .u8 p4, .sl .u8 p5, .sl .u8 s1, .sl .u8 s2, .sl .u8 s3, .i hr], .i 0]) []) := by
  subst ha
  by_cases hq : ibit .and p2 4 = 0
  · rw [hq, decide_eq_true rfl]
    rw [Y_go]; conv => lhs; whnf
    dsimp -iota -beta -eta -zeta only
    rw [toReq_call]
    rw [ev_ofirst _ _ _ _ _ _ (by omega)]
    conv => lhs; whnf
    dsimp -iota -beta -eta -zeta only
    rw [toReq_call]
    rw [ev_eobj_t _ _ _ _ _ _ _ _ _ _ _ _ _ _ _ _ _ _ _ _ _ _ _ _ _ _ _ _ _ _ _ _ _ _ _ _ _ _ _ _ hl hx]
    conv => lhs; whnf
    dsimp -iota -beta -eta -zeta only
    rw [drw (by kernel_rfl)]; conv => lhs; whnf
    rw [ine_f (by omega)]
    conv => lhs; whnf
    rw [ine_f (by omega)]
    conv => lhs; whnf
    rw [hq]
    rw [show beq' (ine 0 0) (!true) = true from by rw [ine_f (by rfl), beq_d]; rfl]; conv => lhs; whnf
    rw [bnot_eq]; conv => lhs; whnf
    dsimp -iota -beta -eta -zeta only
    rw [toReq_call]
    rw [ev_oblob0 _ _ _ _ _ _ (by omega)]
    conv => lhs; whnf
    rw [ilt_f (by (simp only [sha256_len, fr1_len, fr2_len, fr3_len, nameB_l32, wkey_32, uintB_l2, uintB_l1, uintB_l8, blobB_l, bankJ_len, LL] at * <;> omega))]
    conv => lhs; whnf
  · rw [decide_eq_false hq]
    rw [Y_go]; conv => lhs; whnf
    dsimp -iota -beta -eta -zeta only
    rw [toReq_call]
    rw [ev_ofirst _ _ _ _ _ _ (by omega)]
    conv => lhs; whnf
    dsimp -iota -beta -eta -zeta only
    rw [toReq_call]
    rw [ev_eobj_t _ _ _ _ _ _ _ _ _ _ _ _ _ _ _ _ _ _ _ _ _ _ _ _ _ _ _ _ _ _ _ _ _ _ _ _ _ _ _ _ hl hx]
    conv => lhs; whnf
    dsimp -iota -beta -eta -zeta only
    rw [drw (by kernel_rfl)]; conv => lhs; whnf
    rw [ine_f (by omega)]
    conv => lhs; whnf
    rw [ine_f (by omega)]
    conv => lhs; whnf
    rw [show beq' (ine (ibit .and p2 4) 0) (!false) = true from by rw [ine_t hq, beq_d]; rfl]; conv => lhs; whnf
    rw [bnot_eq]; conv => lhs; whnf
    dsimp -iota -beta -eta -zeta only
    rw [toReq_call]
    rw [ev_oblob0 _ _ _ _ _ _ (by omega)]
    conv => lhs; whnf
    rw [ilt_f (by (simp only [sha256_len, fr1_len, fr2_len, fr3_len, nameB_l32, wkey_32, uintB_l2, uintB_l1, uintB_l8, blobB_l, bankJ_len, LL] at * <;> omega))]
    conv => lhs; whnf
theorem ev_osign_ok (sd au : List (List UInt8)) (en : List UInt8) (ac re rs ck : Int) (od : Bool) (sb : List (List (List UInt8))) (su mc : Int) (ix : List (El idxT)) (l1 l2 l3 l4 l5 l6 : Int) (ks : List (El lvT)) (st sp : Bool) (rb : List (List (List UInt8))) (ru vc : Int) (sf : Bool) (dr : Int) (ss : List (El sesT)) (ob : List (El objT)) (rl wl : List Int) (c h : Int) (hs : List Int) (az : List (El authT)) (is : List Int) (m : List UInt8) (bs : List (List UInt8)) (p1 p2 p3 : Int) (p4 p5 s1 s2 s3 : List UInt8) (hr : Int) (hl : ob.length ≤ 1000) (hhs : hs.length ≤ 100) (hbs : bs.length ≤ 100) (hx : slotAt ob h = some ((p1, p2, p3, p4, p5), (s1, s2, s3), hr)) (h1 : p1 = 2) (ha : ibit .and p2 4 = 0) (hm : m.length ≤ 128) (hkl : ks.length ≤ 100) (hh : 0 ≤ p3 ∧ p3 ≤ 3) (hu : ∀ x ∈ ks, 0 ≤ x.2 ∧ x.2 ≤ 1000) (h2 : s2.length ≤ 1000) (he : (useR ks p5 p3).2.2 = 0) :
    Y E0 (.call 19 [.agg [.sl (.sl .u8) sd, .sl (.sl .u8) au, .sl .u8 en, .i ac, .i re, .i rs, .i ck, .b od, .sl (.sl (.sl .u8)) sb, .i su, .i mc, .sl idxT ix, .i l1, .i l2, .i l3, .i l4, .i l5, .i l6, .sl lvT ks, .b st, .b sp, .sl (.sl (.sl .u8)) rb, .i ru, .i vc, .b sf, .i dr, .sl sesT ss, .sl objT ob, .sl .i64 rl, .sl .i64 wl], .agg [.i c, .sl .i64 (h :: hs), .sl authT az, .sl .i64 is, .sl (.sl .u8) (m :: bs)]] []) = some (.ret (.tup [.agg [.sl (.sl .u8) sd, .sl (.sl .u8) au, .sl .u8 en, .i ac, .i re, .i rs, .i ck, .b od, .sl (.sl (.sl .u8)) sb, .i su, .i mc, .sl idxT ix, .i l1, .i l2, .i l3, .i l4, .i l5, .i l6, .sl lvT ((useR ks p5 p3).1), .b st, .b sp, .sl (.sl (.sl .u8)) rb, .i ru, .i vc, .b sf, .i dr, .sl sesT ss, .sl objT ob, .sl .i64 rl, .sl .i64 wl], .agg [.i 0, .sl .i64 [], .sl (.sl .u8) [sigK s2 p3 (useR ks p5 p3).2.1 m], .sl (.sl .u8) []]]) []) := by
  have e1 := ev_signing_ok sd au en ac re rs ck od sb su mc ix l1 l2 l3 l4 l5 l6 ks st sp rb ru vc sf dr ss ob rl wl c h hs az is m bs p1 p2 p3 p4 p5 s1 s2 s3 hr false hl hhs hbs hx h1 (by rw [ha]; rfl) hm
  have e2 := ev_osig_t sd au en ac re rs ck od sb su mc ix l1 l2 l3 l4 l5 l6 ks st sp rb ru vc sf dr ss ob rl wl p1 p2 p3 p4 p5 s1 s2 s3 hr m hkl hh hu h2 (by omega) he
  rw [Y_go]; conv => lhs; whnf
  dsimp -iota -beta -eta -zeta only
  rw [toReq_call]
  rw [e1]
  conv => lhs; whnf
  rw [ine_f (by omega)]
  conv => lhs; whnf
  dsimp -iota -beta -eta -zeta only
  rw [toReq_call]
  rw [ev_oblob0 _ _ _ _ _ _ (by omega)]
  conv => lhs; whnf
  dsimp -iota -beta -eta -zeta only
  rw [toReq_call]
  rw [e2]
  conv => lhs; whnf
  dsimp -iota -beta -eta -zeta only
  rw [drw (by kernel_rfl)]; conv => lhs; whnf
  rw [ine_f (by omega)]
  conv => lhs; whnf
theorem ev_osign_e (sd au : List (List UInt8)) (en : List UInt8) (ac re rs ck : Int) (od : Bool) (sb : List (List (List UInt8))) (su mc : Int) (ix : List (El idxT)) (l1 l2 l3 l4 l5 l6 : Int) (ks : List (El lvT)) (st sp : Bool) (rb : List (List (List UInt8))) (ru vc : Int) (sf : Bool) (dr : Int) (ss : List (El sesT)) (ob : List (El objT)) (rl wl : List Int) (c h : Int) (hs : List Int) (az : List (El authT)) (is : List Int) (m : List UInt8) (bs : List (List UInt8)) (p1 p2 p3 : Int) (p4 p5 s1 s2 s3 : List UInt8) (hr : Int) (hl : ob.length ≤ 1000) (hhs : hs.length ≤ 100) (hbs : bs.length ≤ 100) (hx : slotAt ob h = some ((p1, p2, p3, p4, p5), (s1, s2, s3), hr)) (h1 : p1 = 2) (ha : ibit .and p2 4 = 0) (hm : m.length ≤ 128) (hkl : ks.length ≤ 100) (hh : 0 ≤ p3 ∧ p3 ≤ 3) (hu : ∀ x ∈ ks, 0 ≤ x.2 ∧ x.2 ≤ 1000) (he : (useR ks p5 p3).2.2 ≠ 0) :
    Y E0 (.call 19 [.agg [.sl (.sl .u8) sd, .sl (.sl .u8) au, .sl .u8 en, .i ac, .i re, .i rs, .i ck, .b od, .sl (.sl (.sl .u8)) sb, .i su, .i mc, .sl idxT ix, .i l1, .i l2, .i l3, .i l4, .i l5, .i l6, .sl lvT ks, .b st, .b sp, .sl (.sl (.sl .u8)) rb, .i ru, .i vc, .b sf, .i dr, .sl sesT ss, .sl objT ob, .sl .i64 rl, .sl .i64 wl], .agg [.i c, .sl .i64 (h :: hs), .sl authT az, .sl .i64 is, .sl (.sl .u8) (m :: bs)]] []) = some (.ret (.tup [.agg [.sl (.sl .u8) sd, .sl (.sl .u8) au, .sl .u8 en, .i ac, .i re, .i rs, .i ck, .b od, .sl (.sl (.sl .u8)) sb, .i su, .i mc, .sl idxT ix, .i l1, .i l2, .i l3, .i l4, .i l5, .i l6, .sl lvT ks, .b st, .b sp, .sl (.sl (.sl .u8)) rb, .i ru, .i vc, .b sf, .i dr, .sl sesT ss, .sl objT ob, .sl .i64 rl, .sl .i64 wl], .agg [.i (useR ks p5 p3).2.2, .sl .i64 [], .sl (.sl .u8) [], .sl (.sl .u8) []]]) []) := by
  have e1 := ev_signing_ok sd au en ac re rs ck od sb su mc ix l1 l2 l3 l4 l5 l6 ks st sp rb ru vc sf dr ss ob rl wl c h hs az is m bs p1 p2 p3 p4 p5 s1 s2 s3 hr false hl hhs hbs hx h1 (by rw [ha]; rfl) hm
  have e2 := ev_osig_f sd au en ac re rs ck od sb su mc ix l1 l2 l3 l4 l5 l6 ks st sp rb ru vc sf dr ss ob rl wl p1 p2 p3 p4 p5 s1 s2 s3 hr m hkl hh hu he
  rw [Y_go]; conv => lhs; whnf
  dsimp -iota -beta -eta -zeta only
  rw [toReq_call]
  rw [e1]
  conv => lhs; whnf
  rw [ine_f (by omega)]
  conv => lhs; whnf
  dsimp -iota -beta -eta -zeta only
  rw [toReq_call]
  rw [ev_oblob0 _ _ _ _ _ _ (by omega)]
  conv => lhs; whnf
  dsimp -iota -beta -eta -zeta only
  rw [toReq_call]
  rw [e2]
  conv => lhs; whnf
  dsimp -iota -beta -eta -zeta only
  rw [drw (by kernel_rfl)]; conv => lhs; whnf
  rw [ine_t (by omega)]
  conv => lhs; whnf
  dsimp -iota -beta -eta -zeta only
  rw [toReq_call]
  rw [ev_ofail _ _ _ _ _ _ _ _ _ _ _ _ _ _ _ _ _ _ _ _ _ _ _ _ _ _ _ _ _ _ _]
  conv => lhs; whnf
end Go.Proofs.YtfjcmolccckhhaaGreatDoor

namespace Go.Proofs.YtfjcmolccckhhaaGreatDoor
open Go Go.Ax Go.Eng
set_option linter.unusedVariables false
set_option linter.unusedSimpArgs false
attribute [local irreducible] iadd isub imul iquo irem ibit ineg ieq ine ilt ile ishl ishr beq' bnot and' seq' u8op u8rem u32op u64op u8shr u8shl u64shr u64shl u32shr u32shl i64w u8i u64i iu8 iu32 iu64 u8u64 u64u8 u32u8 u64cmp u8cmp u32cmp llen lget linb lset lcut lrep lapp lcpy lemp fits fitn ieqs sealed drawChk fpSame
set_option maxHeartbeats 4000000
set_option maxRecDepth 100000
theorem beq_self (b : Bool) : beq' b b = true := by rw [beq_d]; simp [beq0]
theorem ev_r18ints_loop (l : List Int) (hl : l.length ≤ 100000) : ∀ (n j : Nat), j + n = l.length → Y E0 (.loop 63 0 0 0 [(0, .sl .i64 l), (1, .sl .i64 l), (5, .i (j : Int))] []) = some (.fin (.exit 0) 0 [] [])
  | 0, j, hj => by
    rw [Y_go]; conv => lhs; whnf
    rw [ilt_f (by (simp only [sha256_len, fr1_len, fr2_len, fr3_len, nameB_l32, wkey_32, uintB_l2, uintB_l1, uintB_l8, blobB_l, bankJ_len, LL] at * <;> omega))]
    conv => lhs; whnf
  | n + 1, j, hj => by
    have ih := ev_r18ints_loop l hl n (j + 1) (by omega)
    rw [show ((j + 1 : Nat) : Int) = (j : Int) + 1 from by omega] at ih
    rw [Y_go]; conv => lhs; whnf
    rw [ilt_t (by (simp only [sha256_len, fr1_len, fr2_len, fr3_len, nameB_l32, wkey_32, uintB_l2, uintB_l1, uintB_l8, blobB_l, bankJ_len, LL] at * <;> omega))]
    conv => lhs; whnf
    rw [lget_n (by omega)]
    conv => lhs; whnf
    rw [lget_n (by omega)]
    conv => lhs; whnf
    dsimp -iota -beta -eta -zeta only
    rw [drw (by kernel_rfl)]; conv => lhs; whnf
    rw [ine_f (by omega)]
    conv => lhs; whnf
    dsimp -iota -beta -eta -zeta only
    rw [iadd_eq (by omega)]
    exact ih
theorem ev_r18ints (l : List Int) (hl : l.length ≤ 100000) : Y E0 (.call 63 [.sl .i64 l, .sl .i64 l] []) = some (.ret (.b true) []) := by
  have hq := ev_r18ints_loop l hl l.length 0 (by omega)
  rw [show ((0 : Nat) : Int) = 0 from rfl] at hq
  rw [Y_go]; conv => lhs; whnf
  rw [ine_f (by omega)]
  conv => lhs; whnf
  dsimp -iota -beta -eta -zeta only
  rw [toReq_loop]
  rw [hq]
  conv => lhs; whnf
theorem ev_r8active (rb : List (List (List UInt8))) (u k : Int) (hl : rb.length ≤ 100) (hk : 0 ≤ k ∧ k ≤ 1) : Y E0 (.call 131 [.agg [.sl (.sl (.sl .u8)) rb, .i u], .i k] []) = some (.ret (.b (decide (k < rb.length ∧ 0 < (rb.getD k.toNat []).length))) []) := by
  by_cases hc : k < rb.length
  · have hg : lget rb k = some (rb.getD k.toNat []) := by rw [lget_i (by omega)]; simp [List.getD, List.getElem?_eq_getElem (show k.toNat < rb.length by omega)]
    generalize rb.getD k.toNat [] = x at *
    rw [Y_go]; conv => lhs; whnf
    rw [ilt_t (by (simp only [sha256_len, fr1_len, fr2_len, fr3_len, nameB_l32, wkey_32, uintB_l2, uintB_l1, uintB_l8, blobB_l, bankJ_len, LL] at * <;> omega))]
    conv => lhs; whnf
    rw [hg]; conv => lhs; whnf
    (congr 3; simp only [ilt_eq, llen_eq]; rw [decide_eq_decide]; omega)
  · rw [decide_eq_false (by omega)]
    rw [Y_go]; conv => lhs; whnf
    rw [ilt_f (by (simp only [sha256_len, fr1_len, fr2_len, fr3_len, nameB_l32, wkey_32, uintB_l2, uintB_l1, uintB_l8, blobB_l, bankJ_len, LL] at * <;> omega))]
    conv => lhs; whnf
theorem ev_r8same_loop (rb : List (List (List UInt8))) (u : Int) (hl : rb.length ≤ 2) (hb : ∀ b ∈ rb, b.length ≤ 4294967296) (hc : ∀ b ∈ rb, ∀ l ∈ b, l.length ≤ 4294967296) : ∀ (n j : Nat), j + n = 2 → Y E0 (.loop 62 0 0 2 [(2, .pa 0 0), (3, .pa 1 0), (5, .i (j : Int))] [(0, some (.var [.sl (.sl (.sl .u8)) rb, .i u])), (1, some (.var [.sl (.sl (.sl .u8)) rb, .i u]))]) = some (.fin (.exit 0) 2 [(2, .pa 0 0), (3, .pa 1 0)] [(0, some (.var [.sl (.sl (.sl .u8)) rb, .i u])), (1, some (.var [.sl (.sl (.sl .u8)) rb, .i u]))])
  | 0, j, hj => by
    obtain rfl : j = 2 := by omega
    rw [Y_go]; conv => lhs; whnf
    rw [ilt_f (by omega)]
    conv => lhs; whnf
  | n + 1, j, hj => by
    have ih := ev_r8same_loop rb u hl hb hc n (j + 1) (by omega)
    rw [show ((j + 1 : Nat) : Int) = (j : Int) + 1 from by omega] at ih
    have ea := ev_r8active rb u (j : Int) (by omega) (by omega)
    rw [Int.toNat_natCast] at ea
    by_cases hk : (j : Int) < rb.length ∧ 0 < (rb.getD j []).length
    · rw [decide_eq_true hk] at ea
      have hg : lget rb (j : Int) = some (rb.getD j []) := by rw [lget_n (by omega)]; simp [List.getD, List.getElem?_eq_getElem (show j < rb.length by omega)]
      have hm : rb.getD j [] ∈ rb := by simp only [List.getD, List.getElem?_eq_getElem (show j < rb.length by omega), Option.getD_some]; exact List.getElem_mem _
      have e1 := hb _ hm
      have e2 := hc _ hm
      generalize rb.getD j [] = x at *
      have el := ev_lists x x e1 e2
      rw [decide_eq_true rfl] at el
      rw [Y_go]; conv => lhs; whnf
      rw [ilt_t (by omega)]
      conv => lhs; whnf
      dsimp -iota -beta -eta -zeta only
      rw [toReq_call]
      rw [ea]
      conv => lhs; whnf
      dsimp -iota -beta -eta -zeta only
      rw [toReq_call]
      rw [ea]
      conv => lhs; whnf
      rw [beq_self]; conv => lhs; whnf
      rw [bnot_eq]; conv => lhs; whnf
      dsimp -iota -beta -eta -zeta only
      rw [toReq_call]
      rw [ea]
      conv => lhs; whnf
      rw [hg]; conv => lhs; whnf
      rw [hg]; conv => lhs; whnf
      dsimp -iota -beta -eta -zeta only
      rw [toReq_call]
      rw [el]
      conv => lhs; whnf
      rw [Y_go]; conv => lhs; whnf
      dsimp -iota -beta -eta -zeta only
      rw [drw (by kernel_rfl)]; conv => lhs; whnf
      rw [bnot_eq]; conv => lhs; whnf
      dsimp -iota -beta -eta -zeta only
      rw [iadd_eq (by omega)]
      exact ih
    · rw [decide_eq_false hk] at ea
      rw [Y_go]; conv => lhs; whnf
      rw [ilt_t (by omega)]
      conv => lhs; whnf
      dsimp -iota -beta -eta -zeta only
      rw [toReq_call]
      rw [ea]
      conv => lhs; whnf
      dsimp -iota -beta -eta -zeta only
      rw [toReq_call]
      rw [ea]
      conv => lhs; whnf
      rw [beq_self]; conv => lhs; whnf
      rw [bnot_eq]; conv => lhs; whnf
      dsimp -iota -beta -eta -zeta only
      rw [toReq_call]
      rw [ea]
      conv => lhs; whnf
      dsimp -iota -beta -eta -zeta only
      rw [drw (by kernel_rfl)]; conv => lhs; whnf
      dsimp -iota -beta -eta -zeta only
      rw [iadd_eq (by omega)]
      exact ih
theorem ev_r8same (rb : List (List (List UInt8))) (u : Int) (hl : rb.length ≤ 2) (hb : ∀ b ∈ rb, b.length ≤ 4294967296) (hc : ∀ b ∈ rb, ∀ l ∈ b, l.length ≤ 4294967296) : Y E0 (.call 62 [.agg [.sl (.sl (.sl .u8)) rb, .i u], .agg [.sl (.sl (.sl .u8)) rb, .i u]] []) = some (.ret (.b true) []) := by
  have hq := ev_r8same_loop rb u hl hb hc 2 0 (by omega)
  rw [show ((0 : Nat) : Int) = 0 from rfl] at hq
  rw [Y_go]; conv => lhs; whnf
  rw [ine_f (by omega)]
  conv => lhs; whnf
  dsimp -iota -beta -eta -zeta only
  rw [toReq_loop]
  rw [hq]
  conv => lhs; whnf
  rw [ile_t (by (simp only [sha256_len, fr1_len, fr2_len, fr3_len, nameB_l32, wkey_32, uintB_l2, uintB_l1, uintB_l8, blobB_l, bankJ_len, LL] at * <;> omega))]
  conv => lhs; whnf
  (rw [ile_t (by rw [llen_eq]; omega)])
theorem ev_r18sess (a b c d : Int) (x y : List UInt8) (e : Int) (g : Bool) (hx : x.length ≤ 100000) (hy : y.length ≤ 100000) : Y E0 (.call 64 [.agg [.i a, .sl .u8 x, .sl .u8 y, .i b, .i c, .i d, .i e, .b g], .agg [.i a, .sl .u8 x, .sl .u8 y, .i b, .i c, .i d, .i e, .b g]] []) = some (.ret (.b true) []) := by
  rw [Y_go]; conv => lhs; whnf
  rw [ieq_t (by omega)]
  conv => lhs; whnf
  dsimp -iota -beta -eta -zeta only
  rw [toReq_call]
  rw [ev_same _ _ (by omega)]
  conv => lhs; whnf
  rw [decide_eq_true rfl]; conv => lhs; whnf
  dsimp -iota -beta -eta -zeta only
  rw [toReq_call]
  rw [ev_same _ _ (by omega)]
  conv => lhs; whnf
  rw [decide_eq_true rfl]; conv => lhs; whnf
  rw [ieq_t (by omega)]
  conv => lhs; whnf
  rw [Y_go]; conv => lhs; whnf
  rw [ieq_t (by omega)]
  conv => lhs; whnf
  rw [ieq_t (by omega)]
  conv => lhs; whnf
  rw [ieq_t (by omega)]
  conv => lhs; whnf
  rw [Y_go]; conv => lhs; whnf
  (rw [beq_self])
theorem ev_r17l0 (sd au : List (List UInt8)) (en : List UInt8) (ac re rs ck : Int) (od : Bool) (su mc : Int) (l1 l2 l3 l4 l5 l6 : Int) (ks : List (El lvT)) : Y E0 (.loop 61 0 0 2 [(2, .pa 0 0), (3, .pa 1 0), (5, .i 0)] [(0, some (.var [.sl (.sl .u8) sd, .sl (.sl .u8) au, .sl .u8 en, .i ac, .i re, .i rs, .i ck, .b od, .sl (.sl (.sl .u8)) [], .i su, .i mc, .sl idxT [], .i l1, .i l2, .i l3, .i l4, .i l5, .i l6, .sl lvT ks])), (1, some (.var [.sl (.sl .u8) sd, .sl (.sl .u8) au, .sl .u8 en, .i ac, .i re, .i rs, .i ck, .b od, .sl (.sl (.sl .u8)) [], .i su, .i mc, .sl idxT [], .i l1, .i l2, .i l3, .i l4, .i l5, .i l6, .sl lvT ks]))]) = some (.fin (.exit 0) 2 [(2, .pa 0 0), (3, .pa 1 0)] [(0, some (.var [.sl (.sl .u8) sd, .sl (.sl .u8) au, .sl .u8 en, .i ac, .i re, .i rs, .i ck, .b od, .sl (.sl (.sl .u8)) [], .i su, .i mc, .sl idxT [], .i l1, .i l2, .i l3, .i l4, .i l5, .i l6, .sl lvT ks])), (1, some (.var [.sl (.sl .u8) sd, .sl (.sl .u8) au, .sl .u8 en, .i ac, .i re, .i rs, .i ck, .b od, .sl (.sl (.sl .u8)) [], .i su, .i mc, .sl idxT [], .i l1, .i l2, .i l3, .i l4, .i l5, .i l6, .sl lvT ks]))]) := by
  rw [Y_go]; conv => lhs; whnf
  rw [ilt_f (by (simp only [sha256_len, fr1_len, fr2_len, fr3_len, nameB_l32, wkey_32, uintB_l2, uintB_l1, uintB_l8, blobB_l, bankJ_len, LL] at * <;> omega))]
  conv => lhs; whnf
theorem ev_r17l1 (sd au : List (List UInt8)) (en : List UInt8) (ac re rs ck : Int) (od : Bool) (su mc : Int) (l1 l2 l3 l4 l5 l6 : Int) (ks : List (El lvT)) (h6 : ks.length ≤ 1000) (h7 : ∀ x ∈ ks, x.1.length ≤ 1000) : ∀ (n j : Nat), j + n = ks.length → Y E0 (.loop 61 1 0 2 [(2, .pa 0 0), (3, .pa 1 0), (6, .i (j : Int))] [(0, some (.var [.sl (.sl .u8) sd, .sl (.sl .u8) au, .sl .u8 en, .i ac, .i re, .i rs, .i ck, .b od, .sl (.sl (.sl .u8)) [], .i su, .i mc, .sl idxT [], .i l1, .i l2, .i l3, .i l4, .i l5, .i l6, .sl lvT ks])), (1, some (.var [.sl (.sl .u8) sd, .sl (.sl .u8) au, .sl .u8 en, .i ac, .i re, .i rs, .i ck, .b od, .sl (.sl (.sl .u8)) [], .i su, .i mc, .sl idxT [], .i l1, .i l2, .i l3, .i l4, .i l5, .i l6, .sl lvT ks]))]) = some (.fin (.exit 2) 0 [] [])
  | 0, j, hj => by
    rw [Y_go]; conv => lhs; whnf
    rw [ilt_f (by (simp only [sha256_len, fr1_len, fr2_len, fr3_len, nameB_l32, wkey_32, uintB_l2, uintB_l1, uintB_l8, blobB_l, bankJ_len, LL] at * <;> omega))]
    conv => lhs; whnf
  | n + 1, j, hj => by
    have ih := ev_r17l1 sd au en ac re rs ck od su mc l1 l2 l3 l4 l5 l6 ks h6 h7 n (j + 1) (by omega)
    rw [show ((j + 1 : Nat) : Int) = (j : Int) + 1 from by omega] at ih
    have hg : lget ks (j : Int) = some (ks[j]'(by omega)) := lget_n (by omega)
    have hm := h7 _ (List.getElem_mem (show j < ks.length by omega))
    generalize ks[j]'(by omega) = x at *
    obtain ⟨un, us⟩ := x
    dsimp only at hm
    rw [Y_go]; conv => lhs; whnf
    rw [ilt_t (by (simp only [sha256_len, fr1_len, fr2_len, fr3_len, nameB_l32, wkey_32, uintB_l2, uintB_l1, uintB_l8, blobB_l, bankJ_len, LL] at * <;> omega))]
    conv => lhs; whnf
    rw [hg]; conv => lhs; whnf
    dsimp -iota -beta -eta -zeta only
    rw [hg]; conv => lhs; whnf
    dsimp -iota -beta -eta -zeta only
    rw [toReq_call]
    rw [ev_same _ _ (by omega)]
    conv => lhs; whnf
    rw [bnot_eq]; conv => lhs; whnf
    rw [decide_eq_true rfl]; conv => lhs; whnf
    rw [hg]; conv => lhs; whnf
    dsimp -iota -beta -eta -zeta only
    rw [hg]; conv => lhs; whnf
    dsimp -iota -beta -eta -zeta only
    rw [drw (by kernel_rfl)]; conv => lhs; whnf
    rw [ine_f (by omega)]
    conv => lhs; whnf
    dsimp -iota -beta -eta -zeta only
    rw [iadd_eq (by omega)]
    exact ih
theorem ev_r17same (sd au : List (List UInt8)) (en : List UInt8) (ac re rs ck : Int) (od : Bool) (su mc : Int) (l1 l2 l3 l4 l5 l6 : Int) (ks : List (El lvT)) (h1 : sd.length ≤ 1000) (h2 : ∀ l ∈ sd, l.length ≤ 4294967296) (h3 : au.length ≤ 1000) (h4 : ∀ l ∈ au, l.length ≤ 4294967296) (h5 : en.length ≤ 1000) (h6 : ks.length ≤ 1000) (h7 : ∀ x ∈ ks, x.1.length ≤ 1000) : Y E0 (.call 61 [.agg [.sl (.sl .u8) sd, .sl (.sl .u8) au, .sl .u8 en, .i ac, .i re, .i rs, .i ck, .b od, .sl (.sl (.sl .u8)) [], .i su, .i mc, .sl idxT [], .i l1, .i l2, .i l3, .i l4, .i l5, .i l6, .sl lvT ks], .agg [.sl (.sl .u8) sd, .sl (.sl .u8) au, .sl .u8 en, .i ac, .i re, .i rs, .i ck, .b od, .sl (.sl (.sl .u8)) [], .i su, .i mc, .sl idxT [], .i l1, .i l2, .i l3, .i l4, .i l5, .i l6, .sl lvT ks]] []) = some (.ret (.b true) []) := by
  have e1 := ev_lists sd sd (by omega) h2
  rw [decide_eq_true rfl] at e1
  have e2 := ev_lists au au (by omega) h4
  rw [decide_eq_true rfl] at e2
  have hq := ev_r17l1 sd au en ac re rs ck od su mc l1 l2 l3 l4 l5 l6 ks h6 h7 ks.length 0 (by omega)
  rw [show ((0 : Nat) : Int) = 0 from rfl] at hq
  rw [Y_go]; conv => lhs; whnf
  dsimp -iota -beta -eta -zeta only
  rw [toReq_call]
  rw [e1]
  conv => lhs; whnf
  rw [bnot_eq]; conv => lhs; whnf
  dsimp -iota -beta -eta -zeta only
  rw [toReq_call]
  rw [e2]
  conv => lhs; whnf
  rw [bnot_eq]; conv => lhs; whnf
  dsimp -iota -beta -eta -zeta only
  rw [toReq_call]
  rw [ev_same _ _ (by omega)]
  conv => lhs; whnf
  rw [bnot_eq]; conv => lhs; whnf
  rw [decide_eq_true rfl]; conv => lhs; whnf
  rw [Y_go]; conv => lhs; whnf
  rw [ine_f (by omega)]
  conv => lhs; whnf
  rw [ine_f (by omega)]
  conv => lhs; whnf
  rw [ine_f (by omega)]
  conv => lhs; whnf
  rw [ine_f (by omega)]
  conv => lhs; whnf
  rw [Y_go]; conv => lhs; whnf
  rw [beq_self]; conv => lhs; whnf
  rw [bnot_eq]; conv => lhs; whnf
  dsimp -iota -beta -eta -zeta only
  rw [toReq_call]
  rw [ev_r8same _ _ (by simp) (by simp) (by simp)]
  conv => lhs; whnf
  rw [bnot_eq]; conv => lhs; whnf
  rw [ine_f (by omega)]
  conv => lhs; whnf
  rw [bnot_eq]; conv => lhs; whnf
  rw [ieqs_t (by rfl)]; conv => lhs; whnf
  rw [Y_go]; conv => lhs; whnf
  rw [ine_f (by omega)]
  conv => lhs; whnf
  rw [ine_f (by omega)]
  conv => lhs; whnf
  dsimp -iota -beta -eta -zeta only
  rw [toReq_loop]
  rw [ev_r17l0]
  conv => lhs; whnf
  dsimp -iota -beta -eta -zeta only
  rw [toReq_loop]
  rw [hq]
  conv => lhs; whnf
theorem ev_r18l0 (st sp : Bool) (rb : List (List (List UInt8))) (ru vc : Int) (sf : Bool) (dr : Int) (ss : List (El sesT)) (ob : List (El objT)) (rl wl : List Int) (hss : ss.length ≤ 1000) (hso : ∀ x ∈ ss, x.2.1.length ≤ 1000 ∧ x.2.2.1.length ≤ 1000) : ∀ (n j : Nat), j + n = ss.length → Y E0 (.loop 21 0 0 2 [(5, .pa 0 0), (6, .pa 1 0), (7, .i (j : Int))] [(0, some (.var [.b st, .b sp, .sl (.sl (.sl .u8)) rb, .i ru, .i vc, .b sf, .i dr, .sl sesT ss, .sl objT ob, .sl .i64 rl, .sl .i64 wl])), (1, some (.var [.b st, .b sp, .sl (.sl (.sl .u8)) rb, .i ru, .i vc, .b sf, .i dr, .sl sesT ss, .sl objT ob, .sl .i64 rl, .sl .i64 wl]))]) = some (.fin (.exit 0) 2 [(5, .pa 0 0), (6, .pa 1 0)] [(0, some (.var [.b st, .b sp, .sl (.sl (.sl .u8)) rb, .i ru, .i vc, .b sf, .i dr, .sl sesT ss, .sl objT ob, .sl .i64 rl, .sl .i64 wl])), (1, some (.var [.b st, .b sp, .sl (.sl (.sl .u8)) rb, .i ru, .i vc, .b sf, .i dr, .sl sesT ss, .sl objT ob, .sl .i64 rl, .sl .i64 wl]))])
  | 0, j, hj => by
    rw [Y_go]; conv => lhs; whnf
    rw [ilt_f (by (simp only [sha256_len, fr1_len, fr2_len, fr3_len, nameB_l32, wkey_32, uintB_l2, uintB_l1, uintB_l8, blobB_l, bankJ_len, LL] at * <;> omega))]
    conv => lhs; whnf
  | n + 1, j, hj => by
    have ih := ev_r18l0 st sp rb ru vc sf dr ss ob rl wl hss hso n (j + 1) (by omega)
    rw [show ((j + 1 : Nat) : Int) = (j : Int) + 1 from by omega] at ih
    have hg : lget ss (j : Int) = some (ss[j]'(by omega)) := lget_n (by omega)
    have hm := hso _ (List.getElem_mem (show j < ss.length by omega))
    generalize ss[j]'(by omega) = x at *
    obtain ⟨x1, x2, x3, x4, x5, x6, x7, x8⟩ := x
    dsimp only at hm
    rw [Y_go]; conv => lhs; whnf
    rw [ilt_t (by (simp only [sha256_len, fr1_len, fr2_len, fr3_len, nameB_l32, wkey_32, uintB_l2, uintB_l1, uintB_l8, blobB_l, bankJ_len, LL] at * <;> omega))]
    conv => lhs; whnf
    rw [hg]; conv => lhs; whnf
    dsimp -iota -beta -eta -zeta only
    rw [hg]; conv => lhs; whnf
    dsimp -iota -beta -eta -zeta only
    rw [toReq_call]
    rw [ev_r18sess _ _ _ _ _ _ _ _ (by omega) (by omega)]
    conv => lhs; whnf
    dsimp -iota -beta -eta -zeta only
    rw [drw (by kernel_rfl)]; conv => lhs; whnf
    rw [bnot_eq]; conv => lhs; whnf
    dsimp -iota -beta -eta -zeta only
    rw [iadd_eq (by omega)]
    exact ih
theorem ev_r18l1 (st sp : Bool) (rb : List (List (List UInt8))) (ru vc : Int) (sf : Bool) (dr : Int) (ss : List (El sesT)) (ob : List (El objT)) (rl wl : List Int) (hob : ob.length ≤ 1000) (hoo : ∀ x ∈ ob, x.1.2.2.2.1.length ≤ 1000 ∧ x.1.2.2.2.2.length ≤ 1000 ∧ x.2.1.1.length ≤ 1000 ∧ x.2.1.2.1.length ≤ 1000 ∧ x.2.1.2.2.length ≤ 1000) : ∀ (n j : Nat), j + n = ob.length → Y E0 (.loop 21 1 0 2 [(5, .pa 0 0), (6, .pa 1 0), (8, .i (j : Int))] [(0, some (.var [.b st, .b sp, .sl (.sl (.sl .u8)) rb, .i ru, .i vc, .b sf, .i dr, .sl sesT ss, .sl objT ob, .sl .i64 rl, .sl .i64 wl])), (1, some (.var [.b st, .b sp, .sl (.sl (.sl .u8)) rb, .i ru, .i vc, .b sf, .i dr, .sl sesT ss, .sl objT ob, .sl .i64 rl, .sl .i64 wl]))]) = some (.fin (.exit 2) 0 [] [])
  | 0, j, hj => by
    rw [Y_go]; conv => lhs; whnf
    rw [ilt_f (by (simp only [sha256_len, fr1_len, fr2_len, fr3_len, nameB_l32, wkey_32, uintB_l2, uintB_l1, uintB_l8, blobB_l, bankJ_len, LL] at * <;> omega))]
    conv => lhs; whnf
  | n + 1, j, hj => by
    have ih := ev_r18l1 st sp rb ru vc sf dr ss ob rl wl hob hoo n (j + 1) (by omega)
    rw [show ((j + 1 : Nat) : Int) = (j : Int) + 1 from by omega] at ih
    have hg : lget ob (j : Int) = some (ob[j]'(by omega)) := lget_n (by omega)
    have hm := hoo _ (List.getElem_mem (show j < ob.length by omega))
    generalize ob[j]'(by omega) = x at *
    obtain ⟨⟨k, a, t, o, u⟩, ⟨y1, y2, y3⟩, h⟩ := x
    dsimp only at hm
    have q1 : sameP ⟨k, a, t, o, u⟩ ⟨k, a, t, o, u⟩ = true := by simp [sameP]
    have e1 := ev_r10same k a t o u k a t o u (by omega) (by omega)
    rw [q1] at e1
    have e2 := ev_r11same y1 y2 y3 y1 y2 y3 (by omega) (by omega) (by omega)
    rw [sameS_refl] at e2
    rw [Y_go]; conv => lhs; whnf
    rw [ilt_t (by (simp only [sha256_len, fr1_len, fr2_len, fr3_len, nameB_l32, wkey_32, uintB_l2, uintB_l1, uintB_l8, blobB_l, bankJ_len, LL] at * <;> omega))]
    conv => lhs; whnf
    rw [hg]; conv => lhs; whnf
    dsimp -iota -beta -eta -zeta only
    rw [hg]; conv => lhs; whnf
    dsimp -iota -beta -eta -zeta only
    rw [toReq_call]
    rw [e1]
    conv => lhs; whnf
    rw [bnot_eq]; conv => lhs; whnf
    rw [hg]; conv => lhs; whnf
    dsimp -iota -beta -eta -zeta only
    rw [hg]; conv => lhs; whnf
    dsimp -iota -beta -eta -zeta only
    rw [toReq_call]
    rw [e2]
    conv => lhs; whnf
    rw [bnot_eq]; conv => lhs; whnf
    rw [Y_go]; conv => lhs; whnf
    rw [hg]; conv => lhs; whnf
    dsimp -iota -beta -eta -zeta only
    rw [hg]; conv => lhs; whnf
    dsimp -iota -beta -eta -zeta only
    rw [drw (by kernel_rfl)]; conv => lhs; whnf
    rw [ine_f (by omega)]
    conv => lhs; whnf
    dsimp -iota -beta -eta -zeta only
    rw [iadd_eq (by omega)]
    exact ih
theorem ev_r18same (sd au : List (List UInt8)) (en : List UInt8) (ac re rs ck : Int) (od : Bool) (sb : List (List (List UInt8))) (su mc : Int) (ix : List (El idxT)) (l1 l2 l3 l4 l5 l6 : Int) (ks : List (El lvT)) (st sp : Bool) (rb : List (List (List UInt8))) (ru vc : Int) (sf : Bool) (dr : Int) (ss : List (El sesT)) (ob : List (El objT)) (rl wl : List Int) (hx : ix = []) (hb : sb = []) (h1 : rb.length ≤ 2) (h2 : ∀ b ∈ rb, b.length ≤ 4294967296) (h3 : ∀ b ∈ rb, ∀ l ∈ b, l.length ≤ 4294967296) (h4 : rl.length ≤ 1000) (h5 : wl.length ≤ 1000)
    (e : Y E0 (.call 61 [.agg [.sl (.sl .u8) sd, .sl (.sl .u8) au, .sl .u8 en, .i ac, .i re, .i rs, .i ck, .b od, .sl (.sl (.sl .u8)) [], .i su, .i mc, .sl idxT [], .i l1, .i l2, .i l3, .i l4, .i l5, .i l6, .sl lvT ks], .agg [.sl (.sl .u8) sd, .sl (.sl .u8) au, .sl .u8 en, .i ac, .i re, .i rs, .i ck, .b od, .sl (.sl (.sl .u8)) [], .i su, .i mc, .sl idxT [], .i l1, .i l2, .i l3, .i l4, .i l5, .i l6, .sl lvT ks]] []) = some (.ret (.b true) [])) (hss : ss.length ≤ 1000) (hso : ∀ x ∈ ss, x.2.1.length ≤ 1000 ∧ x.2.2.1.length ≤ 1000) (hob : ob.length ≤ 1000) (hoo : ∀ x ∈ ob, x.1.2.2.2.1.length ≤ 1000 ∧ x.1.2.2.2.2.length ≤ 1000 ∧ x.2.1.1.length ≤ 1000 ∧ x.2.1.2.1.length ≤ 1000 ∧ x.2.1.2.2.length ≤ 1000) : Y E0 (.call 21 [.agg [.sl (.sl .u8) sd, .sl (.sl .u8) au, .sl .u8 en, .i ac, .i re, .i rs, .i ck, .b od, .sl (.sl (.sl .u8)) sb, .i su, .i mc, .sl idxT ix, .i l1, .i l2, .i l3, .i l4, .i l5, .i l6, .sl lvT ks, .b st, .b sp, .sl (.sl (.sl .u8)) rb, .i ru, .i vc, .b sf, .i dr, .sl sesT ss, .sl objT ob, .sl .i64 rl, .sl .i64 wl], .agg [.sl (.sl .u8) sd, .sl (.sl .u8) au, .sl .u8 en, .i ac, .i re, .i rs, .i ck, .b od, .sl (.sl (.sl .u8)) sb, .i su, .i mc, .sl idxT ix, .i l1, .i l2, .i l3, .i l4, .i l5, .i l6, .sl lvT ks, .b st, .b sp, .sl (.sl (.sl .u8)) rb, .i ru, .i vc, .b sf, .i dr, .sl sesT ss, .sl objT ob, .sl .i64 rl, .sl .i64 wl]] []) = some (.ret (.b true) []) := by
  subst hx; subst hb
  have q0 := ev_r18l0 st sp rb ru vc sf dr ss ob rl wl hss hso ss.length 0 (by omega)
  rw [show ((0 : Nat) : Int) = 0 from rfl] at q0
  have q1 := ev_r18l1 st sp rb ru vc sf dr ss ob rl wl hob hoo ob.length 0 (by omega)
  rw [show ((0 : Nat) : Int) = 0 from rfl] at q1
  rw [Y_go]; conv => lhs; whnf
  dsimp -iota -beta -eta -zeta only
  rw [drw (by kernel_rfl)]; conv => lhs; whnf
  dsimp -iota -beta -eta -zeta only
  rw [toReq_call]
  rw [e]
  conv => lhs; whnf
  rw [bnot_eq]; conv => lhs; whnf
  rw [beq_self]; conv => lhs; whnf
  rw [bnot_eq]; conv => lhs; whnf
  rw [beq_self]; conv => lhs; whnf
  rw [bnot_eq]; conv => lhs; whnf
  dsimp -iota -beta -eta -zeta only
  rw [toReq_call]
  rw [ev_r8same _ _ h1 h2 h3]
  conv => lhs; whnf
  rw [Y_go]; conv => lhs; whnf
  rw [bnot_eq]; conv => lhs; whnf
  rw [ine_f (by omega)]
  conv => lhs; whnf
  rw [beq_self]; conv => lhs; whnf
  rw [bnot_eq]; conv => lhs; whnf
  rw [ine_f (by omega)]
  conv => lhs; whnf
  rw [Y_go]; conv => lhs; whnf
  rw [ine_f (by omega)]
  conv => lhs; whnf
  rw [ine_f (by omega)]
  conv => lhs; whnf
  dsimp -iota -beta -eta -zeta only
  rw [toReq_call]
  rw [ev_r18ints _ (by omega)]
  conv => lhs; whnf
  rw [bnot_eq]; conv => lhs; whnf
  rw [Y_go]; conv => lhs; whnf
  dsimp -iota -beta -eta -zeta only
  rw [toReq_call]
  rw [ev_r18ints _ (by omega)]
  conv => lhs; whnf
  rw [bnot_eq]; conv => lhs; whnf
  dsimp -iota -beta -eta -zeta only
  rw [toReq_loop]
  rw [q0]
  conv => lhs; whnf
  dsimp -iota -beta -eta -zeta only
  rw [toReq_loop]
  rw [q1]
  conv => lhs; whnf
end Go.Proofs.YtfjcmolccckhhaaGreatDoor

namespace Go.Ax
open Go.Eng
theorem low1 (x : UInt8) : ∃ t : Int, u8i (u8op .and x (UInt8.ofNat 1)) = t ∧ (t = 0 ∨ t = 1) := by
  refine ⟨_, rfl, ?_⟩
  have h : ∀ n < 256, n &&& 1 = 0 ∨ n &&& 1 = 1 := by decide +kernel
  have hx := h x.toNat x.toNat_lt
  rw [u8i_d, u8op_d]
  unfold u8i0 u8op0
  rw [show bop8 .and x (UInt8.ofNat 1) = x &&& 1 from rfl, UInt8.toNat_and, show (1 : UInt8).toNat = 1 from rfl]
  rcases hx with hx | hx <;> rw [hx]
  · exact .inl rfl
  · exact .inr rfl
def lvK (U : List UInt8) (W i : Nat) : List (El lvT) := if i = 0 then [] else [(U, ((min i W : Nat) : Int))]
theorem lvK_lt {U : List UInt8} {W i : Nat} {t : Int} (hW : (2 : Int) ^ t.toNat = W) (h : i < W) : useR (lvK U W i) U t = (lvK U W (i + 1), (i : Int), 0) := by
  unfold useR lvK
  rcases Nat.eq_zero_or_pos i with rfl | hi
  · rw [if_pos rfl, if_neg (show ¬ (0 + 1 = 0) by omega), show min (0 + 1) W = 1 by omega]; rfl
  · rw [if_neg (show ¬ i = 0 by omega), if_neg (show ¬ (i + 1 = 0) by omega), show min i W = i by omega, show min (i + 1) W = i + 1 by omega]
    have hk : keyAt U [(U, ((i : Nat) : Int))] = 0 := by simp [keyAt]
    rw [hk, if_pos (by simp), if_neg (by rw [hW]; simp only [List.getD, List.getElem?_cons_zero, Option.getD_some]; omega)]
    rfl
theorem lvK_ge {U : List UInt8} {W i : Nat} {t : Int} (hW : (2 : Int) ^ t.toNat = W) (h1 : 1 ≤ W) (h : W ≤ i) : useR (lvK U W i) U t = (lvK U W i, 0, 26) ∧ lvK U W (i + 1) = lvK U W i := by
  unfold useR lvK
  rw [if_neg (show ¬ i = 0 by omega), if_neg (show ¬ (i + 1 = 0) by omega), show min i W = W by omega, show min (i + 1) W = W by omega]
  have hk : keyAt U [(U, ((W : Nat) : Int))] = 0 := by simp [keyAt]
  rw [hk, if_pos (by simp), if_pos (by rw [hW]; exact Int.le_refl _)]
  exact ⟨rfl, rfl⟩
theorem lvK_mem {U : List UInt8} {W i : Nat} (hW : W ≤ 1000) (hU : U.length ≤ 1000) : (lvK U W i).length ≤ 1 ∧ ∀ x ∈ lvK U W i, (0 ≤ x.2 ∧ x.2 ≤ 1000) ∧ x.1.length ≤ 1000 := by
  unfold lvK
  split
  · simp
  · refine ⟨by simp, fun x hx => ?_⟩
    rw [List.mem_singleton.1 hx]
    have h1 : ((min i W : Nat) : Int) ≤ 1000 := by omega
    exact ⟨⟨Int.natCast_nonneg _, h1⟩, hU⟩
end Go.Ax
namespace Go.Proofs.YtfjcmolccckhhaaGreatDoor
open Go Go.Ax Go.Eng
set_option linter.unusedVariables false
set_option linter.unusedSimpArgs false
attribute [local irreducible] iadd isub imul iquo irem ibit ineg ieq ine ilt ile ishl ishr beq' bnot and' seq' u8op u8rem u32op u64op u8shr u8shl u64shr u64shl u32shr u32shl i64w u8i u64i iu8 iu32 iu64 u8u64 u64u8 u32u8 u64cmp u8cmp u32cmp llen lget linb lset lcut lrep lapp lcpy lemp fits fitn ieqs sealed drawChk fpSame
attribute [local irreducible] derB seedB makeP nameB encP uniB frameB primS primR privB openS decP uintB putO sigK verK
set_option maxHeartbeats 4000000
set_option maxRecDepth 100000
theorem imp2 {α : Type} {A B P Q : α} (key : ∀ R, A = R → B = R) (ih : A = P ∨ A = Q) : B = P ∨ B = Q := ih.imp (key _) (key _)
def lvO (ob1 ob2 : List (El objT)) (again : Bool) (i : Nat) : List (El objT) := if again = true ∧ 2 ≤ i then ob2 else ob1
theorem lvO_same {ob1 ob2 : List (El objT)} {again : Bool} {i : Nat} (h : ¬ (again = true ∧ i = 1)) : lvO ob1 ob2 again (i + 1) = lvO ob1 ob2 again i := by
  unfold lvO
  by_cases ha : again = true
  · by_cases h2 : 2 ≤ i
    · rw [if_pos ⟨ha, by omega⟩, if_pos ⟨ha, h2⟩]
    · have : i ≠ 1 := fun e => h ⟨ha, e⟩
      rw [if_neg (fun q => by have := q.2; omega), if_neg (fun q => h2 q.2)]
  · rw [if_neg (fun q => ha q.1), if_neg (fun q => ha q.1)]
theorem ev_lv_same (ac t : Int) (S1 : List UInt8) (W i : Nat) (rb : List (List (List UInt8))) (ob : List (El objT)) (hW1 : W ≤ 1000) (hrb : rb.length ≤ 2 ∧ (∀ b ∈ rb, b.length ≤ 4294967296) ∧ ∀ b ∈ rb, ∀ l ∈ b, l.length ≤ 4294967296) (hob : ob = ((List.replicate 3 obj0).set 0 ((2, 1, t, [], pubK S1 t), ([], S1, []), 0)) ∨ ob = (((List.replicate 3 obj0).set 0 ((2, 1, t, [], pubK S1 t), ([], S1, []), 0)).set 1 ((2, 1, t, [], pubK S1 t), ([], S1, []), 0))) (hS1 : S1.length = 32) :
    Y E0 (.call 21 [.agg [.sl (.sl .u8) (seedsE ent0), .sl (.sl .u8) [[], [], [], []], .sl .u8 (derB ent0 entrL [] 32), .i ac, .i 1, .i 0, .i 0, .b false, .sl (.sl (.sl .u8)) [], .i 0, .i 0, .sl idxT [], .i 0, .i 5, .i 100, .i 0, .i 0, .i 1000, .sl lvT (lvK (pubK S1 t) W i), .b true, .b false, .sl (.sl (.sl .u8)) rb, .i 0, .i 0, .b true, .i 0, .sl sesT (List.replicate 3 ses0), .sl objT ob, .sl .i64 [], .sl .i64 []], .agg [.sl (.sl .u8) (seedsE ent0), .sl (.sl .u8) [[], [], [], []], .sl .u8 (derB ent0 entrL [] 32), .i ac, .i 1, .i 0, .i 0, .b false, .sl (.sl (.sl .u8)) [], .i 0, .i 0, .sl idxT [], .i 0, .i 5, .i 100, .i 0, .i 0, .i 1000, .sl lvT (lvK (pubK S1 t) W i), .b true, .b false, .sl (.sl (.sl .u8)) rb, .i 0, .i 0, .b true, .i 0, .sl sesT (List.replicate 3 ses0), .sl objT ob, .sl .i64 [], .sl .i64 []]] []) = some (.ret (.b true) []) := by
  have hU := pubK_le S1 t
  have hm := lvK_mem (U := pubK S1 t) (W := W) (i := i) hW1 (by omega)
  have hen : (derB ent0 entrL [] 32).length = 32 := by rw [derB_len (by omega)]; rfl
  have hs := seedsE_le ent0
  have ho : ob.length ≤ 1000 ∧ ∀ x ∈ ob, x.1.2.2.2.1.length ≤ 1000 ∧ x.1.2.2.2.2.length ≤ 1000 ∧ x.2.1.1.length ≤ 1000 ∧ x.2.1.2.1.length ≤ 1000 ∧ x.2.1.2.2.length ≤ 1000 := by
    have key : ∀ x : El objT, (x = obj0 ∨ x = ((2, 1, t, [], pubK S1 t), ([], S1, []), 0)) → x.1.2.2.2.1.length ≤ 1000 ∧ x.1.2.2.2.2.length ≤ 1000 ∧ x.2.1.1.length ≤ 1000 ∧ x.2.1.2.1.length ≤ 1000 ∧ x.2.1.2.2.length ≤ 1000 := by
      rintro x (rfl | rfl)
      · simp [obj0]
      · refine ⟨by simp, ?_, by simp, ?_, by simp⟩ <;> simp only <;> omega
    rcases hob with rfl | rfl
    · refine ⟨by simp, fun x hx => key x ?_⟩
      simp only [List.replicate, List.set_cons_zero, List.mem_cons, List.not_mem_nil, or_false] at hx
      rcases hx with h | h | h <;> simp [h]
    · refine ⟨by simp, fun x hx => key x ?_⟩
      simp only [List.replicate, List.set_cons_zero, List.set_cons_succ, List.mem_cons, List.not_mem_nil, or_false] at hx
      rcases hx with h | h | h <;> simp [h]
  refine ev_r18same _ _ _ _ _ _ _ _ _ _ _ _ _ _ _ _ _ _ _ _ _ _ _ _ _ _ _ _ _ _ rfl rfl hrb.1 hrb.2.1 hrb.2.2 (by simp) (by simp) (ev_r17same _ _ _ _ _ _ _ _ _ _ _ _ _ _ _ _ _ (by simp [seedsE_len]) (fun l hl => Nat.le_trans (hs l hl) (by omega)) (by simp) (by simp) (by omega) (by omega) (fun x hx => (hm.2 x hx).2)) (by simp) (by simp [ses0]) ho.1 ho.2
set_option maxHeartbeats 8000000 in
theorem ev_lv_loop (ac t : Int) (S1 : List UInt8) (W : Nat) (rb : List (List (List UInt8))) (again : Bool) (ms : List (List UInt8)) (hms : ms.length ≤ 5) (ht : t = 0 ∨ t = 1) (hS1 : S1.length = 32) (hW : (2 : Int) ^ t.toNat = W) (hrb : rb.length ≤ 2 ∧ (∀ b ∈ rb, b.length ≤ 4294967296) ∧ ∀ b ∈ rb, ∀ l ∈ b, l.length ≤ 4294967296) (E1 N1 : List UInt8)
    (hp2 : primR (seedsE ent0) ((List.replicate 3 obj0).set 0 ((2, 1, t, [], pubK S1 t), ([], S1, []), 0)) 0 2 1 t [] [] [] = ((((List.replicate 3 obj0).set 0 ((2, 1, t, [], pubK S1 t), ([], S1, []), 0)).set 1 ((2, 1, t, [], pubK S1 t), ([], S1, []), 0)), ⟨0, [513], [E1, N1]⟩)) : ∀ (n i : Nat) (r1 : Int) (r2 : List Int) (r3 r4 : List (List UInt8)), i + n = ms.length →
    Y E0 (.loop 4 0 0 4 [(2, .sl (.sl .u8) ms), (3, .b again), (9, .i t), (10, .pa 0 0), (11, .pa 1 0), (12, .pa 2 0), (13, .pa 3 0), (14, .i (i : Int))] [(0, some (.var [.sl (.sl .u8) (seedsE ent0), .sl (.sl .u8) [[], [], [], []], .sl .u8 (derB ent0 entrL [] 32), .i ac, .i 1, .i 0, .i 0, .b false, .sl (.sl (.sl .u8)) [], .i 0, .i 0, .sl idxT [], .i 0, .i 5, .i 100, .i 0, .i 0, .i 1000, .sl lvT (lvK (pubK S1 t) W i), .b true, .b false, .sl (.sl (.sl .u8)) rb, .i 0, .i 0, .b true, .i 0, .sl sesT (List.replicate 3 ses0), .sl objT (lvO ((List.replicate 3 obj0).set 0 ((2, 1, t, [], pubK S1 t), ([], S1, []), 0)) (((List.replicate 3 obj0).set 0 ((2, 1, t, [], pubK S1 t), ([], S1, []), 0)).set 1 ((2, 1, t, [], pubK S1 t), ([], S1, []), 0)) again i), .sl .i64 [], .sl .i64 []])), (1, some (.var [.i 9, .sl .i64 [0], .sl authT [], .sl .i64 [2, 1, t], .sl (.sl .u8) [[], [], []]])), (2, some (.var [.i r1, .sl .i64 r2, .sl (.sl .u8) r3, .sl (.sl .u8) r4])), (3, some (.var [.i 2, .i 1, .i t, .sl .u8 [], .sl .u8 (pubK S1 t)]))]) = some (.fin (.exit 0) 0 [] []) ∨
    Y E0 (.loop 4 0 0 4 [(2, .sl (.sl .u8) ms), (3, .b again), (9, .i t), (10, .pa 0 0), (11, .pa 1 0), (12, .pa 2 0), (13, .pa 3 0), (14, .i (i : Int))] [(0, some (.var [.sl (.sl .u8) (seedsE ent0), .sl (.sl .u8) [[], [], [], []], .sl .u8 (derB ent0 entrL [] 32), .i ac, .i 1, .i 0, .i 0, .b false, .sl (.sl (.sl .u8)) [], .i 0, .i 0, .sl idxT [], .i 0, .i 5, .i 100, .i 0, .i 0, .i 1000, .sl lvT (lvK (pubK S1 t) W i), .b true, .b false, .sl (.sl (.sl .u8)) rb, .i 0, .i 0, .b true, .i 0, .sl sesT (List.replicate 3 ses0), .sl objT (lvO ((List.replicate 3 obj0).set 0 ((2, 1, t, [], pubK S1 t), ([], S1, []), 0)) (((List.replicate 3 obj0).set 0 ((2, 1, t, [], pubK S1 t), ([], S1, []), 0)).set 1 ((2, 1, t, [], pubK S1 t), ([], S1, []), 0)) again i), .sl .i64 [], .sl .i64 []])), (1, some (.var [.i 9, .sl .i64 [0], .sl authT [], .sl .i64 [2, 1, t], .sl (.sl .u8) [[], [], []]])), (2, some (.var [.i r1, .sl .i64 r2, .sl (.sl .u8) r3, .sl (.sl .u8) r4])), (3, some (.var [.i 2, .i 1, .i t, .sl .u8 [], .sl .u8 (pubK S1 t)]))]) = some (.fin .ret 0 [(8, .b true)] [])
  | 0, i, r1, r2, r3, r4, hi => by
    left
    rw [Y_go]; conv => lhs; whnf
    rw [ilt_f (by (simp only [sha256_len, fr1_len, fr2_len, fr3_len, nameB_l32, wkey_32, uintB_l2, uintB_l1, uintB_l8, blobB_l, bankJ_len, LL] at * <;> omega))]
    conv => lhs; whnf
  | n + 1, i, r1, r2, r3, r4, hi => by
    have hg : lget ms (i : Int) = some (ms[i]'(by omega)) := lget_n (by omega)
    generalize ms[i]'(by omega) = m at *
    by_cases hm : m.length ≤ 128
    · have hWW : (W = 1 ∨ W = 2) := by rcases ht with rfl | rfl <;> simp at hW <;> omega
      have hU := pubK_le S1 t
      have hkm := lvK_mem (U := pubK S1 t) (W := W) (i := i) (by omega) (by omega)
      have hp : ishl 1 (iu64 t).toNat = (W : Int) := by rw [ishl1 (by rcases ht with rfl | rfl <;> omega)]; exact hW
      have ih := fun r1 r2 r3 r4 => ev_lv_loop ac t S1 W rb again ms hms ht hS1 hW hrb E1 N1 hp2 n (i + 1) r1 r2 r3 r4 (by omega)
      rw [show ((i + 1 : Nat) : Int) = (i : Int) + 1 from by omega] at ih
      have hand : ibit .and 1 4 = 0 := by rw [ibit_d]; decide
      have hir : irem (i : Int) 2 = ((i % 2 : Nat) : Int) := by rw [irem_eq (by omega)]; omega
      have hl1 : ((List.replicate 3 obj0).set 0 ((2, 1, t, [], pubK S1 t), ([], S1, []), 0)).length = 3 := by simp
      have hl2 : (((List.replicate 3 obj0).set 0 ((2, 1, t, [], pubK S1 t), ([], S1, []), 0)).set 1 ((2, 1, t, [], pubK S1 t), ([], S1, []), 0)).length = 3 := by simp
      have hx1 : slotAt ((List.replicate 3 obj0).set 0 ((2, 1, t, [], pubK S1 t), ([], S1, []), 0)) (512 + 0) = some ((2, 1, t, [], pubK S1 t), ([], S1, []), 0) := rfl
      have hx2 : slotAt (((List.replicate 3 obj0).set 0 ((2, 1, t, [], pubK S1 t), ([], S1, []), 0)).set 1 ((2, 1, t, [], pubK S1 t), ([], S1, []), 0)) (512 + 0) = some ((2, 1, t, [], pubK S1 t), ([], S1, []), 0) := rfl
      have hx3 : slotAt (((List.replicate 3 obj0).set 0 ((2, 1, t, [], pubK S1 t), ([], S1, []), 0)).set 1 ((2, 1, t, [], pubK S1 t), ([], S1, []), 0)) (512 + 1) = some ((2, 1, t, [], pubK S1 t), ([], S1, []), 0) := rfl
      by_cases hb : again = true ∧ i % 2 = 1
      · obtain ⟨rfl, hodd⟩ := hb
        by_cases h1 : i = 1
        · subst h1
          have o1 : lvO ((List.replicate 3 obj0).set 0 ((2, 1, t, [], pubK S1 t), ([], S1, []), 0)) (((List.replicate 3 obj0).set 0 ((2, 1, t, [], pubK S1 t), ([], S1, []), 0)).set 1 ((2, 1, t, [], pubK S1 t), ([], S1, []), 0)) true 1 = ((List.replicate 3 obj0).set 0 ((2, 1, t, [], pubK S1 t), ([], S1, []), 0)) := by rw [lvO, if_neg (by omega)]
          have o2 : lvO ((List.replicate 3 obj0).set 0 ((2, 1, t, [], pubK S1 t), ([], S1, []), 0)) (((List.replicate 3 obj0).set 0 ((2, 1, t, [], pubK S1 t), ([], S1, []), 0)).set 1 ((2, 1, t, [], pubK S1 t), ([], S1, []), 0)) true (1 + 1) = (((List.replicate 3 obj0).set 0 ((2, 1, t, [], pubK S1 t), ([], S1, []), 0)).set 1 ((2, 1, t, [], pubK S1 t), ([], S1, []), 0)) := by rw [lvO, if_pos ⟨rfl, by omega⟩]
          rw [o1]
          rw [o2] at ih
          have ih := ih 0 [513] [E1, N1] []
          by_cases hlt : 1 < W
          · have hus := lvK_lt (U := pubK S1 t) hW hlt
            have hv := sig_trip (seed := S1) (m := m) (h := t) (leaf := ((1 : Nat) : Int)) (by rcases ht with rfl | rfl <;> omega) (by rw [hW]; omega)
            generalize lvK (pubK S1 t) W (1 + 1) = K2 at *
            generalize lvK (pubK S1 t) W 1 = K1 at *
            refine imp2 (fun R ih => ?_) ih
            · rw [Y_go]; conv => lhs; whnf
              rw [ilt_t (by (simp only [sha256_len, fr1_len, fr2_len, fr3_len, nameB_l32, wkey_32, uintB_l2, uintB_l1, uintB_l8, blobB_l, bankJ_len, LL] at * <;> omega))]
              conv => lhs; whnf
              rw [hg]; conv => lhs; whnf
              rw [ilt_f (by (simp only [sha256_len, fr1_len, fr2_len, fr3_len, nameB_l32, wkey_32, uintB_l2, uintB_l1, uintB_l8, blobB_l, bankJ_len, LL] at * <;> omega))]
              conv => lhs; whnf
              rw [hir]
              rw [ieq_f (by omega)]
              conv => lhs; whnf
              rw [ieq_t (by omega)]
              conv => lhs; whnf
              rw [ieq_t (by omega)]
              conv => lhs; whnf
              dsimp -iota -beta -eta -zeta only
              rw [toReq_call]
              rw [ev_oprim _ _ _ _ _ _ _ _ _ _ _ _ _ _ _ _ _ _ _ _ _ _ _ _ _ _ _ _ _ _ _ _ _ _ _ _ _ _ _ _ (by simp) (by decide) (seedsE_le _) (by simp) (by simp) (by simp), hp2]
              conv => lhs; whnf
              dsimp -iota -beta -eta -zeta only
              rw [ine_f (by omega)]
              conv => lhs; whnf
              rw [ine_f (by rw [llen_eq, hl2]; rfl)]; conv => lhs; whnf
              rw [Y_go]; conv => lhs; whnf
              dsimp -iota -beta -eta -zeta only
              rw [hg]; conv => lhs; whnf
              dsimp -iota -beta -eta -zeta only
              rw [toReq_call]
              rw [ev_on21 _ _ _ (by omega)]
              conv => lhs; whnf
              dsimp -iota -beta -eta -zeta only
              rw [toReq_call]
              rw [ev_osign_ok _ _ _ _ _ _ _ _ _ _ _ _ _ _ _ _ _ _ _ _ _ _ _ _ _ _ _ _ _ _ _ _ _ _ _ _ _ _ _ _ _ _ _ _ _ _ (by simp) (by simp) (by simp) hx3 rfl hand (by omega) (by omega) (by rcases ht with rfl | rfl <;> omega) (fun x hx => (hkm.2 x hx).1) (by omega) (by rw [hus]), hus]
              conv => lhs; whnf
              dsimp -iota -beta -eta -zeta only
              rw [drw (by kernel_rfl)]; conv => lhs; whnf
              rw [hp]
              rw [ile_f (by omega)]
              conv => lhs; whnf
              rw [ine_f (by omega)]
              conv => lhs; whnf
              rw [ine_f (by (simp only [sha256_len, fr1_len, fr2_len, fr3_len, nameB_l32, wkey_32, uintB_l2, uintB_l1, uintB_l8, blobB_l, bankJ_len, LL] at * <;> omega))]
              conv => lhs; whnf
              rw [hg]; conv => lhs; whnf
              rw [lg0]; conv => lhs; whnf
              dsimp -iota -beta -eta -zeta only
              rw [toReq_call]
              rw [ev_rsver _ _ _ (by omega), hv]
              conv => lhs; whnf
              dsimp -iota -beta -eta -zeta only
              rw [drw (by kernel_rfl)]; conv => lhs; whnf
              rw [bnot_eq]; conv => lhs; whnf
              rw [ine_f (by omega)]
              conv => lhs; whnf
              rw [Y_go]; conv => lhs; whnf
              dsimp -iota -beta -eta -zeta only
              rw [iadd_eq (by omega)]
              exact ih
          · obtain ⟨hus, hK⟩ := lvK_ge (U := pubK S1 t) (i := 1) hW (by omega) (by omega)
            rw [hK] at ih
            have hq := ev_lv_same ac t S1 W 1 rb _ (by omega) hrb (.inr rfl) hS1
            generalize lvK (pubK S1 t) W 1 = K1 at *
            refine imp2 (fun R ih => ?_) ih
            · rw [Y_go]; conv => lhs; whnf
              rw [ilt_t (by (simp only [sha256_len, fr1_len, fr2_len, fr3_len, nameB_l32, wkey_32, uintB_l2, uintB_l1, uintB_l8, blobB_l, bankJ_len, LL] at * <;> omega))]
              conv => lhs; whnf
              rw [hg]; conv => lhs; whnf
              rw [ilt_f (by (simp only [sha256_len, fr1_len, fr2_len, fr3_len, nameB_l32, wkey_32, uintB_l2, uintB_l1, uintB_l8, blobB_l, bankJ_len, LL] at * <;> omega))]
              conv => lhs; whnf
              rw [hir]
              rw [ieq_f (by omega)]
              conv => lhs; whnf
              rw [ieq_t (by omega)]
              conv => lhs; whnf
              rw [ieq_t (by omega)]
              conv => lhs; whnf
              dsimp -iota -beta -eta -zeta only
              rw [toReq_call]
              rw [ev_oprim _ _ _ _ _ _ _ _ _ _ _ _ _ _ _ _ _ _ _ _ _ _ _ _ _ _ _ _ _ _ _ _ _ _ _ _ _ _ _ _ (by simp) (by decide) (seedsE_le _) (by simp) (by simp) (by simp), hp2]
              conv => lhs; whnf
              dsimp -iota -beta -eta -zeta only
              rw [ine_f (by omega)]
              conv => lhs; whnf
              rw [ine_f (by rw [llen_eq, hl2]; rfl)]; conv => lhs; whnf
              rw [Y_go]; conv => lhs; whnf
              dsimp -iota -beta -eta -zeta only
              rw [hg]; conv => lhs; whnf
              dsimp -iota -beta -eta -zeta only
              rw [toReq_call]
              rw [ev_on21 _ _ _ (by omega)]
              conv => lhs; whnf
              dsimp -iota -beta -eta -zeta only
              rw [toReq_call]
              rw [ev_osign_e _ _ _ _ _ _ _ _ _ _ _ _ _ _ _ _ _ _ _ _ _ _ _ _ _ _ _ _ _ _ _ _ _ _ _ _ _ _ _ _ _ _ _ _ _ _ (by simp) (by simp) (by simp) hx3 rfl hand (by omega) (by omega) (by rcases ht with rfl | rfl <;> omega) (fun x hx => (hkm.2 x hx).1) (by rw [hus]; show (26 : Int) ≠ 0; decide), hus]
              conv => lhs; whnf
              dsimp -iota -beta -eta -zeta only
              rw [drw (by kernel_rfl)]; conv => lhs; whnf
              rw [hp]
              rw [ile_t (by omega)]
              conv => lhs; whnf
              rw [ine_f (by omega)]
              conv => lhs; whnf
              dsimp -iota -beta -eta -zeta only
              rw [toReq_call]
              rw [hq]
              conv => lhs; whnf
              rw [bnot_eq]; conv => lhs; whnf
              rw [Y_go]; conv => lhs; whnf
              dsimp -iota -beta -eta -zeta only
              rw [iadd_eq (by omega)]
              exact ih
        · have o1 : lvO ((List.replicate 3 obj0).set 0 ((2, 1, t, [], pubK S1 t), ([], S1, []), 0)) (((List.replicate 3 obj0).set 0 ((2, 1, t, [], pubK S1 t), ([], S1, []), 0)).set 1 ((2, 1, t, [], pubK S1 t), ([], S1, []), 0)) true i = (((List.replicate 3 obj0).set 0 ((2, 1, t, [], pubK S1 t), ([], S1, []), 0)).set 1 ((2, 1, t, [], pubK S1 t), ([], S1, []), 0)) := by rw [lvO, if_pos ⟨rfl, by omega⟩]
          have o2 : lvO ((List.replicate 3 obj0).set 0 ((2, 1, t, [], pubK S1 t), ([], S1, []), 0)) (((List.replicate 3 obj0).set 0 ((2, 1, t, [], pubK S1 t), ([], S1, []), 0)).set 1 ((2, 1, t, [], pubK S1 t), ([], S1, []), 0)) true (i + 1) = (((List.replicate 3 obj0).set 0 ((2, 1, t, [], pubK S1 t), ([], S1, []), 0)).set 1 ((2, 1, t, [], pubK S1 t), ([], S1, []), 0)) := by rw [lvO, if_pos ⟨rfl, by omega⟩]
          rw [o1]
          rw [o2] at ih
          have ih := ih r1 r2 r3 r4
          have hi1 : (i : Int) ≠ 1 := by omega
          by_cases hlt : i < W
          · exact absurd hlt (by omega)
          · obtain ⟨hus, hK⟩ := lvK_ge (U := pubK S1 t) (i := i) hW (by omega) (by omega)
            rw [hK] at ih
            have hq := ev_lv_same ac t S1 W i rb _ (by omega) hrb (.inr rfl) hS1
            generalize lvK (pubK S1 t) W i = K1 at *
            refine imp2 (fun R ih => ?_) ih
            · rw [Y_go]; conv => lhs; whnf
              rw [ilt_t (by (simp only [sha256_len, fr1_len, fr2_len, fr3_len, nameB_l32, wkey_32, uintB_l2, uintB_l1, uintB_l8, blobB_l, bankJ_len, LL] at * <;> omega))]
              conv => lhs; whnf
              rw [hg]; conv => lhs; whnf
              rw [ilt_f (by (simp only [sha256_len, fr1_len, fr2_len, fr3_len, nameB_l32, wkey_32, uintB_l2, uintB_l1, uintB_l8, blobB_l, bankJ_len, LL] at * <;> omega))]
              conv => lhs; whnf
              rw [hir]
              rw [ieq_f (by omega)]
              conv => lhs; whnf
              rw [ieq_t (by omega)]
              conv => lhs; whnf
              rw [ieq_f (by omega)]
              conv => lhs; whnf
              rw [Y_go]; conv => lhs; whnf
              dsimp -iota -beta -eta -zeta only
              rw [hg]; conv => lhs; whnf
              dsimp -iota -beta -eta -zeta only
              rw [toReq_call]
              rw [ev_on21 _ _ _ (by omega)]
              conv => lhs; whnf
              dsimp -iota -beta -eta -zeta only
              rw [toReq_call]
              rw [ev_osign_e _ _ _ _ _ _ _ _ _ _ _ _ _ _ _ _ _ _ _ _ _ _ _ _ _ _ _ _ _ _ _ _ _ _ _ _ _ _ _ _ _ _ _ _ _ _ (by simp) (by simp) (by simp) hx3 rfl hand (by omega) (by omega) (by rcases ht with rfl | rfl <;> omega) (fun x hx => (hkm.2 x hx).1) (by rw [hus]; show (26 : Int) ≠ 0; decide), hus]
              conv => lhs; whnf
              dsimp -iota -beta -eta -zeta only
              rw [drw (by kernel_rfl)]; conv => lhs; whnf
              rw [hp]
              rw [ile_t (by omega)]
              conv => lhs; whnf
              rw [ine_f (by omega)]
              conv => lhs; whnf
              dsimp -iota -beta -eta -zeta only
              rw [toReq_call]
              rw [hq]
              conv => lhs; whnf
              rw [bnot_eq]; conv => lhs; whnf
              rw [Y_go]; conv => lhs; whnf
              dsimp -iota -beta -eta -zeta only
              rw [iadd_eq (by omega)]
              exact ih
      · have o2 := lvO_same (ob1 := ((List.replicate 3 obj0).set 0 ((2, 1, t, [], pubK S1 t), ([], S1, []), 0))) (ob2 := (((List.replicate 3 obj0).set 0 ((2, 1, t, [], pubK S1 t), ([], S1, []), 0)).set 1 ((2, 1, t, [], pubK S1 t), ([], S1, []), 0))) (again := again) (i := i) (fun q => hb ⟨q.1, by omega⟩)
        rw [o2] at ih
        have ih := ih r1 r2 r3 r4
        have hxO : slotAt (lvO ((List.replicate 3 obj0).set 0 ((2, 1, t, [], pubK S1 t), ([], S1, []), 0)) (((List.replicate 3 obj0).set 0 ((2, 1, t, [], pubK S1 t), ([], S1, []), 0)).set 1 ((2, 1, t, [], pubK S1 t), ([], S1, []), 0)) again i) (512 + 0) = some ((2, 1, t, [], pubK S1 t), ([], S1, []), 0) := by unfold lvO; split <;> rfl
        have hlO : (lvO ((List.replicate 3 obj0).set 0 ((2, 1, t, [], pubK S1 t), ([], S1, []), 0)) (((List.replicate 3 obj0).set 0 ((2, 1, t, [], pubK S1 t), ([], S1, []), 0)).set 1 ((2, 1, t, [], pubK S1 t), ([], S1, []), 0)) again i).length ≤ 1000 := by unfold lvO; split <;> simp
        have hob : lvO ((List.replicate 3 obj0).set 0 ((2, 1, t, [], pubK S1 t), ([], S1, []), 0)) (((List.replicate 3 obj0).set 0 ((2, 1, t, [], pubK S1 t), ([], S1, []), 0)).set 1 ((2, 1, t, [], pubK S1 t), ([], S1, []), 0)) again i = ((List.replicate 3 obj0).set 0 ((2, 1, t, [], pubK S1 t), ([], S1, []), 0)) ∨ lvO ((List.replicate 3 obj0).set 0 ((2, 1, t, [], pubK S1 t), ([], S1, []), 0)) (((List.replicate 3 obj0).set 0 ((2, 1, t, [], pubK S1 t), ([], S1, []), 0)).set 1 ((2, 1, t, [], pubK S1 t), ([], S1, []), 0)) again i = (((List.replicate 3 obj0).set 0 ((2, 1, t, [], pubK S1 t), ([], S1, []), 0)).set 1 ((2, 1, t, [], pubK S1 t), ([], S1, []), 0)) := by unfold lvO; split; exact .inr rfl; exact .inl rfl
        have hq := ev_lv_same ac t S1 W i rb _ (by omega) hrb hob hS1
        generalize lvO ((List.replicate 3 obj0).set 0 ((2, 1, t, [], pubK S1 t), ([], S1, []), 0)) (((List.replicate 3 obj0).set 0 ((2, 1, t, [], pubK S1 t), ([], S1, []), 0)).set 1 ((2, 1, t, [], pubK S1 t), ([], S1, []), 0)) again i = O at *
        by_cases hlt : i < W
        · have hus := lvK_lt (U := pubK S1 t) hW hlt
          have hv := sig_trip (seed := S1) (m := m) (h := t) (leaf := (i : Int)) (by rcases ht with rfl | rfl <;> omega) (by rw [hW]; omega)
          generalize lvK (pubK S1 t) W (i + 1) = K2 at *
          generalize lvK (pubK S1 t) W i = K1 at *
          refine imp2 (fun R ih => ?_) ih
          · cases again with
            | true =>
              have hodd : ((i % 2 : Nat) : Int) ≠ 1 := fun q => hb ⟨rfl, by omega⟩
              rw [Y_go]; conv => lhs; whnf
              rw [ilt_t (by (simp only [sha256_len, fr1_len, fr2_len, fr3_len, nameB_l32, wkey_32, uintB_l2, uintB_l1, uintB_l8, blobB_l, bankJ_len, LL] at * <;> omega))]
              conv => lhs; whnf
              rw [hg]; conv => lhs; whnf
              rw [ilt_f (by (simp only [sha256_len, fr1_len, fr2_len, fr3_len, nameB_l32, wkey_32, uintB_l2, uintB_l1, uintB_l8, blobB_l, bankJ_len, LL] at * <;> omega))]
              conv => lhs; whnf
              rw [hir]
              rw [ieq_f (by omega)]
              conv => lhs; whnf
              rw [ieq_f (by omega)]
              conv => lhs; whnf
              rw [Y_go]; conv => lhs; whnf
              dsimp -iota -beta -eta -zeta only
              rw [hg]; conv => lhs; whnf
              dsimp -iota -beta -eta -zeta only
              rw [toReq_call]
              rw [ev_on21 _ _ _ (by omega)]
              conv => lhs; whnf
              dsimp -iota -beta -eta -zeta only
              rw [toReq_call]
              rw [ev_osign_ok _ _ _ _ _ _ _ _ _ _ _ _ _ _ _ _ _ _ _ _ _ _ _ _ _ _ _ _ _ _ _ _ _ _ _ _ _ _ _ _ _ _ _ _ _ _ hlO (by simp) (by simp) hxO rfl hand (by omega) (by omega) (by rcases ht with rfl | rfl <;> omega) (fun x hx => (hkm.2 x hx).1) (by omega) (by rw [hus]), hus]
              conv => lhs; whnf
              dsimp -iota -beta -eta -zeta only
              rw [drw (by kernel_rfl)]; conv => lhs; whnf
              rw [hp]
              rw [ile_f (by omega)]
              conv => lhs; whnf
              rw [ine_f (by omega)]
              conv => lhs; whnf
              rw [ine_f (by (simp only [sha256_len, fr1_len, fr2_len, fr3_len, nameB_l32, wkey_32, uintB_l2, uintB_l1, uintB_l8, blobB_l, bankJ_len, LL] at * <;> omega))]
              conv => lhs; whnf
              rw [hg]; conv => lhs; whnf
              rw [lg0]; conv => lhs; whnf
              dsimp -iota -beta -eta -zeta only
              rw [toReq_call]
              rw [ev_rsver _ _ _ (by omega), hv]
              conv => lhs; whnf
              dsimp -iota -beta -eta -zeta only
              rw [drw (by kernel_rfl)]; conv => lhs; whnf
              rw [bnot_eq]; conv => lhs; whnf
              rw [ine_f (by omega)]
              conv => lhs; whnf
              rw [Y_go]; conv => lhs; whnf
              dsimp -iota -beta -eta -zeta only
              rw [iadd_eq (by omega)]
              exact ih
            | false =>
              rw [Y_go]; conv => lhs; whnf
              rw [ilt_t (by (simp only [sha256_len, fr1_len, fr2_len, fr3_len, nameB_l32, wkey_32, uintB_l2, uintB_l1, uintB_l8, blobB_l, bankJ_len, LL] at * <;> omega))]
              conv => lhs; whnf
              rw [hg]; conv => lhs; whnf
              rw [ilt_f (by (simp only [sha256_len, fr1_len, fr2_len, fr3_len, nameB_l32, wkey_32, uintB_l2, uintB_l1, uintB_l8, blobB_l, bankJ_len, LL] at * <;> omega))]
              conv => lhs; whnf
              rw [Y_go]; conv => lhs; whnf
              dsimp -iota -beta -eta -zeta only
              rw [hg]; conv => lhs; whnf
              dsimp -iota -beta -eta -zeta only
              rw [toReq_call]
              rw [ev_on21 _ _ _ (by omega)]
              conv => lhs; whnf
              dsimp -iota -beta -eta -zeta only
              rw [toReq_call]
              rw [ev_osign_ok _ _ _ _ _ _ _ _ _ _ _ _ _ _ _ _ _ _ _ _ _ _ _ _ _ _ _ _ _ _ _ _ _ _ _ _ _ _ _ _ _ _ _ _ _ _ hlO (by simp) (by simp) hxO rfl hand (by omega) (by omega) (by rcases ht with rfl | rfl <;> omega) (fun x hx => (hkm.2 x hx).1) (by omega) (by rw [hus]), hus]
              conv => lhs; whnf
              dsimp -iota -beta -eta -zeta only
              rw [drw (by kernel_rfl)]; conv => lhs; whnf
              rw [hp]
              rw [ile_f (by omega)]
              conv => lhs; whnf
              rw [ine_f (by omega)]
              conv => lhs; whnf
              rw [ine_f (by (simp only [sha256_len, fr1_len, fr2_len, fr3_len, nameB_l32, wkey_32, uintB_l2, uintB_l1, uintB_l8, blobB_l, bankJ_len, LL] at * <;> omega))]
              conv => lhs; whnf
              rw [hg]; conv => lhs; whnf
              rw [lg0]; conv => lhs; whnf
              dsimp -iota -beta -eta -zeta only
              rw [toReq_call]
              rw [ev_rsver _ _ _ (by omega), hv]
              conv => lhs; whnf
              dsimp -iota -beta -eta -zeta only
              rw [drw (by kernel_rfl)]; conv => lhs; whnf
              rw [bnot_eq]; conv => lhs; whnf
              rw [ine_f (by omega)]
              conv => lhs; whnf
              rw [Y_go]; conv => lhs; whnf
              dsimp -iota -beta -eta -zeta only
              rw [iadd_eq (by omega)]
              exact ih
        · obtain ⟨hus, hK⟩ := lvK_ge (U := pubK S1 t) (i := i) hW (by omega) (by omega)
          rw [hK] at ih
          generalize lvK (pubK S1 t) W i = K1 at *
          refine imp2 (fun R ih => ?_) ih
          · cases again with
            | true =>
              have hodd : ((i % 2 : Nat) : Int) ≠ 1 := fun q => hb ⟨rfl, by omega⟩
              rw [Y_go]; conv => lhs; whnf
              rw [ilt_t (by (simp only [sha256_len, fr1_len, fr2_len, fr3_len, nameB_l32, wkey_32, uintB_l2, uintB_l1, uintB_l8, blobB_l, bankJ_len, LL] at * <;> omega))]
              conv => lhs; whnf
              rw [hg]; conv => lhs; whnf
              rw [ilt_f (by (simp only [sha256_len, fr1_len, fr2_len, fr3_len, nameB_l32, wkey_32, uintB_l2, uintB_l1, uintB_l8, blobB_l, bankJ_len, LL] at * <;> omega))]
              conv => lhs; whnf
              rw [hir]
              rw [ieq_f (by omega)]
              conv => lhs; whnf
              rw [ieq_f (by omega)]
              conv => lhs; whnf
              rw [Y_go]; conv => lhs; whnf
              dsimp -iota -beta -eta -zeta only
              rw [hg]; conv => lhs; whnf
              dsimp -iota -beta -eta -zeta only
              rw [toReq_call]
              rw [ev_on21 _ _ _ (by omega)]
              conv => lhs; whnf
              dsimp -iota -beta -eta -zeta only
              rw [toReq_call]
              rw [ev_osign_e _ _ _ _ _ _ _ _ _ _ _ _ _ _ _ _ _ _ _ _ _ _ _ _ _ _ _ _ _ _ _ _ _ _ _ _ _ _ _ _ _ _ _ _ _ _ hlO (by simp) (by simp) hxO rfl hand (by omega) (by omega) (by rcases ht with rfl | rfl <;> omega) (fun x hx => (hkm.2 x hx).1) (by rw [hus]; show (26 : Int) ≠ 0; decide), hus]
              conv => lhs; whnf
              dsimp -iota -beta -eta -zeta only
              rw [drw (by kernel_rfl)]; conv => lhs; whnf
              rw [hp]
              rw [ile_t (by omega)]
              conv => lhs; whnf
              rw [ine_f (by omega)]
              conv => lhs; whnf
              dsimp -iota -beta -eta -zeta only
              rw [toReq_call]
              rw [hq]
              conv => lhs; whnf
              rw [bnot_eq]; conv => lhs; whnf
              rw [Y_go]; conv => lhs; whnf
              dsimp -iota -beta -eta -zeta only
              rw [iadd_eq (by omega)]
              exact ih
            | false =>
              rw [Y_go]; conv => lhs; whnf
              rw [ilt_t (by (simp only [sha256_len, fr1_len, fr2_len, fr3_len, nameB_l32, wkey_32, uintB_l2, uintB_l1, uintB_l8, blobB_l, bankJ_len, LL] at * <;> omega))]
              conv => lhs; whnf
              rw [hg]; conv => lhs; whnf
              rw [ilt_f (by (simp only [sha256_len, fr1_len, fr2_len, fr3_len, nameB_l32, wkey_32, uintB_l2, uintB_l1, uintB_l8, blobB_l, bankJ_len, LL] at * <;> omega))]
              conv => lhs; whnf
              rw [Y_go]; conv => lhs; whnf
              dsimp -iota -beta -eta -zeta only
              rw [hg]; conv => lhs; whnf
              dsimp -iota -beta -eta -zeta only
              rw [toReq_call]
              rw [ev_on21 _ _ _ (by omega)]
              conv => lhs; whnf
              dsimp -iota -beta -eta -zeta only
              rw [toReq_call]
              rw [ev_osign_e _ _ _ _ _ _ _ _ _ _ _ _ _ _ _ _ _ _ _ _ _ _ _ _ _ _ _ _ _ _ _ _ _ _ _ _ _ _ _ _ _ _ _ _ _ _ hlO (by simp) (by simp) hxO rfl hand (by omega) (by omega) (by rcases ht with rfl | rfl <;> omega) (fun x hx => (hkm.2 x hx).1) (by rw [hus]; show (26 : Int) ≠ 0; decide), hus]
              conv => lhs; whnf
              dsimp -iota -beta -eta -zeta only
              rw [drw (by kernel_rfl)]; conv => lhs; whnf
              rw [hp]
              rw [ile_t (by omega)]
              conv => lhs; whnf
              rw [ine_f (by omega)]
              conv => lhs; whnf
              dsimp -iota -beta -eta -zeta only
              rw [toReq_call]
              rw [hq]
              conv => lhs; whnf
              rw [bnot_eq]; conv => lhs; whnf
              rw [Y_go]; conv => lhs; whnf
              dsimp -iota -beta -eta -zeta only
              rw [iadd_eq (by omega)]
              exact ih
    · right
      rw [Y_go]; conv => lhs; whnf
      rw [ilt_t (by (simp only [sha256_len, fr1_len, fr2_len, fr3_len, nameB_l32, wkey_32, uintB_l2, uintB_l1, uintB_l8, blobB_l, bankJ_len, LL] at * <;> omega))]
      conv => lhs; whnf
      rw [hg]; conv => lhs; whnf
      rw [ilt_t (by (simp only [sha256_len, fr1_len, fr2_len, fr3_len, nameB_l32, wkey_32, uintB_l2, uintB_l1, uintB_l8, blobB_l, bankJ_len, LL] at * <;> omega))]
      conv => lhs; whnf
end Go.Proofs.YtfjcmolccckhhaaGreatDoor

namespace Go.Ax
open Go.Eng
theorem newRB_ok (a : Int) : (newRB a).length ≤ 2 ∧ (∀ b ∈ newRB a, b.length ≤ 4294967296) ∧ ∀ b ∈ newRB a, ∀ l ∈ b, l.length ≤ 4294967296 := by
  have hb : ∀ n, n ≤ 100 → (bankB n).length ≤ 4294967296 ∧ ∀ l ∈ bankB n, l.length ≤ 4294967296 := by
    intro n hn
    refine ⟨by rw [bankB, bankJ_len]; omega, fun l hl => ?_⟩
    simp only [bankB, bankJ, List.mem_map] at hl
    obtain ⟨i, _, rfl⟩ := hl
    rw [List.length_replicate]; omega
  unfold newRB
  split
  · simp
  · refine ⟨by simp, fun b h => ?_, fun b h => ?_⟩
    · simp only [List.mem_cons, List.not_mem_nil, or_false] at h
      rcases h with rfl | rfl <;> split <;> first | exact (hb _ (by omega)).1 | simp
    · simp only [List.mem_cons, List.not_mem_nil, or_false] at h
      rcases h with rfl | rfl <;> split <;> first | exact (hb _ (by omega)).2 | simp
theorem uniB_2 (t : Int) (S : List UInt8) : uniB 2 t ⟨[], S, []⟩ = pubK S t := by rw [uniB, if_pos rfl]
end Go.Ax
namespace Go.Proofs.YtfjcmolccckhhaaGreatDoor
open Go Go.Ax Go.Eng
set_option linter.unusedVariables false
set_option linter.unusedSimpArgs false
attribute [local irreducible] iadd isub imul iquo irem ibit ineg ieq ine ilt ile ishl ishr beq' bnot and' seq' u8op u8rem u32op u64op u8shr u8shl u64shr u64shl u32shr u32shl i64w u8i u64i iu8 iu32 iu64 u8u64 u64u8 u32u8 u64cmp u8cmp u32cmp llen lget linb lset lcut lrep lapp lcpy lemp fits fitn ieqs sealed drawChk fpSame
attribute [local irreducible] derB seedB makeP nameB encP uniB frameB primS primR privB openS decP uintB putO sigK verK
set_option maxHeartbeats 4000000
set_option maxRecDepth 100000
theorem ev_ObjectLeaves (ac : Int) (x : UInt8) (ms : List (List UInt8)) (again : Bool) : Y E0 (.call 4 [.i ac, .u8 x, .sl (.sl .u8) ms, .b again] []) = some (.ret (.b true) []) := by
  obtain ⟨t, ht, ht2⟩ := low1 x
  by_cases hg : ms.length ≤ 5
  · have hk : chkP ⟨2, 1, t, [], List.replicate (uniq 2).toNat 0⟩ = 0 := by rcases ht2 with rfl | rfl <;> decide
    obtain ⟨S1, hSa, hS1, hp⟩ := prim_ex (sd := seedsE ent0) (ob := List.replicate 3 obj0) (h := 0) (k := 2) (a := 1) (t := t) (o := []) (auth := []) (d := []) (by decide) (by decide) hk (by simp) (by simp) (by simp)
    have hU : ∀ S, uniB 2 t ⟨[], S, []⟩ = pubK S t := fun S => uniB_2 _ _
    rw [show freeAt (List.replicate 3 obj0) = 0 from rfl, hU, show (512 : Int) + ((0 : Nat) : Int) = 512 from rfl] at hp
    obtain ⟨S2, hSb, -, hp2⟩ := prim_ex (sd := seedsE ent0) (ob := (List.replicate 3 obj0).set 0 ((2, 1, t, [], pubK S1 t), ([], S1, []), 0)) (h := 0) (k := 2) (a := 1) (t := t) (o := []) (auth := []) (d := []) (by decide) (by show 1 < 3; decide) hk (by simp) (by simp) (by simp)
    obtain rfl : S2 = S1 := hSb.trans hSa.symm
    clear hSa hSb
    rw [show freeAt ((List.replicate 3 obj0).set 0 ((2, 1, t, [], pubK S2 t), ([], S2, []), 0)) = 1 from rfl, hU, show (512 : Int) + ((1 : Nat) : Int) = 513 from rfl] at hp2
    generalize encP ⟨2, 1, t, [], pubK S2 t⟩ = E1 at hp hp2
    generalize nameB ⟨2, 1, t, [], pubK S2 t⟩ = N1 at hp hp2
    obtain ⟨W, hW⟩ : ∃ W : Nat, (2 : Int) ^ t.toNat = W := ⟨2 ^ t.toNat, by rcases ht2 with rfl | rfl <;> rfl⟩
    have hl := ev_lv_loop (ac % 4) t S2 W (newRB (ac % 4)) again ms hg ht2 hS1 hW (newRB_ok _) E1 N1 hp2 ms.length 0 0 [512] [E1, N1] [] (by omega)
    rw [show ((0 : Nat) : Int) = 0 from rfl, show lvK (pubK S2 t) W 0 = [] from rfl, show lvO ((List.replicate 3 obj0).set 0 ((2, 1, t, [], pubK S2 t), ([], S2, []), 0)) (((List.replicate 3 obj0).set 0 ((2, 1, t, [], pubK S2 t), ([], S2, []), 0)).set 1 ((2, 1, t, [], pubK S2 t), ([], S2, []), 0)) again 0 = (List.replicate 3 obj0).set 0 ((2, 1, t, [], pubK S2 t), ([], S2, []), 0) from if_neg (by omega)] at hl
    have hl3 : ((List.replicate 3 obj0).set 0 ((2, 1, t, [], pubK S2 t), ([], S2, []), 0)).length = 3 := by simp
    have hg0 : lget ((List.replicate 3 obj0).set 0 ((2, 1, t, [], pubK S2 t), ([], S2, []), 0)) 0 = some ((2, 1, t, [], pubK S2 t), ([], S2, []), 0) := by rw [lget_d]; rfl
    rcases hl with hl | hl
    · rw [Y_go]; conv => lhs; whnf
      dsimp -iota -beta -eta -zeta only
      rw [toReq_call]
      rw [ev_awake21]
      conv => lhs; whnf
      rw [bnot_eq]; conv => lhs; whnf
      rw [ilt_f (by (simp only [sha256_len, fr1_len, fr2_len, fr3_len, nameB_l32, wkey_32, uintB_l2, uintB_l1, uintB_l8, blobB_l, bankJ_len, LL] at * <;> omega))]
      conv => lhs; whnf
      dsimp -iota -beta -eta -zeta only
      rw [ht]
      rw [toReq_call]
      rw [ev_state0]
      conv => lhs; whnf
      dsimp -iota -beta -eta -zeta only
      rw [toReq_call]
      rw [ev_p21 _ _ _ _ _ _ _]
      conv => lhs; whnf
      dsimp -iota -beta -eta -zeta only
      rw [toReq_call]
      rw [ev_oprim _ _ _ _ _ _ _ _ _ _ _ _ _ _ _ _ _ _ _ _ _ _ _ _ _ _ _ _ _ _ _ _ _ _ _ _ _ _ _ _ (by simp) (by decide) (seedsE_le _) (by simp) (by simp) (by simp), hp]
      conv => lhs; whnf
      dsimp -iota -beta -eta -zeta only
      rw [ine_f (by omega)]
      conv => lhs; whnf
      rw [ine_f (by (simp only [sha256_len, fr1_len, fr2_len, fr3_len, nameB_l32, wkey_32, uintB_l2, uintB_l1, uintB_l8, blobB_l, bankJ_len, LL] at * <;> omega))]
      conv => lhs; whnf
      rw [ine_f (by rw [llen_eq, hl3]; rfl)]; conv => lhs; whnf
      rw [hg0]; conv => lhs; whnf
      dsimp -iota -beta -eta -zeta only
      rw [Y_go]; conv => lhs; whnf
      dsimp -iota -beta -eta -zeta only
      rw [toReq_loop]
      rw [hl]
      conv => lhs; whnf
    · rw [Y_go]; conv => lhs; whnf
      dsimp -iota -beta -eta -zeta only
      rw [toReq_call]
      rw [ev_awake21]
      conv => lhs; whnf
      rw [bnot_eq]; conv => lhs; whnf
      rw [ilt_f (by (simp only [sha256_len, fr1_len, fr2_len, fr3_len, nameB_l32, wkey_32, uintB_l2, uintB_l1, uintB_l8, blobB_l, bankJ_len, LL] at * <;> omega))]
      conv => lhs; whnf
      dsimp -iota -beta -eta -zeta only
      rw [ht]
      rw [toReq_call]
      rw [ev_state0]
      conv => lhs; whnf
      dsimp -iota -beta -eta -zeta only
      rw [toReq_call]
      rw [ev_p21 _ _ _ _ _ _ _]
      conv => lhs; whnf
      dsimp -iota -beta -eta -zeta only
      rw [toReq_call]
      rw [ev_oprim _ _ _ _ _ _ _ _ _ _ _ _ _ _ _ _ _ _ _ _ _ _ _ _ _ _ _ _ _ _ _ _ _ _ _ _ _ _ _ _ (by simp) (by decide) (seedsE_le _) (by simp) (by simp) (by simp), hp]
      conv => lhs; whnf
      dsimp -iota -beta -eta -zeta only
      rw [ine_f (by omega)]
      conv => lhs; whnf
      rw [ine_f (by (simp only [sha256_len, fr1_len, fr2_len, fr3_len, nameB_l32, wkey_32, uintB_l2, uintB_l1, uintB_l8, blobB_l, bankJ_len, LL] at * <;> omega))]
      conv => lhs; whnf
      rw [ine_f (by rw [llen_eq, hl3]; rfl)]; conv => lhs; whnf
      rw [hg0]; conv => lhs; whnf
      dsimp -iota -beta -eta -zeta only
      rw [Y_go]; conv => lhs; whnf
      dsimp -iota -beta -eta -zeta only
      rw [toReq_loop]
      rw [hl]
      conv => lhs; whnf
  · rw [Y_go]; conv => lhs; whnf
    dsimp -iota -beta -eta -zeta only
    rw [toReq_call]
    rw [ev_awake21]
    conv => lhs; whnf
    rw [bnot_eq]; conv => lhs; whnf
    rw [ilt_t (by (simp only [sha256_len, fr1_len, fr2_len, fr3_len, nameB_l32, wkey_32, uintB_l2, uintB_l1, uintB_l8, blobB_l, bankJ_len, LL] at * <;> omega))]
    conv => lhs; whnf
end Go.Proofs.YtfjcmolccckhhaaGreatDoor
