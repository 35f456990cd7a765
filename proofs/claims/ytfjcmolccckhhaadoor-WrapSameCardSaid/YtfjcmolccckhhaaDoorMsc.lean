/-
  Own texts, laid together for this claim: contracts of functions of the program and its references, used by the statements of this seat.
-/
import Derived.Test.YtfjcmolccckhhaaDoorMsb
set_option linter.all false

namespace Go.Proofs.YtfjcmolccckhhaaDoor
open Go Go.Ax Go.Eng
set_option linter.unusedVariables false
set_option linter.unusedSimpArgs false
attribute [local irreducible] iadd isub imul iquo irem ibit ineg ieq ine ilt ile ishl ishr beq' bnot and' seq' u8op u8rem u32op u64op u8shr u8shl u64shr u64shl u32shr u32shl i64w u8i u64i iu8 iu32 iu64 u8u64 u64u8 u32u8 u64cmp u8cmp u32cmp llen lget linb lset lcut lrep lapp lcpy lemp fits fitn ieqs sealed drawChk fpSame
attribute [local irreducible] pubK sigK verK chkP nameB uniB wkey openB sealB encP
set_option maxHeartbeats 4000000
set_option maxRecDepth 100000
theorem ev_wunique (k h : Int) (a s d : List UInt8) (ha : a.length ≤ 100000) (hs : s.length ≤ 100000) (hd : d.length ≤ 100000) : Y E0 (.call 60 [.i k, .i h, .agg [.sl .u8 a, .sl .u8 s, .sl .u8 d]] []) = some (.ret (.sl .u8 (uniB k h ⟨a, s, d⟩)) []) := by
  rw [Y_go]; conv => lhs; whnf
  rcases Bool.eq_false_or_eq_true (ieq k 2) with hc0 | hc0
  · rw [hc0]; replace hc0 := of_ieq_t hc0; try simp only [llen_eq] at hc0
    subst hc0
    conv => lhs; whnf
    dsimp -iota -beta -eta -zeta only
    rw [toReq_call]
    rw [ev_spub _ _ (by omega)]
    conv => lhs; whnf
    (unfold uniB; (repeat (first | rw [if_pos (by omega)] | rw [if_neg (by omega)])); try rfl)
  · rw [hc0]; replace hc0 := of_ieq_f hc0; try simp only [llen_eq] at hc0
    conv => lhs; whnf
    dsimp -iota -beta -eta -zeta only
    rw [toReq_call]
    rw [ev_dig_hash _ _ (by (simp only [sha256_len, fr1_len, fr2_len, fr3_len, nameB_l32, wkey_32, uintB_l2, uintB_l1, blobB_l, LL] at * <;> omega)) (by (simp only [sha256_len, fr1_len, fr2_len, fr3_len, nameB_l32, wkey_32, uintB_l2, uintB_l1, blobB_l, LL] at * <;> omega))]
    conv => lhs; whnf
    (unfold uniB; (repeat (first | rw [if_pos (by omega)] | rw [if_neg (by omega)])); try rfl)
theorem ev_r11unique (k h : Int) (a s d : List UInt8) (ha : a.length ≤ 100000) (hs : s.length ≤ 100000) (hd : d.length ≤ 100000) : Y E0 (.call 62 [.agg [.sl .u8 a, .sl .u8 s, .sl .u8 d], .i k, .i h] []) = some (.ret (.sl .u8 (uniB k h ⟨a, s, d⟩)) []) := by
  rw [Y_go]; conv => lhs; whnf
  rcases Bool.eq_false_or_eq_true (ieq k 2) with hc0 | hc0
  · rw [hc0]; replace hc0 := of_ieq_t hc0; try simp only [llen_eq] at hc0
    subst hc0
    conv => lhs; whnf
    dsimp -iota -beta -eta -zeta only
    rw [toReq_call]
    rw [ev_rspub _ _ (by omega)]
    conv => lhs; whnf
    (unfold uniB; (repeat (first | rw [if_pos (by omega)] | rw [if_neg (by omega)])); try rfl)
  · rw [hc0]; replace hc0 := of_ieq_f hc0; try simp only [llen_eq] at hc0
    conv => lhs; whnf
    dsimp -iota -beta -eta -zeta only
    rw [toReq_call]
    rw [ev_ref_hash _ _ (by (simp only [sha256_len, fr1_len, fr2_len, fr3_len, nameB_l32, wkey_32, uintB_l2, uintB_l1, blobB_l, LL] at * <;> omega)) (by (simp only [sha256_len, fr1_len, fr2_len, fr3_len, nameB_l32, wkey_32, uintB_l2, uintB_l1, blobB_l, LL] at * <;> omega))]
    conv => lhs; whnf
    (unfold uniB; (repeat (first | rw [if_pos (by omega)] | rw [if_neg (by omega)])); try rfl)
theorem ev_wfail (e : Int) : Y E0 (.call 57 [.i e] []) = some (.ret (.tup [.agg (pubX pub0), .agg (senX sen0), .i e]) []) := by
  rw [Y_go]; conv => lhs; whnf
  dsimp -iota -beta -eta -zeta only
  rfl
theorem ev_r11same (a s d a' s' d' : List UInt8) (ha : a.length ≤ 100000) (hs : s.length ≤ 100000) (hd : d.length ≤ 100000) : Y E0 (.call 27 [.agg [.sl .u8 a, .sl .u8 s, .sl .u8 d], .agg [.sl .u8 a', .sl .u8 s', .sl .u8 d']] []) = some (.ret (.b (sameS ⟨a, s, d⟩ ⟨a', s', d'⟩)) []) := by
  rw [Y_go]; conv => lhs; whnf
  dsimp -iota -beta -eta -zeta only
  rw [toReq_call]
  rw [ev_same _ _ (by omega)]
  conv => lhs; whnf
  rcases Bool.eq_false_or_eq_true (decide (a = a')) with hc0 | hc0
  · rw [hc0]; replace hc0 := of_decide_eq_true hc0; try simp only at hc0
    conv => lhs; whnf
    dsimp -iota -beta -eta -zeta only
    rw [toReq_call]
    rw [ev_same _ _ (by omega)]
    conv => lhs; whnf
    rcases Bool.eq_false_or_eq_true (decide (s = s')) with hc1 | hc1
    · rw [hc1]; replace hc1 := of_decide_eq_true hc1; try simp only at hc1
      conv => lhs; whnf
      dsimp -iota -beta -eta -zeta only
      rw [toReq_call]
      rw [ev_same _ _ (by omega)]
      conv => lhs; whnf
      simp_all [sameS]
    · rw [hc1]; replace hc1 := of_decide_eq_false hc1; try simp only at hc1
      conv => lhs; whnf
      simp_all [sameS]
  · rw [hc0]; replace hc0 := of_decide_eq_false hc0; try simp only at hc0
    conv => lhs; whnf
    simp_all [sameS]
theorem ev_wmake (secret : List UInt8) (k a h : Int) (o u auth data : List UInt8) (hs : secret.length ≤ 100000) : Y E0 (.call 24 [.sl .u8 secret, .agg [.i k, .i a, .i h, .sl .u8 o, .sl .u8 u], .sl .u8 auth, .sl .u8 data] []) = some (.ret (.tup [.agg (pubX (makeP secret ⟨k, a, h, o, u⟩ auth data).1), .agg (senX (makeP secret ⟨k, a, h, o, u⟩ auth data).2.1), .i (makeP secret ⟨k, a, h, o, u⟩ auth data).2.2]) []) := by
  have hu := uniq_bd k
  have hd := derB_len (key := secret) (label := seedL) (ctx := []) (n := 32) (by omega)
  have hE : lrep (uniq k) (0 : UInt8) = List.replicate (uniq k).toNat 0 := by rw [lrep_eq]
  by_cases hk : k = 2
  · subst hk
    have hr : lrep 17 (0 : UInt8) = List.replicate (uniq 2).toNat 0 := by rw [lrep_eq]; rfl
    rw [Y_go]; conv => lhs; whnf
    rw [fitn_t (by omega)]
    conv => lhs; whnf
    rw [ieq_t (by omega)]
    conv => lhs; whnf
    rw [ieq_t (by omega)]
    conv => lhs; whnf
    rw [hr]
    rw [fitn_t (by omega)]
    conv => lhs; whnf
    rw [ieq_t (by omega)]
    conv => lhs; whnf
    rw [Y_go]; conv => lhs; whnf
    dsimp -iota -beta -eta -zeta only
    rw [toReq_call]
    rw [ev_acheck _ _ _ _ _]
    conv => lhs; whnf
    rcases Bool.eq_false_or_eq_true (ine (chkP { kind := 2, attr := a, height := h, policy := o, unique := List.replicate (uniq 2).toNat 0 }) 0) with hc0 | hc0
    · rw [hc0]; replace hc0 := of_ine_t hc0; try simp only [llen_eq] at hc0
      conv => lhs; whnf
      dsimp -iota -beta -eta -zeta only
      rw [toReq_call]
      rw [ev_wfail _]
      conv => lhs; whnf
      dsimp -iota -beta -eta -zeta only
      (unfold makeP; dsimp only; (repeat (first | rw [if_pos (by first | assumption | omega)] | rw [if_neg (by first | assumption | omega)])); try rfl)
    · rw [hc0]; replace hc0 := of_ine_f hc0; try simp only [llen_eq] at hc0
      conv => lhs; whnf
      rcases Bool.eq_false_or_eq_true (ilt 32 (llen auth)) with hc1 | hc1
      · rw [hc1]; replace hc1 := of_ilt_t hc1; try simp only [llen_eq] at hc1
        conv => lhs; whnf
        dsimp -iota -beta -eta -zeta only
        rw [toReq_call]
        rw [ev_wfail _]
        conv => lhs; whnf
        dsimp -iota -beta -eta -zeta only
        (unfold makeP; dsimp only; (repeat (first | rw [if_pos (by first | assumption | omega)] | rw [if_neg (by first | assumption | omega)])); try rfl)
      · rw [hc1]; replace hc1 := of_ilt_f hc1; try simp only [llen_eq] at hc1
        conv => lhs; whnf
        rcases Bool.eq_false_or_eq_true (ilt 128 (llen data)) with hc2 | hc2
        · rw [hc2]; replace hc2 := of_ilt_t hc2; try simp only [llen_eq] at hc2
          conv => lhs; whnf
          dsimp -iota -beta -eta -zeta only
          rw [toReq_call]
          rw [ev_wfail _]
          conv => lhs; whnf
          dsimp -iota -beta -eta -zeta only
          (unfold makeP; dsimp only; (repeat (first | rw [if_pos (by first | assumption | omega)] | rw [if_neg (by first | assumption | omega)])); try rfl)
        · rw [hc2]; replace hc2 := of_ilt_f hc2; try simp only [llen_eq] at hc2
          conv => lhs; whnf
          rcases Bool.eq_false_or_eq_true (ilt 0 (llen data)) with hc3 | hc3
          · rw [hc3]; replace hc3 := of_ilt_t hc3; try simp only [llen_eq] at hc3
            conv => lhs; whnf
            rw [ine_t (by omega)]
            conv => lhs; whnf
            dsimp -iota -beta -eta -zeta only
            rw [toReq_call]
            rw [ev_wfail _]
            conv => lhs; whnf
            dsimp -iota -beta -eta -zeta only
            (unfold makeP; dsimp only; (repeat (first | rw [if_pos (by first | assumption | omega)] | rw [if_neg (by first | assumption | omega)])); try rfl)
          · rw [hc3]; replace hc3 := of_ilt_f hc3; try simp only [llen_eq] at hc3
            conv => lhs; whnf
            dsimp -iota -beta -eta -zeta only
            rw [toReq_call]
            rw [show strOf { data := #[115, 101, 101, 100] } = seedL from rfl, ev_derive _ _ _ _ (by omega) (by decide) (by simp)]
            conv => lhs; whnf
            dsimp -iota -beta -eta -zeta only
            rw [toReq_call]
            rw [ev_wunique _ _ _ _ _ (by omega) (by omega) (by omega)]
            conv => lhs; whnf
            dsimp -iota -beta -eta -zeta only
            rw [drw (by kernel_rfl)]; conv => lhs; whnf
            dsimp -iota -beta -eta -zeta only
            (unfold makeP; dsimp only; (repeat (first | rw [if_pos (by first | assumption | omega)] | rw [if_neg (by first | assumption | omega)])); try rfl)
  · have hr : lrep 32 (0 : UInt8) = List.replicate (uniq k).toNat 0 := by rw [lrep_eq, uniq, if_neg hk]
    rw [Y_go]; conv => lhs; whnf
    rw [hr]
    rw [fitn_t (by omega)]
    conv => lhs; whnf
    rw [ieq_t (by omega)]
    conv => lhs; whnf
    rw [ieq_f (by omega)]
    conv => lhs; whnf
    rw [Y_go]; conv => lhs; whnf
    dsimp -iota -beta -eta -zeta only
    rw [toReq_call]
    rw [ev_acheck _ _ _ _ _]
    conv => lhs; whnf
    rcases Bool.eq_false_or_eq_true (ine (chkP { kind := k, attr := a, height := h, policy := o, unique := List.replicate (uniq k).toNat 0 }) 0) with hc0 | hc0
    · rw [hc0]; replace hc0 := of_ine_t hc0; try simp only [llen_eq] at hc0
      conv => lhs; whnf
      dsimp -iota -beta -eta -zeta only
      rw [toReq_call]
      rw [ev_wfail _]
      conv => lhs; whnf
      dsimp -iota -beta -eta -zeta only
      (unfold makeP; dsimp only; (repeat (first | rw [if_pos (by first | assumption | omega)] | rw [if_neg (by first | assumption | omega)])); try rfl)
    · rw [hc0]; replace hc0 := of_ine_f hc0; try simp only [llen_eq] at hc0
      conv => lhs; whnf
      rcases Bool.eq_false_or_eq_true (ilt 32 (llen auth)) with hc1 | hc1
      · rw [hc1]; replace hc1 := of_ilt_t hc1; try simp only [llen_eq] at hc1
        conv => lhs; whnf
        dsimp -iota -beta -eta -zeta only
        rw [toReq_call]
        rw [ev_wfail _]
        conv => lhs; whnf
        dsimp -iota -beta -eta -zeta only
        (unfold makeP; dsimp only; (repeat (first | rw [if_pos (by first | assumption | omega)] | rw [if_neg (by first | assumption | omega)])); try rfl)
      · rw [hc1]; replace hc1 := of_ilt_f hc1; try simp only [llen_eq] at hc1
        conv => lhs; whnf
        rcases Bool.eq_false_or_eq_true (ilt 128 (llen data)) with hc2 | hc2
        · rw [hc2]; replace hc2 := of_ilt_t hc2; try simp only [llen_eq] at hc2
          conv => lhs; whnf
          dsimp -iota -beta -eta -zeta only
          rw [toReq_call]
          rw [ev_wfail _]
          conv => lhs; whnf
          dsimp -iota -beta -eta -zeta only
          (unfold makeP; dsimp only; (repeat (first | rw [if_pos (by first | assumption | omega)] | rw [if_neg (by first | assumption | omega)])); try rfl)
        · rw [hc2]; replace hc2 := of_ilt_f hc2; try simp only [llen_eq] at hc2
          conv => lhs; whnf
          rcases Bool.eq_false_or_eq_true (ilt 0 (llen data)) with hc3 | hc3
          · rw [hc3]; replace hc3 := of_ilt_t hc3; try simp only [llen_eq] at hc3
            conv => lhs; whnf
            rcases Bool.eq_false_or_eq_true (ine k 3) with hc4 | hc4
            · rw [hc4]; replace hc4 := of_ine_t hc4; try simp only [llen_eq] at hc4
              conv => lhs; whnf
              dsimp -iota -beta -eta -zeta only
              rw [toReq_call]
              rw [ev_wfail _]
              conv => lhs; whnf
              dsimp -iota -beta -eta -zeta only
              (unfold makeP; dsimp only; (repeat (first | rw [if_pos (by first | assumption | omega)] | rw [if_neg (by first | assumption | omega)])); try rfl)
            · rw [hc4]; replace hc4 := of_ine_f hc4; try simp only [llen_eq] at hc4
              subst hc4
              conv => lhs; whnf
              dsimp -iota -beta -eta -zeta only
              rw [toReq_call]
              rw [show strOf { data := #[115, 101, 101, 100] } = seedL from rfl, ev_derive _ _ _ _ (by omega) (by decide) (by simp)]
              conv => lhs; whnf
              dsimp -iota -beta -eta -zeta only
              rw [toReq_call]
              rw [ev_wunique _ _ _ _ _ (by omega) (by omega) (by omega)]
              conv => lhs; whnf
              dsimp -iota -beta -eta -zeta only
              rw [drw (by kernel_rfl)]; conv => lhs; whnf
              dsimp -iota -beta -eta -zeta only
              (unfold makeP; dsimp only; (repeat (first | rw [if_pos (by first | assumption | omega)] | rw [if_neg (by first | assumption | omega)])); try rfl)
          · rw [hc3]; replace hc3 := of_ilt_f hc3; try simp only [llen_eq] at hc3
            conv => lhs; whnf
            dsimp -iota -beta -eta -zeta only
            rw [toReq_call]
            rw [show strOf { data := #[115, 101, 101, 100] } = seedL from rfl, ev_derive _ _ _ _ (by omega) (by decide) (by simp)]
            conv => lhs; whnf
            dsimp -iota -beta -eta -zeta only
            rw [toReq_call]
            rw [ev_wunique _ _ _ _ _ (by omega) (by omega) (by omega)]
            conv => lhs; whnf
            dsimp -iota -beta -eta -zeta only
            rw [drw (by kernel_rfl)]; conv => lhs; whnf
            dsimp -iota -beta -eta -zeta only
            (unfold makeP; dsimp only; (repeat (first | rw [if_pos (by first | assumption | omega)] | rw [if_neg (by first | assumption | omega)])); try rfl)
theorem ev_r11make (secret : List UInt8) (k a h : Int) (o u auth data : List UInt8) (hs : secret.length ≤ 100000) : Y E0 (.call 25 [.sl .u8 secret, .agg [.i k, .i a, .i h, .sl .u8 o, .sl .u8 u], .sl .u8 auth, .sl .u8 data] []) = some (.ret (.tup [.agg (pubX (makeP secret ⟨k, a, h, o, u⟩ auth data).1), .agg (senX (makeP secret ⟨k, a, h, o, u⟩ auth data).2.1), .i (makeP secret ⟨k, a, h, o, u⟩ auth data).2.2]) []) := by
  have hu := uniq_bd k
  have hd := derB_len (key := secret) (label := seedL) (ctx := []) (n := 32) (by omega)
  have hE : lrep (uniq k) (0 : UInt8) = List.replicate (uniq k).toNat 0 := by rw [lrep_eq]
  by_cases hk : k = 2
  · subst hk
    have hr : lrep 17 (0 : UInt8) = List.replicate (uniq 2).toNat 0 := by rw [lrep_eq]; rfl
    rw [Y_go]; conv => lhs; whnf
    dsimp -iota -beta -eta -zeta only
    rw [toReq_call]
    rw [ev_r10size _]
    conv => lhs; whnf
    rw [hE]
    rw [fitn_t (by omega)]
    conv => lhs; whnf
    rw [ieq_t (by omega)]
    conv => lhs; whnf
    dsimp -iota -beta -eta -zeta only
    rw [toReq_call]
    rw [ev_r10check _ _ _ _ _]
    conv => lhs; whnf
    rcases Bool.eq_false_or_eq_true (ine (chkP { kind := 2, attr := a, height := h, policy := o, unique := List.replicate (uniq 2).toNat 0 }) 0) with hc0 | hc0
    · rw [hc0]; replace hc0 := of_ine_t hc0; try simp only [llen_eq] at hc0
      conv => lhs; whnf
      rw [Y_go]; conv => lhs; whnf
      rw [ine_t (by omega)]
      conv => lhs; whnf
      dsimp -iota -beta -eta -zeta only
      (unfold makeP; dsimp only; (repeat (first | rw [if_pos (by first | assumption | omega)] | rw [if_neg (by first | assumption | omega)])); try rfl)
    · rw [hc0]; replace hc0 := of_ine_f hc0; try simp only [llen_eq] at hc0
      conv => lhs; whnf
      rcases Bool.eq_false_or_eq_true (ilt 32 (llen auth)) with hc1 | hc1
      · rw [hc1]; replace hc1 := of_ilt_t hc1; try simp only [llen_eq] at hc1
        conv => lhs; whnf
        rw [Y_go]; conv => lhs; whnf
        rw [ine_t (by omega)]
        conv => lhs; whnf
        dsimp -iota -beta -eta -zeta only
        (unfold makeP; dsimp only; (repeat (first | rw [if_pos (by first | assumption | omega)] | rw [if_neg (by first | assumption | omega)])); try rfl)
      · rw [hc1]; replace hc1 := of_ilt_f hc1; try simp only [llen_eq] at hc1
        conv => lhs; whnf
        rcases Bool.eq_false_or_eq_true (ilt 128 (llen data)) with hc2 | hc2
        · rw [hc2]; replace hc2 := of_ilt_t hc2; try simp only [llen_eq] at hc2
          conv => lhs; whnf
          rw [Y_go]; conv => lhs; whnf
          rw [ine_t (by omega)]
          conv => lhs; whnf
          dsimp -iota -beta -eta -zeta only
          (unfold makeP; dsimp only; (repeat (first | rw [if_pos (by first | assumption | omega)] | rw [if_neg (by first | assumption | omega)])); try rfl)
        · rw [hc2]; replace hc2 := of_ilt_f hc2; try simp only [llen_eq] at hc2
          conv => lhs; whnf
          rcases Bool.eq_false_or_eq_true (ilt 0 (llen data)) with hc3 | hc3
          · rw [hc3]; replace hc3 := of_ilt_t hc3; try simp only [llen_eq] at hc3
            conv => lhs; whnf
            rw [ine_t (by omega)]
            conv => lhs; whnf
            rw [Y_go]; conv => lhs; whnf
            rw [ine_t (by omega)]
            conv => lhs; whnf
            dsimp -iota -beta -eta -zeta only
            (unfold makeP; dsimp only; (repeat (first | rw [if_pos (by first | assumption | omega)] | rw [if_neg (by first | assumption | omega)])); try rfl)
          · rw [hc3]; replace hc3 := of_ilt_f hc3; try simp only [llen_eq] at hc3
            conv => lhs; whnf
            rw [Y_go]; conv => lhs; whnf
            rw [ine_f (by omega)]
            conv => lhs; whnf
            dsimp -iota -beta -eta -zeta only
            rw [toReq_call]
            rw [show strOf { data := #[115, 101, 101, 100] } = seedL from rfl, ev_rderive _ _ _ _ (by omega) (by decide) (by simp)]
            conv => lhs; whnf
            dsimp -iota -beta -eta -zeta only
            rw [toReq_call]
            rw [ev_r11unique _ _ _ _ _ (by omega) (by omega) (by omega)]
            conv => lhs; whnf
            dsimp -iota -beta -eta -zeta only
            rw [drw (by kernel_rfl)]; conv => lhs; whnf
            dsimp -iota -beta -eta -zeta only
            (unfold makeP; dsimp only; (repeat (first | rw [if_pos (by first | assumption | omega)] | rw [if_neg (by first | assumption | omega)])); try rfl)
  · have hr : lrep 32 (0 : UInt8) = List.replicate (uniq k).toNat 0 := by rw [lrep_eq, uniq, if_neg hk]
    rw [Y_go]; conv => lhs; whnf
    dsimp -iota -beta -eta -zeta only
    rw [toReq_call]
    rw [ev_r10size _]
    conv => lhs; whnf
    rw [hE]
    rw [fitn_t (by omega)]
    conv => lhs; whnf
    rw [ieq_t (by omega)]
    conv => lhs; whnf
    dsimp -iota -beta -eta -zeta only
    rw [toReq_call]
    rw [ev_r10check _ _ _ _ _]
    conv => lhs; whnf
    rcases Bool.eq_false_or_eq_true (ine (chkP { kind := k, attr := a, height := h, policy := o, unique := List.replicate (uniq k).toNat 0 }) 0) with hc0 | hc0
    · rw [hc0]; replace hc0 := of_ine_t hc0; try simp only [llen_eq] at hc0
      conv => lhs; whnf
      rw [Y_go]; conv => lhs; whnf
      rw [ine_t (by omega)]
      conv => lhs; whnf
      dsimp -iota -beta -eta -zeta only
      (unfold makeP; dsimp only; (repeat (first | rw [if_pos (by first | assumption | omega)] | rw [if_neg (by first | assumption | omega)])); try rfl)
    · rw [hc0]; replace hc0 := of_ine_f hc0; try simp only [llen_eq] at hc0
      conv => lhs; whnf
      rcases Bool.eq_false_or_eq_true (ilt 32 (llen auth)) with hc1 | hc1
      · rw [hc1]; replace hc1 := of_ilt_t hc1; try simp only [llen_eq] at hc1
        conv => lhs; whnf
        rw [Y_go]; conv => lhs; whnf
        rw [ine_t (by omega)]
        conv => lhs; whnf
        dsimp -iota -beta -eta -zeta only
        (unfold makeP; dsimp only; (repeat (first | rw [if_pos (by first | assumption | omega)] | rw [if_neg (by first | assumption | omega)])); try rfl)
      · rw [hc1]; replace hc1 := of_ilt_f hc1; try simp only [llen_eq] at hc1
        conv => lhs; whnf
        rcases Bool.eq_false_or_eq_true (ilt 128 (llen data)) with hc2 | hc2
        · rw [hc2]; replace hc2 := of_ilt_t hc2; try simp only [llen_eq] at hc2
          conv => lhs; whnf
          rw [Y_go]; conv => lhs; whnf
          rw [ine_t (by omega)]
          conv => lhs; whnf
          dsimp -iota -beta -eta -zeta only
          (unfold makeP; dsimp only; (repeat (first | rw [if_pos (by first | assumption | omega)] | rw [if_neg (by first | assumption | omega)])); try rfl)
        · rw [hc2]; replace hc2 := of_ilt_f hc2; try simp only [llen_eq] at hc2
          conv => lhs; whnf
          rcases Bool.eq_false_or_eq_true (ilt 0 (llen data)) with hc3 | hc3
          · rw [hc3]; replace hc3 := of_ilt_t hc3; try simp only [llen_eq] at hc3
            conv => lhs; whnf
            rcases Bool.eq_false_or_eq_true (ine k 3) with hc4 | hc4
            · rw [hc4]; replace hc4 := of_ine_t hc4; try simp only [llen_eq] at hc4
              conv => lhs; whnf
              rw [Y_go]; conv => lhs; whnf
              rw [ine_t (by omega)]
              conv => lhs; whnf
              dsimp -iota -beta -eta -zeta only
              (unfold makeP; dsimp only; (repeat (first | rw [if_pos (by first | assumption | omega)] | rw [if_neg (by first | assumption | omega)])); try rfl)
            · rw [hc4]; replace hc4 := of_ine_f hc4; try simp only [llen_eq] at hc4
              subst hc4
              conv => lhs; whnf
              rw [Y_go]; conv => lhs; whnf
              rw [ine_f (by omega)]
              conv => lhs; whnf
              dsimp -iota -beta -eta -zeta only
              rw [toReq_call]
              rw [show strOf { data := #[115, 101, 101, 100] } = seedL from rfl, ev_rderive _ _ _ _ (by omega) (by decide) (by simp)]
              conv => lhs; whnf
              dsimp -iota -beta -eta -zeta only
              rw [toReq_call]
              rw [ev_r11unique _ _ _ _ _ (by omega) (by omega) (by omega)]
              conv => lhs; whnf
              dsimp -iota -beta -eta -zeta only
              rw [drw (by kernel_rfl)]; conv => lhs; whnf
              dsimp -iota -beta -eta -zeta only
              (unfold makeP; dsimp only; (repeat (first | rw [if_pos (by first | assumption | omega)] | rw [if_neg (by first | assumption | omega)])); try rfl)
          · rw [hc3]; replace hc3 := of_ilt_f hc3; try simp only [llen_eq] at hc3
            conv => lhs; whnf
            rw [Y_go]; conv => lhs; whnf
            rw [ine_f (by omega)]
            conv => lhs; whnf
            dsimp -iota -beta -eta -zeta only
            rw [toReq_call]
            rw [show strOf { data := #[115, 101, 101, 100] } = seedL from rfl, ev_rderive _ _ _ _ (by omega) (by decide) (by simp)]
            conv => lhs; whnf
            dsimp -iota -beta -eta -zeta only
            rw [toReq_call]
            rw [ev_r11unique _ _ _ _ _ (by omega) (by omega) (by omega)]
            conv => lhs; whnf
            dsimp -iota -beta -eta -zeta only
            rw [drw (by kernel_rfl)]; conv => lhs; whnf
            dsimp -iota -beta -eta -zeta only
            (unfold makeP; dsimp only; (repeat (first | rw [if_pos (by first | assumption | omega)] | rw [if_neg (by first | assumption | omega)])); try rfl)
theorem ev_wkey (a s d : List UInt8) (k t h : Int) (o u : List UInt8) (hs : s.length ≤ 100000) (ho : o.length ≤ 60000) (hu : u.length ≤ 60000) : Y E0 (.call 93 [.agg [.sl .u8 a, .sl .u8 s, .sl .u8 d], .agg [.i k, .i t, .i h, .sl .u8 o, .sl .u8 u]] []) = some (.ret (.tup [.sl .u8 (wkey ⟨a, s, d⟩ (nameB ⟨k, t, h, o, u⟩)), .sl .u8 ((nameB ⟨k, t, h, o, u⟩).take 16)]) []) := by
  have hn := nameB_l32 ⟨k, t, h, o, u⟩
  rw [Y_go]; conv => lhs; whnf
  dsimp -iota -beta -eta -zeta only
  rw [toReq_call]
  rw [ev_aname _ _ _ _ _ (by omega) (by omega)]
  conv => lhs; whnf
  dsimp -iota -beta -eta -zeta only
  rw [toReq_call]
  rw [show strOf { data := #[112, 114, 105, 118, 97, 116, 101] } = privL from rfl, ev_derive _ _ _ _ (by omega) (by decide) (by omega)]
  conv => lhs; whnf
  rw [ieq_t (by omega)]
  conv => lhs; whnf
  rw [lcut_0 (by omega)]
  conv => lhs; whnf
  dsimp -iota -beta -eta -zeta only
  rw [drw (by kernel_rfl)]; conv => lhs; whnf
  (unfold wkey; rfl)
theorem ev_wpriv (a s d : List UInt8) (k t h : Int) (o u a' s' d' : List UInt8) (hs : s.length ≤ 100000) (ho : o.length ≤ 60000) (hu : u.length ≤ 60000) : Y E0 (.call 53 [.agg [.sl .u8 a, .sl .u8 s, .sl .u8 d], .agg [.i k, .i t, .i h, .sl .u8 o, .sl .u8 u], .agg [.sl .u8 a', .sl .u8 s', .sl .u8 d']] []) = some (.ret (.sl .u8 (privB ⟨a, s, d⟩ ⟨k, t, h, o, u⟩ ⟨a', s', d'⟩)) []) := by
  have hn := nameB_l32 ⟨k, t, h, o, u⟩
  have he := encP_len (p := ⟨k, t, h, o, u⟩) (by simp only; omega) (by simp only; omega)
  have hw := wkey_32 ⟨a, s, d⟩ (nameB ⟨k, t, h, o, u⟩)
  simp only at he
  rw [Y_go]; conv => lhs; whnf
  dsimp -iota -beta -eta -zeta only
  rw [toReq_call]
  rw [ev_wkey _ _ _ _ _ _ _ _ (by omega) (by omega) (by omega)]
  conv => lhs; whnf
  dsimp -iota -beta -eta -zeta only
  rw [toReq_call]
  rw [ev_blob _ _ (by (simp only [sha256_len, fr1_len, fr2_len, fr3_len, nameB_l32, wkey_32, uintB_l2, uintB_l1, blobB_l, LL] at * <;> omega))]
  conv => lhs; whnf
  dsimp -iota -beta -eta -zeta only
  rw [toReq_call]
  rw [ev_blob _ _ (by (simp only [sha256_len, fr1_len, fr2_len, fr3_len, nameB_l32, wkey_32, uintB_l2, uintB_l1, blobB_l, LL] at * <;> omega))]
  conv => lhs; whnf
  dsimp -iota -beta -eta -zeta only
  rw [toReq_call]
  rw [ev_blob _ _ (by (simp only [sha256_len, fr1_len, fr2_len, fr3_len, nameB_l32, wkey_32, uintB_l2, uintB_l1, blobB_l, LL] at * <;> omega))]
  conv => lhs; whnf
  dsimp -iota -beta -eta -zeta only
  rw [drw (by kernel_rfl)]; conv => lhs; whnf
  dsimp -iota -beta -eta -zeta only
  rw [toReq_call]
  rw [ev_aenc _ _ _ _ _ (by omega) (by omega)]
  conv => lhs; whnf
  dsimp -iota -beta -eta -zeta only
  rw [toReq_call]
  rw [ev_seal _ _ _ _ (by omega) (by omega)]
  conv => lhs; whnf
  (unfold privB plainS; rfl)
theorem ev_wopen (a s d : List UInt8) (k t h : Int) (o u x : List UInt8) (hs : s.length ≤ 100000) (ho : o.length ≤ 60000) (hu : u.length ≤ 60000) (hx : x.length ≤ 1000000) : Y E0 (.call 52 [.agg [.sl .u8 a, .sl .u8 s, .sl .u8 d], .agg [.i k, .i t, .i h, .sl .u8 o, .sl .u8 u], .sl .u8 x] []) = some (.ret (.tup [.agg (senX (openS ⟨a, s, d⟩ ⟨k, t, h, o, u⟩ x).1), .i (openS ⟨a, s, d⟩ ⟨k, t, h, o, u⟩ x).2]) []) := by
  have hn := nameB_l32 ⟨k, t, h, o, u⟩
  have he := encP_len (p := ⟨k, t, h, o, u⟩) (by simp only; omega) (by simp only; omega)
  have hw := wkey_32 ⟨a, s, d⟩ (nameB ⟨k, t, h, o, u⟩)
  simp only at he
  have eo := ev_open (wkey ⟨a, s, d⟩ (nameB ⟨k, t, h, o, u⟩)) (encP ⟨k, t, h, o, u⟩) x (by omega) (by omega) (by omega)
  have hl := openB_len (key := wkey ⟨a, s, d⟩ (nameB ⟨k, t, h, o, u⟩)) (ad := encP ⟨k, t, h, o, u⟩) (b := x)
  unfold openS
  generalize openB (wkey ⟨a, s, d⟩ (nameB ⟨k, t, h, o, u⟩)) (encP ⟨k, t, h, o, u⟩) x = R at *
  obtain ⟨b, e⟩ := R
  dsimp only at eo hl ⊢
  have hb : b.length ≤ 4294967296 := by omega
  by_cases hz : e = 0
  · subst hz
    rw [if_neg (by simp)]
    rw [Y_go]; conv => lhs; whnf
    dsimp -iota -beta -eta -zeta only
    rw [toReq_call]
    rw [ev_wkey _ _ _ _ _ _ _ _ (by omega) (by omega) (by omega)]
    conv => lhs; whnf
    dsimp -iota -beta -eta -zeta only
    rw [toReq_call]
    rw [ev_aenc _ _ _ _ _ (by omega) (by omega)]
    conv => lhs; whnf
    dsimp -iota -beta -eta -zeta only
    rw [toReq_call]
    rw [eo]
    conv => lhs; whnf
    rw [ine_f (by omega)]
    conv => lhs; whnf
    dsimp -iota -beta -eta -zeta only
    rw [toReq_call]
    rw [ev_new _ (by omega)]
    conv => lhs; whnf
    dsimp -iota -beta -eta -zeta only
    rw [toReq_call]
    rw [show Y E0 (.call 33 [.pa 0 0, .i 32] [.var [.sl .u8 b, .i 0, .i 0]]) = _ from ev_rblob b 0 0 32 hb (Nat.zero_le _)]; generalize g0 : rdB b 0 0 32 = x0; obtain ⟨v0, p0, er0⟩ := x0; have k0 : p0 ≤ b.length := (by have := rdB_le (b := b) (at' := 0) (e := 0) (most := 32) (Nat.zero_le _); rw [g0] at this; exact this); have l0 : v0.length ≤ b.length := (by have := rdB_len (b := b) (at' := 0) (e := 0) (most := 32); rw [g0] at this; exact this); have m0 : v0.length ≤ 32 := (by have := rdB_most (b := b) (at' := 0) (e := 0) (most := 32) (by decide); rw [g0] at this; simp only at this; omega)
    conv => lhs; whnf
    dsimp -iota -beta -eta -zeta only
    rw [toReq_call]
    rw [ev_rblob b p0 er0 32 hb k0]; generalize g1 : rdB b p0 er0 32 = x1; obtain ⟨v1, p1, er1⟩ := x1; have k1 : p1 ≤ b.length := (by have := rdB_le (b := b) (at' := p0) (e := er0) (most := 32) k0; rw [g1] at this; exact this); have l1 : v1.length ≤ b.length := (by have := rdB_len (b := b) (at' := p0) (e := er0) (most := 32); rw [g1] at this; exact this); have m1 : v1.length ≤ 32 := (by have := rdB_most (b := b) (at' := p0) (e := er0) (most := 32) (by decide); rw [g1] at this; simp only at this; omega)
    conv => lhs; whnf
    dsimp -iota -beta -eta -zeta only
    rw [toReq_call]
    rw [ev_rblob b p1 er1 128 hb k1]; generalize g2 : rdB b p1 er1 128 = x2; obtain ⟨v2, p2, er2⟩ := x2; have k2 : p2 ≤ b.length := (by have := rdB_le (b := b) (at' := p1) (e := er1) (most := 128) k1; rw [g2] at this; exact this); have l2 : v2.length ≤ b.length := (by have := rdB_len (b := b) (at' := p1) (e := er1) (most := 128); rw [g2] at this; exact this); have m2 : v2.length ≤ 128 := (by have := rdB_most (b := b) (at' := p1) (e := er1) (most := 128) (by decide); rw [g2] at this; simp only at this; omega)
    conv => lhs; whnf
    dsimp -iota -beta -eta -zeta only
    rw [toReq_call]
    rw [ev_rend _ _ _ (by omega) (by omega)]
    conv => lhs; whnf
    rcases Bool.eq_false_or_eq_true (ine (rdE b p2 er2) 0) with hc0 | hc0
    · rw [hc0]; replace hc0 := of_ine_t hc0; try simp only [llen_eq] at hc0
      conv => lhs; whnf
      dsimp -iota -beta -eta -zeta only
      (rw [readS_of g0 g1 g2, if_pos (by omega)]; try rfl)
    · rw [hc0]; replace hc0 := of_ine_f hc0; try simp only [llen_eq] at hc0
      conv => lhs; whnf
      dsimp -iota -beta -eta -zeta only
      rw [toReq_call]
      rw [ev_wunique _ _ _ _ _ (by omega) (by omega) (by omega)]
      conv => lhs; whnf
      dsimp -iota -beta -eta -zeta only
      rw [toReq_call]
      rw [ev_equal _ _ (by omega)]
      conv => lhs; whnf
      dsimp -iota -beta -eta -zeta only
      rw [drw (by kernel_rfl)]; conv => lhs; whnf
      rw [bnot_eq]; conv => lhs; whnf
      rcases Bool.eq_false_or_eq_true (decide (u = uniB k h { auth := v0, seed := v1, data := v2 })) with hc1 | hc1
      · rw [hc1]; replace hc1 := of_decide_eq_true hc1; try simp only at hc1
        conv => lhs; whnf
        dsimp -iota -beta -eta -zeta only
        (rw [readS_of g0 g1 g2, if_neg (by omega), if_neg (by first | assumption | simp_all)]; try rfl)
      · rw [hc1]; replace hc1 := of_decide_eq_false hc1; try simp only at hc1
        conv => lhs; whnf
        dsimp -iota -beta -eta -zeta only
        (rw [readS_of g0 g1 g2, if_neg (by omega), if_pos (by first | assumption | simp_all)]; try rfl)
  · rw [if_pos hz]
    rw [Y_go]; conv => lhs; whnf
    dsimp -iota -beta -eta -zeta only
    rw [toReq_call]
    rw [ev_wkey _ _ _ _ _ _ _ _ (by omega) (by omega) (by omega)]
    conv => lhs; whnf
    dsimp -iota -beta -eta -zeta only
    rw [toReq_call]
    rw [ev_aenc _ _ _ _ _ (by omega) (by omega)]
    conv => lhs; whnf
    dsimp -iota -beta -eta -zeta only
    rw [toReq_call]
    rw [eo]
    conv => lhs; whnf
    rw [ine_t (by omega)]
    conv => lhs; whnf
    dsimp -iota -beta -eta -zeta only
    rfl
end Go.Proofs.YtfjcmolccckhhaaDoor

namespace Go.Ax
open Go.Eng
def objP (secret : List UInt8) (p : Pub) (auth data : List UInt8) : Pub × Sen :=
  ((makeP secret (validP p) (auth.take 32) ((if (validP p).kind = 3 then data else []).take 128)).1, (makeP secret (validP p) (auth.take 32) ((if (validP p).kind = 3 then data else []).take 128)).2.1)
theorem chk_awake : chkP ⟨3, 1, 0, [], List.replicate 32 0⟩ = 0 := by decide
theorem makeP_any (secret : List UInt8) (k a h : Int) (o u u' auth data : List UInt8) : makeP secret ⟨k, a, h, o, u⟩ auth data = makeP secret ⟨k, a, h, o, u'⟩ auth data := rfl
theorem privB_le (par s : Sen) (p : Pub) : (privB par p s).length ≤ 1200 := by
  unfold privB
  have hn := nameB_l32 p
  by_cases h : 1024 < (plainS s).length
  · rw [sealB, if_pos (.inr h)]; simp
  · rw [sealB_len (by rw [List.length_take]; omega) (by omega), List.length_take]; omega
end Go.Ax
namespace Go.Proofs.YtfjcmolccckhhaaDoor
open Go Go.Ax Go.Eng
set_option linter.unusedVariables false
set_option linter.unusedSimpArgs false
attribute [local irreducible] iadd isub imul iquo irem ibit ineg ieq ine ilt ile ishl ishr beq' bnot and' seq' u8op u8rem u32op u64op u8shr u8shl u64shr u64shl u32shr u32shl i64w u8i u64i iu8 iu32 iu64 u8u64 u64u8 u32u8 u64cmp u8cmp u32cmp llen lget linb lset lcut lrep lapp lcpy lemp fits fitn ieqs sealed drawChk fpSame
attribute [local irreducible] pubK sigK verK chkP nameB uniB wkey openB sealB encP makeP privB openS sameS sameP fewPub validP
set_option maxHeartbeats 4000000
set_option maxRecDepth 100000
theorem sm11_loop (ls : List (List UInt8)) (hn : ls.length ≤ 1000) : ∀ (n j : Nat), j + n = ls.length → Y E0 (.loop 21 0 0 0 [(0, .sl (.sl .u8) ls), (3, .i (j : Int))] []) = if ∀ l ∈ ls.drop j, l.length ≤ 140 then some (.fin (.exit 0) 0 [] []) else some (.fin .ret 0 [(2, .b false)] [])
  | 0, j, hj => by
    rw [if_pos (by rw [List.drop_eq_nil_of_le (by omega)]; simp)]
    rw [Y_go]; conv => lhs; whnf
    rw [ilt_f (by (simp only [sha256_len, fr1_len, fr2_len, fr3_len, nameB_l32, wkey_32, uintB_l2, uintB_l1, blobB_l, LL] at * <;> omega))]
    conv => lhs; whnf
  | n + 1, j, hj => by
    have ih := sm11_loop ls hn n (j + 1) (by omega)
    have hd := List.drop_eq_getElem_cons (l := ls) (i := j) (by omega)
    rw [hd]
    have hg : lget ls (j : Int) = some (ls[j]'(by omega)) := lget_n (by omega)
    generalize ls[j]'(by omega) = x at *
    clear hd
    have hj2 : (j : Int) < llen ls := by rw [llen_eq]; omega
    by_cases hx : x.length ≤ 140
    · by_cases ht : ∀ l ∈ ls.drop (j + 1), l.length ≤ 140
      · rw [if_pos ht] at ih
        rw [if_pos (by simpa [hx] using ht)]
        rw [Y_go]; conv => lhs; whnf
        rw [ilt_t (by omega)]
        conv => lhs; whnf
        rw [hg]; conv => lhs; whnf
        rw [ilt_f (by (simp only [sha256_len, fr1_len, fr2_len, fr3_len, nameB_l32, wkey_32, uintB_l2, uintB_l1, blobB_l, LL] at * <;> omega))]
        conv => lhs; whnf
        dsimp -iota -beta -eta -zeta only
        rw [iadd_eq (by omega)]
        refine (congrArg (Y E0) ?_).trans ih; (try simp only [Rq.loop.injEq, Rq.call.injEq, Rq.ops.injEq, List.cons.injEq, Prod.mk.injEq, AV.i.injEq, AV.sl.injEq, AV.st.injEq, AV.b.injEq, AV.u8.injEq, AV.nm.injEq, Option.some.injEq, Rs.row.injEq, Rs.var.injEq, heq_eq_eq, true_and, and_true]); (try (repeat' apply And.intro)); all_goals first | (with_reducible rfl) | omega | (rw [iadd_eq (by omega)]; omega) | (rw [isub_eq (by omega)]; omega)
      · rw [if_neg ht] at ih
        rw [if_neg (by simpa [hx] using ht)]
        rw [Y_go]; conv => lhs; whnf
        rw [ilt_t (by omega)]
        conv => lhs; whnf
        rw [hg]; conv => lhs; whnf
        rw [ilt_f (by (simp only [sha256_len, fr1_len, fr2_len, fr3_len, nameB_l32, wkey_32, uintB_l2, uintB_l1, blobB_l, LL] at * <;> omega))]
        conv => lhs; whnf
        dsimp -iota -beta -eta -zeta only
        rw [iadd_eq (by omega)]
        refine (congrArg (Y E0) ?_).trans ih; (try simp only [Rq.loop.injEq, Rq.call.injEq, Rq.ops.injEq, List.cons.injEq, Prod.mk.injEq, AV.i.injEq, AV.sl.injEq, AV.st.injEq, AV.b.injEq, AV.u8.injEq, AV.nm.injEq, Option.some.injEq, Rs.row.injEq, Rs.var.injEq, heq_eq_eq, true_and, and_true]); (try (repeat' apply And.intro)); all_goals first | (with_reducible rfl) | omega | (rw [iadd_eq (by omega)]; omega) | (rw [isub_eq (by omega)]; omega)
    · rw [if_neg (by intro h; exact hx (h x (by simp)))]
      clear ih
      rw [Y_go]; conv => lhs; whnf
      rw [ilt_t (by omega)]
      conv => lhs; whnf
      rw [hg]; conv => lhs; whnf
      rw [ilt_t (by (simp only [sha256_len, fr1_len, fr2_len, fr3_len, nameB_l32, wkey_32, uintB_l2, uintB_l1, blobB_l, LL] at * <;> omega))]
      conv => lhs; whnf
theorem sm11_all (ls : List (List UInt8)) (hn : ls.length ≤ 1000) : Y E0 (.call 21 [.sl (.sl .u8) ls] []) = some (.ret (.b (decide (∀ l ∈ ls, l.length ≤ 140))) []) := by
  have hl := sm11_loop ls hn ls.length 0 (by omega)
  rw [List.drop_zero, show ((0 : Nat) : Int) = 0 from rfl] at hl
  by_cases h : ∀ l ∈ ls, l.length ≤ 140
  · rw [if_pos h] at hl
    rw [decide_eq_true h]
    rw [Y_go]; conv => lhs; whnf
    dsimp -iota -beta -eta -zeta only
    rw [toReq_loop]
    rw [hl]
    conv => lhs; whnf
  · rw [if_neg h] at hl
    rw [decide_eq_false h]
    rw [Y_go]; conv => lhs; whnf
    dsimp -iota -beta -eta -zeta only
    rw [toReq_loop]
    rw [hl]
    conv => lhs; whnf
theorem ev_small11_3 (a b c : List UInt8) : Y E0 (.call 21 [.sl (.sl .u8) [a, b, c]] []) = some (.ret (.b (decide (a.length ≤ 140 ∧ b.length ≤ 140 ∧ c.length ≤ 140))) []) := by
  rw [sm11_all _ (by simp)]
  exact congrArg (fun b => some (Rsp.ret (AV.b b) [])) (decide_eq_decide.2 (by simp))
theorem ev_small11_4 (a b c d : List UInt8) : Y E0 (.call 21 [.sl (.sl .u8) [a, b, c, d]] []) = some (.ret (.b (decide (a.length ≤ 140 ∧ b.length ≤ 140 ∧ c.length ≤ 140 ∧ d.length ≤ 140))) []) := by
  rw [sm11_all _ (by simp)]
  exact congrArg (fun b => some (Rsp.ret (AV.b b) [])) (decide_eq_decide.2 (by simp))
theorem ev_awake11 : Y E0 (.call 20 [] []) = some (.ret (.b true) []) := by
  have hm := make_okP (secret := [UInt8.ofNat 1]) (auth := []) (data := [UInt8.ofNat 7]) (p := ⟨3, 1, 0, [], List.replicate 32 0⟩) chk_awake (by simp) (by simp) (fun _ => rfl)
  have hoS := make_okS [UInt8.ofNat 1] [] [UInt8.ofNat 7] (by simp) (by simp)
  have em := ev_wmake [UInt8.ofNat 1] 3 1 0 [] [] [] [UInt8.ofNat 7] (by simp)
  rw [makeP_any [UInt8.ofNat 1] 3 1 0 [] [] (List.replicate 32 0), hm] at em
  have hU : (uniB 3 0 ⟨[], derB [UInt8.ofNat 1] seedL [] 32, [UInt8.ofNat 7]⟩).length = 32 := by rw [uniB, if_neg (by decide), sha256_len]
  have hop := open_priv (par := ⟨[], [], []⟩) (p := ⟨3, 1, 0, [], uniB 3 0 ⟨[], derB [UInt8.ofNat 1] seedL [] 32, [UInt8.ofNat 7]⟩⟩) hoS
  rw [if_neg (by simp)] at hop
  generalize uniB 3 0 ⟨[], derB [UInt8.ofNat 1] seedL [] 32, [UInt8.ofNat 7]⟩ = U at *
  generalize derB [UInt8.ofNat 1] seedL [] 32 = S at *
  have hS32 := hoS.seed
  simp only at hS32
  have ep := ev_wpriv [] [] [] 3 1 0 [] U [] S [UInt8.ofNat 7] (by simp) (by simp) (by omega)
  have eo := ev_wopen [] [] [] 3 1 0 [] U (privB ⟨[], [], []⟩ ⟨3, 1, 0, [], U⟩ ⟨[], S, [UInt8.ofNat 7]⟩) (by simp) (by simp) (by omega) (Nat.le_trans (privB_le _ _ _) (by omega))
  rw [hop] at eo
  dsimp only [pubX, senX] at em eo
  rw [Y_go]; conv => lhs; whnf
  dsimp -iota -beta -eta -zeta only
  rw [toReq_call]
  rw [em]
  conv => lhs; whnf
  dsimp -iota -beta -eta -zeta only
  rw [toReq_call]
  rw [ep]
  conv => lhs; whnf
  dsimp -iota -beta -eta -zeta only
  rw [toReq_call]
  rw [eo]
  conv => lhs; whnf
  dsimp -iota -beta -eta -zeta only
  rw [drw (by kernel_rfl)]; conv => lhs; whnf
  rw [ieq_t (by omega)]
  conv => lhs; whnf
  rw [ieq_t (by (simp only [sha256_len, fr1_len, fr2_len, fr3_len, nameB_l32, wkey_32, uintB_l2, uintB_l1, blobB_l, LL] at * <;> omega))]
  conv => lhs; whnf
  rw [ieq_t (by omega)]
  conv => lhs; whnf
  rw [ieq_t (by (simp only [sha256_len, fr1_len, fr2_len, fr3_len, nameB_l32, wkey_32, uintB_l2, uintB_l1, blobB_l, LL] at * <;> omega))]
  conv => lhs; whnf
  rw [lget_i (by decide)]
  conv => lhs; whnf
  rw [Y_go]; conv => lhs; whnf
  rw [u8cmp_eql, ieq_t (by rfl)]
theorem ev_WrapMake_m (secret : List UInt8) (k a t : Int) (o u auth data : List UInt8) (hs : secret.length ≤ 140) (ho : o.length ≤ 60) : Y E0 (.ops ⟨80, 5, 0⟩ [true, true, true, true, true, false, false] 0 [Fr.seq [true, true, true, true, true, false, true] 0, Fr.seq [true, true, true, true, true, true] 0, Fr.ret] 1 [(0, .sl .u8 secret), (2, .sl .u8 auth), (3, .sl .u8 data), (11, .pa 0 0)] [(0, some (.var [.i k, .i a, .i t, .sl .u8 o, .sl .u8 u]))]) = some (.ret (.b true) []) := by
  have ea := ev_wmake secret k a t o u auth data (by omega)
  have eb := ev_r11make secret k a t o u auth data (by omega)
  have ea1 := ev_wmake secret k a 1 o u auth data (by omega)
  have eb1 := ev_r11make secret k a 1 o u auth data (by omega)
  have hl := make_len (secret := secret) (auth := auth) (data := data) (p := ⟨k, a, t, o, u⟩)
  have hl1 := make_len (secret := secret) (auth := auth) (data := data) (p := ⟨k, a, 1, o, u⟩)
  generalize makeP secret ⟨k, a, t, o, u⟩ auth data = R at *
  generalize makeP secret ⟨k, a, 1, o, u⟩ auth data = R1 at *
  obtain ⟨⟨rk, ra, rt, ro, ru⟩, ⟨sa, ss, sd⟩, e⟩ := R
  obtain ⟨⟨rk1, ra1, rt1, ro1, ru1⟩, ⟨sa1, ss1, sd1⟩, e1⟩ := R1
  dsimp only [pubX, senX] at *
  have hs : ∀ p, sameP p p = true := fun p => by rw [sameP_iff, decide_eq_true rfl]
  rw [Y_go]; conv => lhs; whnf
  rcases Bool.eq_false_or_eq_true (ieq k 2) with hc0 | hc0
  · rw [hc0]; replace hc0 := of_ieq_t hc0; try simp only [llen_eq] at hc0
    subst hc0
    conv => lhs; whnf
    rcases Bool.eq_false_or_eq_true (ilt 1 t) with hc1 | hc1
    · rw [hc1]; replace hc1 := of_ilt_t hc1; try simp only [llen_eq] at hc1
      conv => lhs; whnf
      rcases Bool.eq_false_or_eq_true (ile t 3) with hc2 | hc2
      · rw [hc2]; replace hc2 := of_ile_t hc2; try simp only [llen_eq] at hc2
        conv => lhs; whnf
        rw [Y_go]; conv => lhs; whnf
        dsimp -iota -beta -eta -zeta only
        rw [toReq_call]
        rw [ea1]
        conv => lhs; whnf
        dsimp -iota -beta -eta -zeta only
        rw [toReq_call]
        rw [eb1]
        conv => lhs; whnf
        rw [ieq_t (by omega)]
        conv => lhs; whnf
        dsimp -iota -beta -eta -zeta only
        rw [toReq_call]
        rw [ev_r10same _ _ _ _ _ _ _ _ _ _ (by omega) (by omega), hs]
        conv => lhs; whnf
        dsimp -iota -beta -eta -zeta only
        rw [toReq_call]
        rw [ev_r11same _ _ _ _ _ _ (by omega) (by omega) (by omega), sameS_refl]
        conv => lhs; whnf
      · rw [hc2]; replace hc2 := of_ile_f hc2; try simp only [llen_eq] at hc2
        conv => lhs; whnf
        rw [Y_go]; conv => lhs; whnf
        dsimp -iota -beta -eta -zeta only
        rw [toReq_call]
        rw [ea]
        conv => lhs; whnf
        dsimp -iota -beta -eta -zeta only
        rw [toReq_call]
        rw [eb]
        conv => lhs; whnf
        rw [ieq_t (by omega)]
        conv => lhs; whnf
        dsimp -iota -beta -eta -zeta only
        rw [toReq_call]
        rw [ev_r10same _ _ _ _ _ _ _ _ _ _ (by omega) (by omega), hs]
        conv => lhs; whnf
        dsimp -iota -beta -eta -zeta only
        rw [toReq_call]
        rw [ev_r11same _ _ _ _ _ _ (by omega) (by omega) (by omega), sameS_refl]
        conv => lhs; whnf
    · rw [hc1]; replace hc1 := of_ilt_f hc1; try simp only [llen_eq] at hc1
      conv => lhs; whnf
      rw [Y_go]; conv => lhs; whnf
      dsimp -iota -beta -eta -zeta only
      rw [toReq_call]
      rw [ea]
      conv => lhs; whnf
      dsimp -iota -beta -eta -zeta only
      rw [toReq_call]
      rw [eb]
      conv => lhs; whnf
      rw [ieq_t (by omega)]
      conv => lhs; whnf
      dsimp -iota -beta -eta -zeta only
      rw [toReq_call]
      rw [ev_r10same _ _ _ _ _ _ _ _ _ _ (by omega) (by omega), hs]
      conv => lhs; whnf
      dsimp -iota -beta -eta -zeta only
      rw [toReq_call]
      rw [ev_r11same _ _ _ _ _ _ (by omega) (by omega) (by omega), sameS_refl]
      conv => lhs; whnf
  · rw [hc0]; replace hc0 := of_ieq_f hc0; try simp only [llen_eq] at hc0
    conv => lhs; whnf
    rw [Y_go]; conv => lhs; whnf
    dsimp -iota -beta -eta -zeta only
    rw [toReq_call]
    rw [ea]
    conv => lhs; whnf
    dsimp -iota -beta -eta -zeta only
    rw [toReq_call]
    rw [eb]
    conv => lhs; whnf
    rw [ieq_t (by omega)]
    conv => lhs; whnf
    dsimp -iota -beta -eta -zeta only
    rw [toReq_call]
    rw [ev_r10same _ _ _ _ _ _ _ _ _ _ (by omega) (by omega), hs]
    conv => lhs; whnf
    dsimp -iota -beta -eta -zeta only
    rw [toReq_call]
    rw [ev_r11same _ _ _ _ _ _ (by omega) (by omega) (by omega), sameS_refl]
    conv => lhs; whnf
theorem ev_WrapMake (secret : List UInt8) (k a t : Int) (o u auth data : List UInt8) (valid : Bool) : Y E0 (.call 5 [.sl .u8 secret, .agg [.i k, .i a, .i t, .sl .u8 o, .sl .u8 u], .sl .u8 auth, .sl .u8 data, .b valid] []) = some (.ret (.b true) []) := by
  have hfew := fun h => fewPub_t (p := ⟨k, a, t, o, u⟩) h
  have hpub := ev_pubP k a t o u
  have hc := validP_chk ⟨k, a, t, o, u⟩
  have hp := validP_policy ⟨k, a, t, o, u⟩
  have hu := validP_unique ⟨k, a, t, o, u⟩
  generalize validP ⟨k, a, t, o, u⟩ = Q at *
  obtain ⟨qk, qa, qt, qo, qu⟩ := Q
  dsimp only [pubX] at *
  rw [Y_go]; conv => lhs; whnf
  dsimp -iota -beta -eta -zeta only
  rw [toReq_call]
  rw [ev_awake11]
  conv => lhs; whnf
  rw [bnot_eq]; conv => lhs; whnf
  dsimp -iota -beta -eta -zeta only
  rw [toReq_call]
  rw [ev_small11_3 _ _ _]
  conv => lhs; whnf
  rw [bnot_eq]; conv => lhs; whnf
  rcases Bool.eq_false_or_eq_true (decide (secret.length ≤ 140 ∧ auth.length ≤ 140 ∧ data.length ≤ 140)) with hc0 | hc0
  · rw [hc0]; replace hc0 := of_decide_eq_true hc0; try simp only at hc0
    conv => lhs; whnf
    dsimp -iota -beta -eta -zeta only
    rw [toReq_call]
    rw [ev_fewp _ _ _ _ _]
    conv => lhs; whnf
    rw [bnot_eq]; conv => lhs; whnf
    rcases Bool.eq_false_or_eq_true (fewPub { kind := k, attr := a, height := t, policy := o, unique := u }) with hc1 | hc1
    · rw [hc1]
      conv => lhs; whnf
      rcases Bool.eq_false_or_eq_true (valid) with hc2 | hc2
      · rw [hc2]
        conv => lhs; whnf
        dsimp -iota -beta -eta -zeta only
        rw [toReq_call]
        rw [hpub]
        conv => lhs; whnf
        rw [ev_WrapMake_m _ _ _ _ _ _ _ _ (by omega) (by first | omega | (have hq := hfew (by assumption); omega))]
      · rw [hc2]
        conv => lhs; whnf
        rw [ev_WrapMake_m _ _ _ _ _ _ _ _ (by omega) (by first | omega | (have hq := hfew (by assumption); omega))]
    · rw [hc1]
      conv => lhs; whnf
  · rw [hc0]; replace hc0 := of_decide_eq_false hc0; try simp only at hc0
    conv => lhs; whnf
theorem ev_WrapSame_m (secret : List UInt8) (qk qa qt : Int) (qo qu auth data uq : List UInt8) (v : AV) (hv : v = .sl .u8 data ∨ (v = .nil ∧ data = [])) (hk : 0 < data.length → qk = 3) (hc : chkP ⟨qk, qa, qt, qo, qu⟩ = 0) (hp : qo.length ≤ 32) (h2 : secret.length ≤ 140) (h3 : auth.length ≤ 140) (h4 : data.length ≤ 140) : Y E0 (.ops ⟨85, 6, 0⟩ [true, true, true, true, true, false] 0 [Fr.seq [true, true, true, true, true, true] 0, Fr.ret] 1 [(0, .sl .u8 secret), (2, .sl .u8 auth), (3, v), (4, .sl .u8 uq), (11, .pa 0 0)] [(0, some (.var [.i qk, .i qa, .i qt, .sl .u8 qo, .sl .u8 qu]))]) = some (.ret (.b true) []) := by
  have hA : (List.take (Int.toNat 32) auth).length ≤ 32 := by rw [List.length_take, show Int.toNat 32 = 32 from rfl]; omega
  have hD : (List.take (Int.toNat 128) data).length ≤ 128 := by rw [List.length_take, show Int.toNat 128 = 128 from rfl]; omega
  have hm := make_okP (secret := secret) (auth := List.take (Int.toNat 32) auth) (data := List.take (Int.toNat 128) data) hc hA hD (fun q => hk (by rw [List.length_take] at q; omega))
  have hoS := make_okS secret (List.take (Int.toNat 32) auth) (List.take (Int.toNat 128) data) hA hD
  simp only at hm
  obtain ⟨S, hS⟩ : ∃ S, derB secret seedL [] 32 = S := ⟨_, rfl⟩
  rw [hS] at hm hoS
  have hS32 := hoS.seed
  simp only at hS32
  have em := ev_wmake secret qk qa qt qo qu (List.take (Int.toNat 32) auth) (List.take (Int.toNat 128) data) (by omega)
  have eq := ev_wmake secret qk qa qt qo uq (List.take (Int.toNat 32) auth) (List.take (Int.toNat 128) data) (by omega)
  rw [makeP_any secret qk qa qt qo uq qu, hm] at eq
  rw [hm] at em
  have hU := uniB_le qk qt ⟨List.take (Int.toNat 32) auth, S, List.take (Int.toNat 128) data⟩
  have hU0 := uniB_pos (k := qk) (h := qt) (s := ⟨List.take (Int.toNat 32) auth, S, List.take (Int.toNat 128) data⟩) (okP_of hc).height
  generalize uniB qk qt ⟨List.take (Int.toNat 32) auth, S, List.take (Int.toNat 128) data⟩ = U at *
  dsimp only [pubX, senX] at em eq
  have hs : ∀ p, sameP p p = true := fun p => by rw [sameP_iff, decide_eq_true rfl]
  rcases hv with rfl | ⟨rfl, rfl⟩
  · rw [Y_go]; conv => lhs; whnf
    dsimp -iota -beta -eta -zeta only
    rw [toReq_call]
    rw [ev_cut _ _ (by omega)]
    conv => lhs; whnf
    dsimp -iota -beta -eta -zeta only
    rw [toReq_call]
    rw [ev_cut _ _ (by omega)]
    conv => lhs; whnf
    dsimp -iota -beta -eta -zeta only
    rw [toReq_call]
    rw [em]
    conv => lhs; whnf
    dsimp -iota -beta -eta -zeta only
    rw [drw (by kernel_rfl)]; conv => lhs; whnf
    dsimp -iota -beta -eta -zeta only
    rw [toReq_call]
    rw [ev_cut _ _ (by omega)]
    conv => lhs; whnf
    dsimp -iota -beta -eta -zeta only
    rw [toReq_call]
    rw [ev_cut _ _ (by omega)]
    conv => lhs; whnf
    dsimp -iota -beta -eta -zeta only
    rw [toReq_call]
    rw [eq]
    conv => lhs; whnf
    dsimp -iota -beta -eta -zeta only
    rw [drw (by kernel_rfl)]; conv => lhs; whnf
    rw [ieq_t (by omega)]
    conv => lhs; whnf
    rw [ieq_t (by omega)]
    conv => lhs; whnf
    dsimp -iota -beta -eta -zeta only
    rw [toReq_call]
    rw [ev_r10same _ _ _ _ _ _ _ _ _ _ (by omega) (by omega), hs]
    conv => lhs; whnf
    dsimp -iota -beta -eta -zeta only
    rw [toReq_call]
    rw [ev_r11same _ _ _ _ _ _ (by omega) (by omega) (by omega), sameS_refl]
    conv => lhs; whnf
    rw [Y_go]; conv => lhs; whnf
    (congr 3; simp only [ieq_eq, ine_eq, ilt_eq, ile_eq, bnot_eq, and_eq, llen_eq]; first | rfl | (rw [decide_eq_decide]; omega) | (simp; omega))
  · rw [Y_go]; conv => lhs; whnf
    dsimp -iota -beta -eta -zeta only
    rw [toReq_call]
    rw [ev_cut _ _ (by omega)]
    conv => lhs; whnf
    dsimp -iota -beta -eta -zeta only
    rw [toReq_call]
    rw [ev_cut _ _ (by omega)]
    conv => lhs; whnf
    dsimp -iota -beta -eta -zeta only
    rw [toReq_call]
    rw [em]
    conv => lhs; whnf
    dsimp -iota -beta -eta -zeta only
    rw [drw (by kernel_rfl)]; conv => lhs; whnf
    dsimp -iota -beta -eta -zeta only
    rw [toReq_call]
    rw [ev_cut _ _ (by omega)]
    conv => lhs; whnf
    dsimp -iota -beta -eta -zeta only
    rw [toReq_call]
    rw [ev_cut _ _ (by omega)]
    conv => lhs; whnf
    dsimp -iota -beta -eta -zeta only
    rw [toReq_call]
    rw [eq]
    conv => lhs; whnf
    dsimp -iota -beta -eta -zeta only
    rw [drw (by kernel_rfl)]; conv => lhs; whnf
    rw [ieq_t (by omega)]
    conv => lhs; whnf
    rw [ieq_t (by omega)]
    conv => lhs; whnf
    dsimp -iota -beta -eta -zeta only
    rw [toReq_call]
    rw [ev_r10same _ _ _ _ _ _ _ _ _ _ (by omega) (by omega), hs]
    conv => lhs; whnf
    dsimp -iota -beta -eta -zeta only
    rw [toReq_call]
    rw [ev_r11same _ _ _ _ _ _ (by omega) (by omega) (by omega), sameS_refl]
    conv => lhs; whnf
    rw [Y_go]; conv => lhs; whnf
    (congr 3; simp only [ieq_eq, ine_eq, ilt_eq, ile_eq, bnot_eq, and_eq, llen_eq]; first | rfl | (rw [decide_eq_decide]; omega) | (simp; omega))
theorem ev_WrapSame (secret : List UInt8) (k a t : Int) (o u auth data uq : List UInt8) : Y E0 (.call 6 [.sl .u8 secret, .agg [.i k, .i a, .i t, .sl .u8 o, .sl .u8 u], .sl .u8 auth, .sl .u8 data, .sl .u8 uq] []) = some (.ret (.b true) []) := by
  have hpub := ev_pubP k a t o u
  have hc := validP_chk ⟨k, a, t, o, u⟩
  have hp := validP_policy ⟨k, a, t, o, u⟩
  have hu := validP_unique ⟨k, a, t, o, u⟩
  generalize validP ⟨k, a, t, o, u⟩ = Q at *
  obtain ⟨qk, qa, qt, qo, qu⟩ := Q
  dsimp only [pubX] at *
  rw [Y_go]; conv => lhs; whnf
  dsimp -iota -beta -eta -zeta only
  rw [toReq_call]
  rw [ev_awake11]
  conv => lhs; whnf
  rw [bnot_eq]; conv => lhs; whnf
  dsimp -iota -beta -eta -zeta only
  rw [toReq_call]
  rw [ev_small11_4 _ _ _ _]
  conv => lhs; whnf
  rw [bnot_eq]; conv => lhs; whnf
  rcases Bool.eq_false_or_eq_true (decide (secret.length ≤ 140 ∧ auth.length ≤ 140 ∧ data.length ≤ 140 ∧ uq.length ≤ 140)) with hc0 | hc0
  · rw [hc0]; replace hc0 := of_decide_eq_true hc0; try simp only at hc0
    conv => lhs; whnf
    dsimp -iota -beta -eta -zeta only
    rw [toReq_call]
    rw [ev_fewp _ _ _ _ _]
    conv => lhs; whnf
    rw [bnot_eq]; conv => lhs; whnf
    rcases Bool.eq_false_or_eq_true (fewPub { kind := k, attr := a, height := t, policy := o, unique := u }) with hc1 | hc1
    · rw [hc1]
      conv => lhs; whnf
      dsimp -iota -beta -eta -zeta only
      rw [toReq_call]
      rw [hpub]
      conv => lhs; whnf
      rcases Bool.eq_false_or_eq_true (ine qk 3) with hc2 | hc2
      · rw [hc2]; replace hc2 := of_ine_t hc2; try simp only [llen_eq] at hc2
        conv => lhs; whnf
        rw [ev_WrapSame_m _ _ _ _ _ _ _ _ _ _ (.inr ⟨rfl, rfl⟩) (by simp) hc hp (by omega) (by omega) (by simp)]
      · rw [hc2]; replace hc2 := of_ine_f hc2; try simp only [llen_eq] at hc2
        subst hc2
        conv => lhs; whnf
        rw [ev_WrapSame_m _ _ _ _ _ _ _ _ _ _ (.inl rfl) (fun _ => rfl) hc hp (by omega) (by omega) (by omega)]
    · rw [hc1]
      conv => lhs; whnf
  · rw [hc0]; replace hc0 := of_decide_eq_false hc0; try simp only at hc0
    conv => lhs; whnf
end Go.Proofs.YtfjcmolccckhhaaDoor
