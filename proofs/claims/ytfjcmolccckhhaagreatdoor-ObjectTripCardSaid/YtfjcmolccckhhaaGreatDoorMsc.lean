/-
  Own texts, laid together for this claim: contracts of functions of the program and its references, used by the statements of this seat.
-/
import Derived.Test.YtfjcmolccckhhaaGreatDoorMsb
set_option linter.all false

namespace Go.Proofs.YtfjcmolccckhhaaGreatDoor
open Go Go.Ax Go.Eng
set_option linter.unusedVariables false
set_option linter.unusedSimpArgs false
attribute [local irreducible] iadd isub imul iquo irem ibit ineg ieq ine ilt ile ishl ishr beq' bnot and' seq' u8op u8rem u32op u64op u8shr u8shl u64shr u64shl u32shr u32shl i64w u8i u64i iu8 iu32 iu64 u8u64 u64u8 u32u8 u64cmp u8cmp u32cmp llen lget linb lset lcut lrep lapp lcpy lemp fits fitn ieqs sealed drawChk fpSame
attribute [local irreducible] derB seedB makeP nameB encP uniB frameB primS primR privB openS decP uintB putO
set_option maxHeartbeats 4000000
set_option maxRecDepth 100000
theorem ev_srand (sd au : List (List UInt8)) (en : List UInt8) (ac re rs ck : Int) (od : Bool) (sb : List (List (List UInt8))) (su mc : Int) (ix : List (El idxT)) (l1 l2 l3 l4 l5 l6 : Int) (ks : List (El lvT)) (st sp : Bool) (rb : List (List (List UInt8))) (ru vc : Int) (sf : Bool) (dr : Int) (ss : List (El sesT)) (ob : List (El objT)) (rl wl : List Int) (n : Int) (hen : en.length ≤ 100000) : Y E0 (.call 83 [.agg [.sl (.sl .u8) sd, .sl (.sl .u8) au, .sl .u8 en, .i ac, .i re, .i rs, .i ck, .b od, .sl (.sl (.sl .u8)) sb, .i su, .i mc, .sl idxT ix, .i l1, .i l2, .i l3, .i l4, .i l5, .i l6, .sl lvT ks, .b st, .b sp, .sl (.sl (.sl .u8)) rb, .i ru, .i vc, .b sf, .i dr, .sl sesT ss, .sl objT ob, .sl .i64 rl, .sl .i64 wl], .i n] []) = some (.ret (.tup [.agg [.sl (.sl .u8) sd, .sl (.sl .u8) au, .sl .u8 en, .i ac, .i re, .i rs, .i ck, .b od, .sl (.sl (.sl .u8)) sb, .i su, .i mc, .sl idxT ix, .i l1, .i l2, .i l3, .i l4, .i l5, .i l6, .sl lvT ks, .b st, .b sp, .sl (.sl (.sl .u8)) rb, .i ru, .i vc, .b sf, .i (iadd dr 1), .sl sesT ss, .sl objT ob, .sl .i64 rl, .sl .i64 wl], .sl .u8 (randB en re rs dr n)]) []) := by
  rw [Y_go]; conv => lhs; whnf
  dsimp -iota -beta -eta -zeta only
  rw [toReq_call]
  rw [ev_uint _ _ _ (by (simp only [sha256_len, fr1_len, fr2_len, fr3_len, nameB_l32, wkey_32, uintB_l2, uintB_l1, uintB_l8, blobB_l, bankJ_len, LL] at * <;> omega))]
  conv => lhs; whnf
  dsimp -iota -beta -eta -zeta only
  rw [toReq_call]
  rw [ev_uint _ _ _ (by (simp only [sha256_len, fr1_len, fr2_len, fr3_len, nameB_l32, wkey_32, uintB_l2, uintB_l1, uintB_l8, blobB_l, bankJ_len, LL] at * <;> omega))]
  conv => lhs; whnf
  dsimp -iota -beta -eta -zeta only
  rw [toReq_call]
  rw [ev_uint _ _ _ (by (simp only [sha256_len, fr1_len, fr2_len, fr3_len, nameB_l32, wkey_32, uintB_l2, uintB_l1, uintB_l8, blobB_l, bankJ_len, LL] at * <;> omega))]
  conv => lhs; whnf
  dsimp -iota -beta -eta -zeta only
  rw [drw (by kernel_rfl)]; conv => lhs; whnf
  dsimp -iota -beta -eta -zeta only
  rw [toReq_call]
  rw [show strOf { data := #[114, 97, 110, 100, 111, 109] } = randL from rfl, ev_derive _ _ _ _ (by omega) (by decide) (by simp only [uintB_l8, List.length_nil]; omega)]
  conv => lhs; whnf
  dsimp -iota -beta -eta -zeta only
  rfl
theorem ev_parent_t (sd au : List (List UInt8)) (en : List UInt8) (ac re rs ck : Int) (od : Bool) (sb : List (List (List UInt8))) (su mc : Int) (ix : List (El idxT)) (l1 l2 l3 l4 l5 l6 : Int) (ks : List (El lvT)) (st sp : Bool) (rb : List (List (List UInt8))) (ru vc : Int) (sf : Bool) (dr : Int) (ss : List (El sesT)) (ob : List (El objT)) (rl wl : List Int) (c h : Int) (hs : List Int) (az : List (El authT)) (is : List Int) (bs : List (List UInt8)) (p1 p2 p3 : Int) (p4 p5 s1 s2 s3 : List UInt8) (hr : Int) (hl : ob.length ≤ 1000) (hhs : hs.length ≤ 100) (hx : slotAt ob h = some ((p1, p2, p3, p4, p5), (s1, s2, s3), hr)) (h1 : p1 = 1) :
    Y E0 (.call 82 [.agg [.sl (.sl .u8) sd, .sl (.sl .u8) au, .sl .u8 en, .i ac, .i re, .i rs, .i ck, .b od, .sl (.sl (.sl .u8)) sb, .i su, .i mc, .sl idxT ix, .i l1, .i l2, .i l3, .i l4, .i l5, .i l6, .sl lvT ks, .b st, .b sp, .sl (.sl (.sl .u8)) rb, .i ru, .i vc, .b sf, .i dr, .sl sesT ss, .sl objT ob, .sl .i64 rl, .sl .i64 wl], .agg [.i c, .sl .i64 (h :: hs), .sl authT az, .sl .i64 is, .sl (.sl .u8) bs]] []) = some (.ret (.tup [.agg [.i p1, .i p2, .i p3, .sl .u8 p4, .sl .u8 p5, .sl .u8 s1, .sl .u8 s2, .sl .u8 s3, .i hr], .i 0]) []) := by
  rw [Y_go]; conv => lhs; whnf
  dsimp -iota -beta -eta -zeta only
  rw [toReq_call]
  rw [ev_ofirst _ _ _ _ _ _ (by omega)]
  conv => lhs; whnf
  dsimp -iota -beta -eta -zeta only
  rw [toReq_call]
  rw [ev_eobj_t _ _ _ _ _ _ _ _ _ _ _ _ _ _ _ _ _ _ _ _ _ _ _ _ _ _ _ _ _ _ _ _ _ _ _ _ _ _ _ _ hl hx]
  conv => lhs; whnf
  dsimp -iota -beta -eta -zeta only
  rw [drw (by kernel_rfl)]; conv => lhs; whnf
  rw [ieq_t (by omega)]
  conv => lhs; whnf
  rw [ine_f (by omega)]
  conv => lhs; whnf
  rw [Y_go]; conv => lhs; whnf
theorem ev_ocreate (sd au : List (List UInt8)) (en : List UInt8) (ac re rs ck : Int) (od : Bool) (sb : List (List (List UInt8))) (su mc : Int) (ix : List (El idxT)) (l1 l2 l3 l4 l5 l6 : Int) (ks : List (El lvT)) (st sp : Bool) (rb : List (List (List UInt8))) (ru vc : Int) (sf : Bool) (dr : Int) (ss : List (El sesT)) (ob : List (El objT)) (rl wl : List Int) (c h k a t : Int) (hs : List Int) (az : List (El authT)) (o u d : List UInt8) (p1 p2 p3 : Int) (p4 p5 s1 s2 s3 : List UInt8) (hr : Int) (hl : ob.length ≤ 1000) (hhs : hs.length ≤ 100) (hx : slotAt ob h = some ((p1, p2, p3, p4, p5), (s1, s2, s3), hr)) (h1 : p1 = 1) (ho : o.length ≤ 50000) (hd : d.length ≤ 50000) (h2 : s2.length ≤ 1000) (hen : en.length ≤ 1000) (hdr : 0 ≤ dr ∧ dr ≤ 1000000) :
    Y E0 (.call 29 [.agg [.sl (.sl .u8) sd, .sl (.sl .u8) au, .sl .u8 en, .i ac, .i re, .i rs, .i ck, .b od, .sl (.sl (.sl .u8)) sb, .i su, .i mc, .sl idxT ix, .i l1, .i l2, .i l3, .i l4, .i l5, .i l6, .sl lvT ks, .b st, .b sp, .sl (.sl (.sl .u8)) rb, .i ru, .i vc, .b sf, .i dr, .sl sesT ss, .sl objT ob, .sl .i64 rl, .sl .i64 wl], .agg [.i c, .sl .i64 (h :: hs), .sl authT az, .sl .i64 [k, a, t], .sl (.sl .u8) [o, u, d]]] []) = some (.ret (.tup [.agg [.sl (.sl .u8) sd, .sl (.sl .u8) au, .sl .u8 en, .i ac, .i re, .i rs, .i ck, .b od, .sl (.sl (.sl .u8)) sb, .i su, .i mc, .sl idxT ix, .i l1, .i l2, .i l3, .i l4, .i l5, .i l6, .sl lvT ks, .b st, .b sp, .sl (.sl (.sl .u8)) rb, .i ru, .i vc, .b sf, .i ((creR ⟨s1, s2, s3⟩ en re rs dr k a t o u d).1), .sl sesT ss, .sl objT ob, .sl .i64 rl, .sl .i64 wl], .agg (ansX (creR ⟨s1, s2, s3⟩ en re rs dr k a t o u d).2)]) []) := by
  have hR : (randB en re rs dr 32).length = 32 := by unfold randB; rw [derB_len (by omega)]; rfl
  unfold creR
  generalize hRR : randB en re rs dr 32 = R at *
  have hlen := make_len (secret := R) (auth := u) (data := d) (p := ⟨k, a, t, o, []⟩)
  have em := ev_wmake R k a t o [] u d (by omega)
  generalize makeP R ⟨k, a, t, o, []⟩ u d = M at *
  obtain ⟨⟨qk, qa, qt, qo, qu⟩, ⟨qx, qy, qz⟩, e⟩ := M
  dsimp only [pubX, senX] at *
  by_cases he : e = 0
  · subst he
    rw [if_neg (by simp)]
    rw [Y_go]; conv => lhs; whnf
    dsimp -iota -beta -eta -zeta only
    rw [toReq_call]
    rw [ev_parent_t _ _ _ _ _ _ _ _ _ _ _ _ _ _ _ _ _ _ _ _ _ _ _ _ _ _ _ _ _ _ _ _ _ _ _ _ _ _ _ _ _ _ _ _ _ hl hhs hx h1]
    conv => lhs; whnf
    rw [ine_f (by omega)]
    conv => lhs; whnf
    dsimp -iota -beta -eta -zeta only
    rw [toReq_call]
    rw [ev_srand _ _ _ _ _ _ _ _ _ _ _ _ _ _ _ _ _ _ _ _ _ _ _ _ _ _ _ _ _ _ _ (by omega), hRR]
    conv => lhs; whnf
    dsimp -iota -beta -eta -zeta only
    rw [toReq_call]
    rw [ev_otempl _ _ _ _ _ _ _ _ (by (simp only [sha256_len, fr1_len, fr2_len, fr3_len, nameB_l32, wkey_32, uintB_l2, uintB_l1, uintB_l8, blobB_l, bankJ_len, LL] at * <;> omega))]
    conv => lhs; whnf
    dsimp -iota -beta -eta -zeta only
    rw [toReq_call]
    rw [ev_oblob1 _ _ _ _ _ _ _ (by (simp only [sha256_len, fr1_len, fr2_len, fr3_len, nameB_l32, wkey_32, uintB_l2, uintB_l1, uintB_l8, blobB_l, bankJ_len, LL] at * <;> omega))]
    conv => lhs; whnf
    dsimp -iota -beta -eta -zeta only
    rw [toReq_call]
    rw [ev_oblob2 _ _ _ _ _ _ _ _ (by (simp only [sha256_len, fr1_len, fr2_len, fr3_len, nameB_l32, wkey_32, uintB_l2, uintB_l1, uintB_l8, blobB_l, bankJ_len, LL] at * <;> omega))]
    conv => lhs; whnf
    dsimp -iota -beta -eta -zeta only
    rw [toReq_call]
    rw [em]
    conv => lhs; whnf
    dsimp -iota -beta -eta -zeta only
    rw [drw (by kernel_rfl)]; conv => lhs; whnf
    rw [ine_f (by omega)]
    conv => lhs; whnf
    dsimp -iota -beta -eta -zeta only
    rw [toReq_call]
    rw [ev_aenc _ _ _ _ _ (by omega) (by omega)]
    conv => lhs; whnf
    dsimp -iota -beta -eta -zeta only
    rw [toReq_call]
    rw [ev_wpriv _ _ _ _ _ _ _ _ _ _ _ (by omega) (by omega) (by omega)]
    conv => lhs; whnf
    dsimp -iota -beta -eta -zeta only
    rw [iadd_eq (by omega)]
    rw [drw (by kernel_rfl)]; conv => lhs; whnf
  · rw [if_pos he]
    rw [Y_go]; conv => lhs; whnf
    dsimp -iota -beta -eta -zeta only
    rw [toReq_call]
    rw [ev_parent_t _ _ _ _ _ _ _ _ _ _ _ _ _ _ _ _ _ _ _ _ _ _ _ _ _ _ _ _ _ _ _ _ _ _ _ _ _ _ _ _ _ _ _ _ _ hl hhs hx h1]
    conv => lhs; whnf
    rw [ine_f (by omega)]
    conv => lhs; whnf
    dsimp -iota -beta -eta -zeta only
    rw [toReq_call]
    rw [ev_srand _ _ _ _ _ _ _ _ _ _ _ _ _ _ _ _ _ _ _ _ _ _ _ _ _ _ _ _ _ _ _ (by omega), hRR]
    conv => lhs; whnf
    dsimp -iota -beta -eta -zeta only
    rw [toReq_call]
    rw [ev_otempl _ _ _ _ _ _ _ _ (by (simp only [sha256_len, fr1_len, fr2_len, fr3_len, nameB_l32, wkey_32, uintB_l2, uintB_l1, uintB_l8, blobB_l, bankJ_len, LL] at * <;> omega))]
    conv => lhs; whnf
    dsimp -iota -beta -eta -zeta only
    rw [toReq_call]
    rw [ev_oblob1 _ _ _ _ _ _ _ (by (simp only [sha256_len, fr1_len, fr2_len, fr3_len, nameB_l32, wkey_32, uintB_l2, uintB_l1, uintB_l8, blobB_l, bankJ_len, LL] at * <;> omega))]
    conv => lhs; whnf
    dsimp -iota -beta -eta -zeta only
    rw [toReq_call]
    rw [ev_oblob2 _ _ _ _ _ _ _ _ (by (simp only [sha256_len, fr1_len, fr2_len, fr3_len, nameB_l32, wkey_32, uintB_l2, uintB_l1, uintB_l8, blobB_l, bankJ_len, LL] at * <;> omega))]
    conv => lhs; whnf
    dsimp -iota -beta -eta -zeta only
    rw [toReq_call]
    rw [em]
    conv => lhs; whnf
    dsimp -iota -beta -eta -zeta only
    rw [drw (by kernel_rfl)]; conv => lhs; whnf
    rw [ine_t (by omega)]
    conv => lhs; whnf
    dsimp -iota -beta -eta -zeta only
    rw [toReq_call]
    rw [ev_ofail _ _ _ _ _ _ _ _ _ _ _ _ _ _ _ _ _ _ _ _ _ _ _ _ _ _ _ _ _ _ _]
    conv => lhs; whnf
theorem ev_oLoad (sd au : List (List UInt8)) (en : List UInt8) (ac re rs ck : Int) (od : Bool) (sb : List (List (List UInt8))) (su mc : Int) (ix : List (El idxT)) (l1 l2 l3 l4 l5 l6 : Int) (ks : List (El lvT)) (st sp : Bool) (rb : List (List (List UInt8))) (ru vc : Int) (sf : Bool) (dr : Int) (ss : List (El sesT)) (ob : List (El objT)) (rl wl : List Int) (c h : Int) (hs : List Int) (az : List (El authT)) (is : List Int) (bp bq : List UInt8) (p1 p2 p3 : Int) (p4 p5 s1 s2 s3 : List UInt8) (hr : Int) (hl : ob.length ≤ 1000) (hhs : hs.length ≤ 100) (hx : slotAt ob h = some ((p1, p2, p3, p4, p5), (s1, s2, s3), hr)) (h1 : p1 = 1) (hb : bp.length ≤ 100000) (hq : bq.length ≤ 100000) (h2 : s2.length ≤ 1000) :
    Y E0 (.call 30 [.agg [.sl (.sl .u8) sd, .sl (.sl .u8) au, .sl .u8 en, .i ac, .i re, .i rs, .i ck, .b od, .sl (.sl (.sl .u8)) sb, .i su, .i mc, .sl idxT ix, .i l1, .i l2, .i l3, .i l4, .i l5, .i l6, .sl lvT ks, .b st, .b sp, .sl (.sl (.sl .u8)) rb, .i ru, .i vc, .b sf, .i dr, .sl sesT ss, .sl objT ob, .sl .i64 rl, .sl .i64 wl], .agg [.i c, .sl .i64 (h :: hs), .sl authT az, .sl .i64 is, .sl (.sl .u8) [bp, bq]]] []) = some (.ret (.tup [.agg [.sl (.sl .u8) sd, .sl (.sl .u8) au, .sl .u8 en, .i ac, .i re, .i rs, .i ck, .b od, .sl (.sl (.sl .u8)) sb, .i su, .i mc, .sl idxT ix, .i l1, .i l2, .i l3, .i l4, .i l5, .i l6, .sl lvT ks, .b st, .b sp, .sl (.sl (.sl .u8)) rb, .i ru, .i vc, .b sf, .i dr, .sl sesT ss, .sl objT ((loaR ob ⟨s1, s2, s3⟩ hr bp bq).1), .sl .i64 rl, .sl .i64 wl], .agg (ansX (loaR ob ⟨s1, s2, s3⟩ hr bp bq).2)]) []) := by
  have ed := ev_adec bp (by omega)
  have hdl := decP_le bp
  unfold loaR
  generalize decP bp = D at *
  obtain ⟨⟨qk, qa, qt, qo, qu⟩, e⟩ := D
  dsimp only [pubX] at *
  by_cases he : e = 0
  · subst he
    rw [if_neg (by simp)]
    have eo := ev_wopen s1 s2 s3 qk qa qt qo qu bq (by omega) (by omega) (by omega) (by omega)
    generalize openS ⟨s1, s2, s3⟩ ⟨qk, qa, qt, qo, qu⟩ bq = O at *
    obtain ⟨⟨qx, qy, qz⟩, e⟩ := O
    dsimp only [senX] at *
    by_cases he : e = 0
    · subst he
      rw [if_neg (by simp)]
      unfold putO
      by_cases hf : freeAt ob < ob.length
      · rw [if_pos hf]
        rw [Y_go]; conv => lhs; whnf
        dsimp -iota -beta -eta -zeta only
        rw [toReq_call]
        rw [ev_parent_t _ _ _ _ _ _ _ _ _ _ _ _ _ _ _ _ _ _ _ _ _ _ _ _ _ _ _ _ _ _ _ _ _ _ _ _ _ _ _ _ _ _ _ _ _ hl hhs hx h1]
        conv => lhs; whnf
        rw [ine_f (by omega)]
        conv => lhs; whnf
        dsimp -iota -beta -eta -zeta only
        rw [toReq_call]
        rw [ev_oblob0 _ _ _ _ _ _ (by (simp only [sha256_len, fr1_len, fr2_len, fr3_len, nameB_l32, wkey_32, uintB_l2, uintB_l1, uintB_l8, blobB_l, bankJ_len, LL] at * <;> omega))]
        conv => lhs; whnf
        dsimp -iota -beta -eta -zeta only
        rw [toReq_call]
        rw [ed]
        conv => lhs; whnf
        rw [ine_f (by omega)]
        conv => lhs; whnf
        dsimp -iota -beta -eta -zeta only
        rw [toReq_call]
        rw [ev_oblob1 _ _ _ _ _ _ _ (by (simp only [sha256_len, fr1_len, fr2_len, fr3_len, nameB_l32, wkey_32, uintB_l2, uintB_l1, uintB_l8, blobB_l, bankJ_len, LL] at * <;> omega))]
        conv => lhs; whnf
        dsimp -iota -beta -eta -zeta only
        rw [toReq_call]
        rw [eo]
        conv => lhs; whnf
        dsimp -iota -beta -eta -zeta only
        rw [drw (by kernel_rfl)]; conv => lhs; whnf
        rw [ine_f (by omega)]
        conv => lhs; whnf
        dsimp -iota -beta -eta -zeta only
        rw [toReq_call]
        rw [ev_oload _ _ _ _ _ _ _ _ _ _ _ _ _ _ _ _ _ _ _ _ _ _ _ _ _ _ _ _ _ _ _ _ _ _ _ _ _ _ _ hl, if_pos hf]
        conv => lhs; whnf
        rw [ine_f (by omega)]
        conv => lhs; whnf
        dsimp -iota -beta -eta -zeta only
        rw [toReq_call]
        rw [ev_aname _ _ _ _ _ (by omega) (by omega)]
        conv => lhs; whnf
        dsimp -iota -beta -eta -zeta only
        rw [drw (by kernel_rfl)]; conv => lhs; whnf
      · rw [if_neg hf]
        rw [Y_go]; conv => lhs; whnf
        dsimp -iota -beta -eta -zeta only
        rw [toReq_call]
        rw [ev_parent_t _ _ _ _ _ _ _ _ _ _ _ _ _ _ _ _ _ _ _ _ _ _ _ _ _ _ _ _ _ _ _ _ _ _ _ _ _ _ _ _ _ _ _ _ _ hl hhs hx h1]
        conv => lhs; whnf
        rw [ine_f (by omega)]
        conv => lhs; whnf
        dsimp -iota -beta -eta -zeta only
        rw [toReq_call]
        rw [ev_oblob0 _ _ _ _ _ _ (by (simp only [sha256_len, fr1_len, fr2_len, fr3_len, nameB_l32, wkey_32, uintB_l2, uintB_l1, uintB_l8, blobB_l, bankJ_len, LL] at * <;> omega))]
        conv => lhs; whnf
        dsimp -iota -beta -eta -zeta only
        rw [toReq_call]
        rw [ed]
        conv => lhs; whnf
        rw [ine_f (by omega)]
        conv => lhs; whnf
        dsimp -iota -beta -eta -zeta only
        rw [toReq_call]
        rw [ev_oblob1 _ _ _ _ _ _ _ (by (simp only [sha256_len, fr1_len, fr2_len, fr3_len, nameB_l32, wkey_32, uintB_l2, uintB_l1, uintB_l8, blobB_l, bankJ_len, LL] at * <;> omega))]
        conv => lhs; whnf
        dsimp -iota -beta -eta -zeta only
        rw [toReq_call]
        rw [eo]
        conv => lhs; whnf
        dsimp -iota -beta -eta -zeta only
        rw [drw (by kernel_rfl)]; conv => lhs; whnf
        rw [ine_f (by omega)]
        conv => lhs; whnf
        dsimp -iota -beta -eta -zeta only
        rw [toReq_call]
        rw [ev_oload _ _ _ _ _ _ _ _ _ _ _ _ _ _ _ _ _ _ _ _ _ _ _ _ _ _ _ _ _ _ _ _ _ _ _ _ _ _ _ hl, if_neg hf]
        conv => lhs; whnf
        rw [ine_t (by omega)]
        conv => lhs; whnf
        dsimp -iota -beta -eta -zeta only
        rw [toReq_call]
        rw [ev_ofail _ _ _ _ _ _ _ _ _ _ _ _ _ _ _ _ _ _ _ _ _ _ _ _ _ _ _ _ _ _ _]
        conv => lhs; whnf
    · rw [if_pos he]
      rw [Y_go]; conv => lhs; whnf
      dsimp -iota -beta -eta -zeta only
      rw [toReq_call]
      rw [ev_parent_t _ _ _ _ _ _ _ _ _ _ _ _ _ _ _ _ _ _ _ _ _ _ _ _ _ _ _ _ _ _ _ _ _ _ _ _ _ _ _ _ _ _ _ _ _ hl hhs hx h1]
      conv => lhs; whnf
      rw [ine_f (by omega)]
      conv => lhs; whnf
      dsimp -iota -beta -eta -zeta only
      rw [toReq_call]
      rw [ev_oblob0 _ _ _ _ _ _ (by (simp only [sha256_len, fr1_len, fr2_len, fr3_len, nameB_l32, wkey_32, uintB_l2, uintB_l1, uintB_l8, blobB_l, bankJ_len, LL] at * <;> omega))]
      conv => lhs; whnf
      dsimp -iota -beta -eta -zeta only
      rw [toReq_call]
      rw [ed]
      conv => lhs; whnf
      rw [ine_f (by omega)]
      conv => lhs; whnf
      dsimp -iota -beta -eta -zeta only
      rw [toReq_call]
      rw [ev_oblob1 _ _ _ _ _ _ _ (by (simp only [sha256_len, fr1_len, fr2_len, fr3_len, nameB_l32, wkey_32, uintB_l2, uintB_l1, uintB_l8, blobB_l, bankJ_len, LL] at * <;> omega))]
      conv => lhs; whnf
      dsimp -iota -beta -eta -zeta only
      rw [toReq_call]
      rw [eo]
      conv => lhs; whnf
      dsimp -iota -beta -eta -zeta only
      rw [drw (by kernel_rfl)]; conv => lhs; whnf
      rw [ine_t (by omega)]
      conv => lhs; whnf
      dsimp -iota -beta -eta -zeta only
      rw [toReq_call]
      rw [ev_ofail _ _ _ _ _ _ _ _ _ _ _ _ _ _ _ _ _ _ _ _ _ _ _ _ _ _ _ _ _ _ _]
      conv => lhs; whnf
  · rw [if_pos he]
    rw [Y_go]; conv => lhs; whnf
    dsimp -iota -beta -eta -zeta only
    rw [toReq_call]
    rw [ev_parent_t _ _ _ _ _ _ _ _ _ _ _ _ _ _ _ _ _ _ _ _ _ _ _ _ _ _ _ _ _ _ _ _ _ _ _ _ _ _ _ _ _ _ _ _ _ hl hhs hx h1]
    conv => lhs; whnf
    rw [ine_f (by omega)]
    conv => lhs; whnf
    dsimp -iota -beta -eta -zeta only
    rw [toReq_call]
    rw [ev_oblob0 _ _ _ _ _ _ (by (simp only [sha256_len, fr1_len, fr2_len, fr3_len, nameB_l32, wkey_32, uintB_l2, uintB_l1, uintB_l8, blobB_l, bankJ_len, LL] at * <;> omega))]
    conv => lhs; whnf
    dsimp -iota -beta -eta -zeta only
    rw [toReq_call]
    rw [ed]
    conv => lhs; whnf
    rw [ine_t (by omega)]
    conv => lhs; whnf
    dsimp -iota -beta -eta -zeta only
    rw [toReq_call]
    rw [ev_ofail _ _ _ _ _ _ _ _ _ _ _ _ _ _ _ _ _ _ _ _ _ _ _ _ _ _ _ _ _ _ _]
    conv => lhs; whnf
end Go.Proofs.YtfjcmolccckhhaaGreatDoor

namespace Go.Ax
open Go.Eng
theorem privB_most (par s : Sen) (p : Pub) : (privB par p s).length ≤ 1200 := by
  unfold privB
  have hn := nameB_l32 p
  by_cases h : 1024 < (plainS s).length
  · rw [sealB, if_pos (.inr h)]; simp
  · rw [sealB_len (by rw [List.length_take]; omega) (by omega), List.length_take]; omega
theorem makeP_un (secret : List UInt8) (k a h : Int) (o u u' auth data : List UInt8) : makeP secret ⟨k, a, h, o, u⟩ auth data = makeP secret ⟨k, a, h, o, u'⟩ auth data := rfl
end Go.Ax
namespace Go.Proofs.YtfjcmolccckhhaaGreatDoor
open Go Go.Ax Go.Eng
set_option linter.unusedVariables false
set_option linter.unusedSimpArgs false
attribute [local irreducible] iadd isub imul iquo irem ibit ineg ieq ine ilt ile ishl ishr beq' bnot and' seq' u8op u8rem u32op u64op u8shr u8shl u64shr u64shl u32shr u32shl i64w u8i u64i iu8 iu32 iu64 u8u64 u64u8 u32u8 u64cmp u8cmp u32cmp llen lget linb lset lcut lrep lapp lcpy lemp fits fitn ieqs sealed drawChk fpSame
attribute [local irreducible] derB seedB makeP nameB encP uniB frameB primS primR privB openS decP uintB putO
set_option maxHeartbeats 4000000
set_option maxRecDepth 100000
theorem ev_ObjectTrip (ac h : Int) (x : UInt8) (auth data : List UInt8) : Y E0 (.call 6 [.i ac, .i h, .u8 x, .sl .u8 auth, .sl .u8 data] []) = some (.ret (.b true) []) := by
  obtain ⟨A, hA, hA2⟩ := attr2 x
  by_cases hg : auth.length ≤ 32 ∧ data.length ≤ 128
  · obtain ⟨g1, g2⟩ := hg
    have r1 : 0 ≤ h % 3 ∧ h % 3 < (seedsE ent0).length := by rw [seedsE_len]; omega
    obtain ⟨S1, -, hS1, ht⟩ := prim_ex (sd := seedsE ent0) (ob := List.replicate 3 obj0) (h := h % 3) (k := 1) (a := 1) (t := 0) (o := []) (auth := []) (d := []) r1 (by decide) (by decide) (by simp) (by simp) (by simp)
    rw [show freeAt (List.replicate 3 obj0) = 0 from rfl] at ht
    generalize encP ⟨1, 1, 0, [], uniB 1 0 ⟨[], S1, []⟩⟩ = E1 at ht
    generalize nameB ⟨1, 1, 0, [], uniB 1 0 ⟨[], S1, []⟩⟩ = N1 at ht
    generalize uniB 1 0 ⟨[], S1, []⟩ = U1 at ht
    -- what Create makes
    have hk : chkP ⟨3, A, 0, [], List.replicate (uniq 3).toNat 0⟩ = 0 := by rcases hA2 with rfl | rfl <;> decide
    have hm := make_okP (secret := randB (derB ent0 entrL [] 32) 1 0 0 32) (auth := auth) (data := data) hk g1 g2 (fun _ => rfl)
    have hoS := make_okS (randB (derB ent0 entrL [] 32) 1 0 0 32) auth data g1 g2
    generalize derB (randB (derB ent0 entrL [] 32) 1 0 0 32) seedL [] 32 = S2 at hm hoS
    have hU : (uniB 3 0 ⟨auth, S2, data⟩).length = 32 := by rw [uniB, if_neg (by decide), sha256_len]
    have hc2 : chkP ⟨3, A, 0, [], uniB 3 0 ⟨auth, S2, data⟩⟩ = 0 := by
      unfold chkP at hk ⊢
      simp only [hU] at hk ⊢
      rcases hA2 with rfl | rfl <;> decide
    have hdec := dec_encP hc2
    have hop := open_priv (par := ⟨[], S1, []⟩) (p := ⟨3, A, 0, [], uniB 3 0 ⟨auth, S2, data⟩⟩) hoS
    rw [if_neg (by simp)] at hop
    have hcre : creR ⟨[], S1, []⟩ (derB ent0 entrL [] 32) 1 0 0 3 A 0 [] auth data = (1, ⟨0, [], [encP ⟨3, A, 0, [], uniB 3 0 ⟨auth, S2, data⟩⟩, privB ⟨[], S1, []⟩ ⟨3, A, 0, [], uniB 3 0 ⟨auth, S2, data⟩⟩ ⟨auth, S2, data⟩]⟩) := by
      unfold creR
      rw [makeP_un _ 3 A 0 [] [] (List.replicate (uniq 3).toNat 0), hm]
      simp
    have hpl : (privB ⟨[], S1, []⟩ ⟨3, A, 0, [], uniB 3 0 ⟨auth, S2, data⟩⟩ ⟨auth, S2, data⟩).length ≤ 1200 := privB_most _ _ _
    have hel : (encP ⟨3, A, 0, [], uniB 3 0 ⟨auth, S2, data⟩⟩).length ≤ 1000 := by rw [encP_len (by simp) (by simp only; omega)]; simp only [List.length_nil]; omega
    generalize privB ⟨[], S1, []⟩ ⟨3, A, 0, [], uniB 3 0 ⟨auth, S2, data⟩⟩ ⟨auth, S2, data⟩ = PB at *
    generalize encP ⟨3, A, 0, [], uniB 3 0 ⟨auth, S2, data⟩⟩ = EB at *
    have hloa : loaR ((List.replicate 3 obj0).set 0 ((1, 1, 0, [], U1), ([], S1, []), h % 3)) ⟨[], S1, []⟩ (h % 3) EB PB = (((List.replicate 3 obj0).set 0 ((1, 1, 0, [], U1), ([], S1, []), h % 3)).set 1 ((3, A, 0, [], uniB 3 0 ⟨auth, S2, data⟩), (auth, S2, data), h % 3), ⟨0, [513], [nameB ⟨3, A, 0, [], uniB 3 0 ⟨auth, S2, data⟩⟩]⟩) := by
      unfold loaR
      rw [hdec]
      simp only [ne_eq, not_true_eq_false, if_false]
      rw [hop]
      simp only [ne_eq, not_true_eq_false, if_false]
      unfold putO
      rw [show freeAt ((List.replicate 3 obj0).set 0 ((1, 1, 0, [], U1), ([], S1, []), h % 3)) = 1 from rfl, if_pos (by simp)]
      rfl
    generalize nameB ⟨3, A, 0, [], uniB 3 0 ⟨auth, S2, data⟩⟩ = NB at *
    generalize uniB 3 0 ⟨auth, S2, data⟩ = UB at *
    have hx0 : slotAt ((List.replicate 3 obj0).set 0 ((1, 1, 0, [], U1), ([], S1, []), h % 3)) (512 + 0) = some ((1, 1, 0, [], U1), ([], S1, []), h % 3) := rfl
    have hx1 : slotAt (((List.replicate 3 obj0).set 0 ((1, 1, 0, [], U1), ([], S1, []), h % 3)).set 1 ((3, A, 0, [], UB), (auth, S2, data), h % 3)) (512 + 1) = some ((3, A, 0, [], UB), (auth, S2, data), h % 3) := rfl
    have hg1 : lget (((List.replicate 3 obj0).set 0 ((1, 1, 0, [], U1), ([], S1, []), h % 3)).set 1 ((3, A, 0, [], UB), (auth, S2, data), h % 3)) 1 = some ((3, A, 0, [], UB), (auth, S2, data), h % 3) := by rw [lget_d]; rfl
    have hl3 : (((List.replicate 3 obj0).set 0 ((1, 1, 0, [], U1), ([], S1, []), h % 3)).set 1 ((3, A, 0, [], UB), (auth, S2, data), h % 3)).length = 3 := by simp
    have hen : (derB ent0 entrL [] 32).length = 32 := by rw [derB_len (by omega)]; rfl
    rw [Y_go]; conv => lhs; whnf
    dsimp -iota -beta -eta -zeta only
    rw [toReq_call]
    rw [ev_awake21]
    conv => lhs; whnf
    rw [bnot_eq]; conv => lhs; whnf
    rw [ilt_f (by (simp only [sha256_len, fr1_len, fr2_len, fr3_len, nameB_l32, wkey_32, uintB_l2, uintB_l1, uintB_l8, blobB_l, bankJ_len, LL] at * <;> omega))]
    conv => lhs; whnf
    rw [ilt_f (by (simp only [sha256_len, fr1_len, fr2_len, fr3_len, nameB_l32, wkey_32, uintB_l2, uintB_l1, uintB_l8, blobB_l, bankJ_len, LL] at * <;> omega))]
    conv => lhs; whnf
    dsimp -iota -beta -eta -zeta only
    rw [toReq_call]
    rw [ev_state0]
    conv => lhs; whnf
    dsimp -iota -beta -eta -zeta only
    rw [toReq_call]
    rw [ev_mod _ _ (by omega)]
    conv => lhs; whnf
    dsimp -iota -beta -eta -zeta only
    rw [toReq_call]
    rw [ev_p21 _ _ _ _ _ _ _]
    conv => lhs; whnf
    dsimp -iota -beta -eta -zeta only
    rw [toReq_call]
    rw [ev_oprim _ _ _ _ _ _ _ _ _ _ _ _ _ _ _ _ _ _ _ _ _ _ _ _ _ _ _ _ _ _ _ _ _ _ _ _ _ _ _ _ (by simp) (by decide) (seedsE_le _) (by simp) (by simp) (by simp), ht]
    conv => lhs; whnf
    dsimp -iota -beta -eta -zeta only
    rw [drw (by kernel_rfl)]; conv => lhs; whnf
    dsimp -iota -beta -eta -zeta only
    rw [toReq_call]
    rw [ev_on21 _ _ _ (by omega)]
    conv => lhs; whnf
    dsimp -iota -beta -eta -zeta only
    rw [hA]
    rw [toReq_call]
    rw [ev_ocreate _ _ _ _ _ _ _ _ _ _ _ _ _ _ _ _ _ _ _ _ _ _ _ _ _ _ _ _ _ _ _ _ _ _ _ _ _ _ _ _ _ _ _ _ _ _ _ _ _ (by simp) (by simp) hx0 rfl (by simp) (by omega) (by omega) (by omega) (by omega), hcre]
    conv => lhs; whnf
    dsimp -iota -beta -eta -zeta only
    rw [ine_f (by omega)]
    conv => lhs; whnf
    rw [ine_f (by omega)]
    conv => lhs; whnf
    rw [Y_go]; conv => lhs; whnf
    rw [ine_f (by (simp only [sha256_len, fr1_len, fr2_len, fr3_len, nameB_l32, wkey_32, uintB_l2, uintB_l1, uintB_l8, blobB_l, bankJ_len, LL] at * <;> omega))]
    conv => lhs; whnf
    dsimp -iota -beta -eta -zeta only
    rw [lg0]; conv => lhs; whnf
    rw [lg1]; conv => lhs; whnf
    dsimp -iota -beta -eta -zeta only
    rw [toReq_call]
    rw [ev_on21 _ _ _ (by omega)]
    conv => lhs; whnf
    dsimp -iota -beta -eta -zeta only
    rw [toReq_call]
    rw [ev_oLoad _ _ _ _ _ _ _ _ _ _ _ _ _ _ _ _ _ _ _ _ _ _ _ _ _ _ _ _ _ _ _ _ _ _ _ _ _ _ _ _ _ _ _ _ _ _ (by simp) (by simp) hx0 rfl (by omega) (by omega) (by omega), hloa]
    conv => lhs; whnf
    dsimp -iota -beta -eta -zeta only
    rw [drw (by kernel_rfl)]; conv => lhs; whnf
    rw [ine_f (by omega)]
    conv => lhs; whnf
    rw [ine_f (by (simp only [sha256_len, fr1_len, fr2_len, fr3_len, nameB_l32, wkey_32, uintB_l2, uintB_l1, uintB_l8, blobB_l, bankJ_len, LL] at * <;> omega))]
    conv => lhs; whnf
    rw [lg0]; conv => lhs; whnf
    rw [ine_f (by omega)]
    conv => lhs; whnf
    rw [Y_go]; conv => lhs; whnf
    rw [ine_f (by rw [llen_eq, hl3]; rfl)]; conv => lhs; whnf
    dsimp -iota -beta -eta -zeta only
    rw [toReq_call]
    rw [ev_on21 _ _ _ (by omega)]
    conv => lhs; whnf
    dsimp -iota -beta -eta -zeta only
    rw [toReq_call]
    rw [ev_ounseal_t _ _ _ _ _ _ _ _ _ _ _ _ _ _ _ _ _ _ _ _ _ _ _ _ _ _ _ _ _ _ _ _ _ _ _ _ _ _ _ _ _ _ _ _ _ (by simp) (by simp) hx1 rfl]
    conv => lhs; whnf
    dsimp -iota -beta -eta -zeta only
    rw [drw (by kernel_rfl)]; conv => lhs; whnf
    rw [hg1]; conv => lhs; whnf
    dsimp -iota -beta -eta -zeta only
    rw [ieq_t (by omega)]
    conv => lhs; whnf
    rw [ieq_t (by (simp only [sha256_len, fr1_len, fr2_len, fr3_len, nameB_l32, wkey_32, uintB_l2, uintB_l1, uintB_l8, blobB_l, bankJ_len, LL] at * <;> omega))]
    conv => lhs; whnf
    rw [lg0]; conv => lhs; whnf
    dsimp -iota -beta -eta -zeta only
    rw [toReq_call]
    rw [ev_same _ _ (by omega)]
    conv => lhs; whnf
    rw [decide_eq_true rfl]; conv => lhs; whnf
    rw [Y_go]; conv => lhs; whnf
    dsimp -iota -beta -eta -zeta only
    rw [toReq_call]
    rw [ev_same _ _ (by omega)]
    conv => lhs; whnf
    rw [decide_eq_true rfl]; conv => lhs; whnf
    dsimp -iota -beta -eta -zeta only
    rw [toReq_call]
    rw [ev_mod _ _ (by omega)]
    conv => lhs; whnf
    dsimp -iota -beta -eta -zeta only
    rw [drw (by kernel_rfl)]; conv => lhs; whnf
    (congr 3; simp only [ieq_eq, ine_eq, ilt_eq, ile_eq, bnot_eq, and_eq, llen_eq]; first | rfl | (rw [decide_eq_decide]; omega) | (simp; omega))
  · rw [Y_go]; conv => lhs; whnf
    dsimp -iota -beta -eta -zeta only
    rw [toReq_call]
    rw [ev_awake21]
    conv => lhs; whnf
    rw [bnot_eq]; conv => lhs; whnf
    rcases Bool.eq_false_or_eq_true (ilt 32 (llen auth)) with hc0 | hc0
    · rw [hc0]; replace hc0 := of_ilt_t hc0; try simp only [llen_eq] at hc0
      conv => lhs; whnf
    · rw [hc0]; replace hc0 := of_ilt_f hc0; try simp only [llen_eq] at hc0
      conv => lhs; whnf
      rw [ilt_t (by (simp only [sha256_len, fr1_len, fr2_len, fr3_len, nameB_l32, wkey_32, uintB_l2, uintB_l1, uintB_l8, blobB_l, bankJ_len, LL] at * <;> omega))]
      conv => lhs; whnf
end Go.Proofs.YtfjcmolccckhhaaGreatDoor
