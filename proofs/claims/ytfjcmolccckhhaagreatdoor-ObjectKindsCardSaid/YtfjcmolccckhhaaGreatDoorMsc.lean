/-
  Own texts, laid together for this claim: contracts of functions of the program and its references, used by the statements of this seat.
-/
import Derived.Test.YtfjcmolccckhhaaGreatDoorMsb
set_option linter.all false

namespace Go.Proofs.YtfjcmolccckhhaaGreatDoor
open Go Go.Ax Go.Eng
set_option linter.unusedVariables false
set_option linter.unusedSimpArgs false
attribute [local irreducible] iadd isub imul iquo irem ibit ineg ieq ine ilt ile ishl ishr beq' bnot and' seq' u8op u8rem u32op u64op u8shr u8shl u64shr u64shl u32shr u32shl i64w u8i u64i iu8 iu32 iu64 u8u64 u64u8 u32u8 u64cmp u8cmp u32cmp llen lget linb lset lcut lrep lapp lcpy lemp fits fitn ieqs sealed drawChk fpSame
attribute [local irreducible] derB seedB makeP nameB encP uniB frameB primS
set_option maxHeartbeats 4000000
set_option maxRecDepth 100000
theorem ev_p21 (h k a t : Int) (o u d : List UInt8) : Y E0 (.call 16 [.i h, .i k, .i a, .i t, .sl .u8 o, .sl .u8 u, .sl .u8 d] []) = some (.ret (.agg [.i 9, .sl .i64 [h], .sl authT [], .sl .i64 [k, a, t], .sl (.sl .u8) [o, u, d]]) []) := by
  rw [Y_go]; conv => lhs; whnf
theorem ev_on21 (c s : Int) (bs : List (List UInt8)) (hs : 0 ≤ s ∧ s ≤ 100000) : Y E0 (.call 20 [.i c, .i s, .sl (.sl .u8) bs] []) = some (.ret (.agg [.i c, .sl .i64 [512 + s], .sl authT [], .sl .i64 [], .sl (.sl .u8) bs]) []) := by
  rw [Y_go]; conv => lhs; whnf
  dsimp -iota -beta -eta -zeta only
  rw [iadd_eq (by omega)]
theorem ev_ofail (sd au : List (List UInt8)) (en : List UInt8) (ac re rs ck : Int) (od : Bool) (sb : List (List (List UInt8))) (su mc : Int) (ix : List (El idxT)) (l1 l2 l3 l4 l5 l6 : Int) (ks : List (El lvT)) (st sp : Bool) (rb : List (List (List UInt8))) (ru vc : Int) (sf : Bool) (dr : Int) (ss : List (El sesT)) (ob : List (El objT)) (rl wl : List Int) (e : Int) : Y E0 (.call 41 [.agg [.sl (.sl .u8) sd, .sl (.sl .u8) au, .sl .u8 en, .i ac, .i re, .i rs, .i ck, .b od, .sl (.sl (.sl .u8)) sb, .i su, .i mc, .sl idxT ix, .i l1, .i l2, .i l3, .i l4, .i l5, .i l6, .sl lvT ks, .b st, .b sp, .sl (.sl (.sl .u8)) rb, .i ru, .i vc, .b sf, .i dr, .sl sesT ss, .sl objT ob, .sl .i64 rl, .sl .i64 wl], .i e] []) = some (.ret (.tup [.agg [.sl (.sl .u8) sd, .sl (.sl .u8) au, .sl .u8 en, .i ac, .i re, .i rs, .i ck, .b od, .sl (.sl (.sl .u8)) sb, .i su, .i mc, .sl idxT ix, .i l1, .i l2, .i l3, .i l4, .i l5, .i l6, .sl lvT ks, .b st, .b sp, .sl (.sl (.sl .u8)) rb, .i ru, .i vc, .b sf, .i dr, .sl sesT ss, .sl objT ob, .sl .i64 rl, .sl .i64 wl], .agg [.i e, .sl .i64 [], .sl (.sl .u8) [], .sl (.sl .u8) []]]) []) := by
  rw [Y_go]; conv => lhs; whnf
theorem ev_ofirst (c h : Int) (hs : List Int) (az : List (El authT)) (is : List Int) (bs : List (List UInt8)) (hl : hs.length ≤ 1000) : Y E0 (.call 40 [.agg [.i c, .sl .i64 (h :: hs), .sl authT az, .sl .i64 is, .sl (.sl .u8) bs]] []) = some (.ret (.i h) []) := by
  rw [Y_go]; conv => lhs; whnf
  rw [ieq_f (by (simp only [sha256_len, fr1_len, fr2_len, fr3_len, nameB_l32, wkey_32, uintB_l2, uintB_l1, blobB_l, bankJ_len, LL] at * <;> omega))]
  conv => lhs; whnf
  rw [lg0]; conv => lhs; whnf
theorem ev_onum0 (c x : Int) (hs : List Int) (az : List (El authT)) (is : List Int) (bs : List (List UInt8)) (hl : is.length ≤ 1000) : Y E0 (.call 74 [.agg [.i c, .sl .i64 hs, .sl authT az, .sl .i64 (x :: is), .sl (.sl .u8) bs], .i 0] []) = some (.ret (.i x) []) := by
  rw [Y_go]; conv => lhs; whnf
  rw [ile_f (by (simp only [sha256_len, fr1_len, fr2_len, fr3_len, nameB_l32, wkey_32, uintB_l2, uintB_l1, blobB_l, bankJ_len, LL] at * <;> omega))]
  conv => lhs; whnf
  rw [lg0]; conv => lhs; whnf
theorem ev_onum1 (c x y : Int) (hs : List Int) (az : List (El authT)) (is : List Int) (bs : List (List UInt8)) (hl : is.length ≤ 1000) : Y E0 (.call 74 [.agg [.i c, .sl .i64 hs, .sl authT az, .sl .i64 (x :: y :: is), .sl (.sl .u8) bs], .i 1] []) = some (.ret (.i y) []) := by
  rw [Y_go]; conv => lhs; whnf
  rw [ile_f (by (simp only [sha256_len, fr1_len, fr2_len, fr3_len, nameB_l32, wkey_32, uintB_l2, uintB_l1, blobB_l, bankJ_len, LL] at * <;> omega))]
  conv => lhs; whnf
  rw [lg1]; conv => lhs; whnf
theorem ev_onum2 (c x y z : Int) (hs : List Int) (az : List (El authT)) (is : List Int) (bs : List (List UInt8)) (hl : is.length ≤ 1000) : Y E0 (.call 74 [.agg [.i c, .sl .i64 hs, .sl authT az, .sl .i64 (x :: y :: z :: is), .sl (.sl .u8) bs], .i 2] []) = some (.ret (.i z) []) := by
  rw [Y_go]; conv => lhs; whnf
  rw [ile_f (by (simp only [sha256_len, fr1_len, fr2_len, fr3_len, nameB_l32, wkey_32, uintB_l2, uintB_l1, blobB_l, bankJ_len, LL] at * <;> omega))]
  conv => lhs; whnf
  rw [lg2]; conv => lhs; whnf
theorem ev_oblob0 (c : Int) (x : List UInt8) (hs : List Int) (az : List (El authT)) (is : List Int) (bs : List (List UInt8)) (hl : bs.length ≤ 1000) : Y E0 (.call 43 [.agg [.i c, .sl .i64 hs, .sl authT az, .sl .i64 is, .sl (.sl .u8) (x :: bs)], .i 0] []) = some (.ret (.sl .u8 x) []) := by
  rw [Y_go]; conv => lhs; whnf
  rw [ile_f (by (simp only [sha256_len, fr1_len, fr2_len, fr3_len, nameB_l32, wkey_32, uintB_l2, uintB_l1, blobB_l, bankJ_len, LL] at * <;> omega))]
  conv => lhs; whnf
  rw [lg0]; conv => lhs; whnf
theorem ev_oblob1 (c : Int) (x y : List UInt8) (hs : List Int) (az : List (El authT)) (is : List Int) (bs : List (List UInt8)) (hl : bs.length ≤ 1000) : Y E0 (.call 43 [.agg [.i c, .sl .i64 hs, .sl authT az, .sl .i64 is, .sl (.sl .u8) (x :: y :: bs)], .i 1] []) = some (.ret (.sl .u8 y) []) := by
  rw [Y_go]; conv => lhs; whnf
  rw [ile_f (by (simp only [sha256_len, fr1_len, fr2_len, fr3_len, nameB_l32, wkey_32, uintB_l2, uintB_l1, blobB_l, bankJ_len, LL] at * <;> omega))]
  conv => lhs; whnf
  rw [lg1]; conv => lhs; whnf
theorem ev_oblob2 (c : Int) (x y z : List UInt8) (hs : List Int) (az : List (El authT)) (is : List Int) (bs : List (List UInt8)) (hl : bs.length ≤ 1000) : Y E0 (.call 43 [.agg [.i c, .sl .i64 hs, .sl authT az, .sl .i64 is, .sl (.sl .u8) (x :: y :: z :: bs)], .i 2] []) = some (.ret (.sl .u8 z) []) := by
  rw [Y_go]; conv => lhs; whnf
  rw [ile_f (by (simp only [sha256_len, fr1_len, fr2_len, fr3_len, nameB_l32, wkey_32, uintB_l2, uintB_l1, blobB_l, bankJ_len, LL] at * <;> omega))]
  conv => lhs; whnf
  rw [lg2]; conv => lhs; whnf
theorem ev_otempl (c k a t : Int) (hs : List Int) (az : List (El authT)) (o : List UInt8) (bs : List (List UInt8)) (hl : bs.length ≤ 1000) : Y E0 (.call 42 [.agg [.i c, .sl .i64 hs, .sl authT az, .sl .i64 [k, a, t], .sl (.sl .u8) (o :: bs)]] []) = some (.ret (.agg [.i k, .i a, .i t, .sl .u8 o, .sl .u8 []]) []) := by
  rw [Y_go]; conv => lhs; whnf
  dsimp -iota -beta -eta -zeta only
  rw [toReq_call]
  rw [ev_onum0 _ _ _ _ _ _ (by (simp only [sha256_len, fr1_len, fr2_len, fr3_len, nameB_l32, wkey_32, uintB_l2, uintB_l1, blobB_l, bankJ_len, LL] at * <;> omega))]
  conv => lhs; whnf
  dsimp -iota -beta -eta -zeta only
  rw [toReq_call]
  rw [ev_onum1 _ _ _ _ _ _ _ (by (simp only [sha256_len, fr1_len, fr2_len, fr3_len, nameB_l32, wkey_32, uintB_l2, uintB_l1, blobB_l, bankJ_len, LL] at * <;> omega))]
  conv => lhs; whnf
  dsimp -iota -beta -eta -zeta only
  rw [toReq_call]
  rw [ev_onum2 _ _ _ _ _ _ _ _ (by (simp only [sha256_len, fr1_len, fr2_len, fr3_len, nameB_l32, wkey_32, uintB_l2, uintB_l1, blobB_l, bankJ_len, LL] at * <;> omega))]
  conv => lhs; whnf
  dsimp -iota -beta -eta -zeta only
  rw [toReq_call]
  rw [ev_oblob0 _ _ _ _ _ _ (by omega)]
  conv => lhs; whnf
  dsimp -iota -beta -eta -zeta only
  rw [drw (by kernel_rfl)]; conv => lhs; whnf
theorem ev_oload_loop (sd au : List (List UInt8)) (en : List UInt8) (ac re rs ck : Int) (od : Bool) (sb : List (List (List UInt8))) (su mc : Int) (ix : List (El idxT)) (l1 l2 l3 l4 l5 l6 : Int) (ks : List (El lvT)) (st sp : Bool) (rb : List (List (List UInt8))) (ru vc : Int) (sf : Bool) (dr : Int) (ss : List (El sesT)) (ob : List (El objT)) (rl wl : List Int) (p1 p2 p3 : Int) (p4 p5 s1 s2 s3 : List UInt8) (hr : Int) (hl : ob.length ≤ 1000) : ∀ (n j : Nat), j + n = ob.length → freeAt ob = j + freeAt (ob.drop j) → Y E0 (.loop 47 0 0 3 [(2, .pa 0 0), (3, .pa 1 0), (4, .pa 2 0), (11, .sl objT ob), (12, .i (llen ob)), (13, .i (j : Int))] [(0, some (.var [.sl (.sl .u8) sd, .sl (.sl .u8) au, .sl .u8 en, .i ac, .i re, .i rs, .i ck, .b od, .sl (.sl (.sl .u8)) sb, .i su, .i mc, .sl idxT ix, .i l1, .i l2, .i l3, .i l4, .i l5, .i l6, .sl lvT ks, .b st, .b sp, .sl (.sl (.sl .u8)) rb, .i ru, .i vc, .b sf, .i dr, .sl sesT ss, .sl objT ob, .sl .i64 rl, .sl .i64 wl])), (1, some (.var [.i p1, .i p2, .i p3, .sl .u8 p4, .sl .u8 p5, .sl .u8 s1, .sl .u8 s2, .sl .u8 s3, .i hr])), (2, some (.var [.nil, .nil, .nil, .i 0, .i 0, .i 0, .i 0, .b false, .nil, .i 0, .i 0, .nil, .i 0, .i 0, .i 0, .i 0, .i 0, .i 0, .nil, .b false, .b false, .nil, .i 0, .i 0, .b false, .i 0, .nil, .nil, .nil, .nil]))]) =
    if freeAt ob < ob.length then some (.fin .ret 3 [(2, .pa 0 0), (4, .pa 1 0), (5, .i (512 + (freeAt ob : Int))), (6, .i 0)] [(0, some (.var [.sl (.sl .u8) sd, .sl (.sl .u8) au, .sl .u8 en, .i ac, .i re, .i rs, .i ck, .b od, .sl (.sl (.sl .u8)) sb, .i su, .i mc, .sl idxT ix, .i l1, .i l2, .i l3, .i l4, .i l5, .i l6, .sl lvT ks, .b st, .b sp, .sl (.sl (.sl .u8)) rb, .i ru, .i vc, .b sf, .i dr, .sl sesT ss, .nm 2, .sl .i64 rl, .sl .i64 wl])), (1, some (.var [.sl (.sl .u8) sd, .sl (.sl .u8) au, .sl .u8 en, .i ac, .i re, .i rs, .i ck, .b od, .sl (.sl (.sl .u8)) sb, .i su, .i mc, .sl idxT ix, .i l1, .i l2, .i l3, .i l4, .i l5, .i l6, .sl lvT ks, .b st, .b sp, .sl (.sl (.sl .u8)) rb, .i ru, .i vc, .b sf, .i dr, .sl sesT ss, .nm 2, .sl .i64 rl, .sl .i64 wl])), (2, some (.row 61 objT (ob.set (freeAt ob) ((p1, p2, p3, p4, p5), (s1, s2, s3), hr))))])
    else some (.fin (.exit 0) 2 [(2, .pa 0 0), (4, .pa 1 0)] [(0, some (.var [.sl (.sl .u8) sd, .sl (.sl .u8) au, .sl .u8 en, .i ac, .i re, .i rs, .i ck, .b od, .sl (.sl (.sl .u8)) sb, .i su, .i mc, .sl idxT ix, .i l1, .i l2, .i l3, .i l4, .i l5, .i l6, .sl lvT ks, .b st, .b sp, .sl (.sl (.sl .u8)) rb, .i ru, .i vc, .b sf, .i dr, .sl sesT ss, .sl objT ob, .sl .i64 rl, .sl .i64 wl])), (1, some (.var [.nil, .nil, .nil, .i 0, .i 0, .i 0, .i 0, .b false, .nil, .i 0, .i 0, .nil, .i 0, .i 0, .i 0, .i 0, .i 0, .i 0, .nil, .b false, .b false, .nil, .i 0, .i 0, .b false, .i 0, .nil, .nil, .nil, .nil]))])
  | 0, j, hj, hf => by
    rw [if_neg (by rw [List.drop_eq_nil_of_le (by omega), freeAt] at hf; omega)]
    rw [Y_go]; conv => lhs; whnf
    rw [ilt_f (by (simp only [sha256_len, fr1_len, fr2_len, fr3_len, nameB_l32, wkey_32, uintB_l2, uintB_l1, blobB_l, bankJ_len, LL] at * <;> omega))]
    conv => lhs; whnf
  | n + 1, j, hj, hf => by
    have hd := List.drop_eq_getElem_cons (l := ob) (i := j) (by omega)
    rw [hd] at hf
    have hg : lget ob (j : Int) = some (ob[j]'(by omega)) := lget_n (by omega)
    generalize ob[j]'(by omega) = x at *
    obtain ⟨⟨k, a, t, o, u⟩, ⟨y1, y2, y3⟩, h⟩ := x
    by_cases hk : k = 0
    · subst hk
      rw [freeAt, if_pos rfl] at hf
      rw [if_pos (by omega), show freeAt ob = j from hf]
      have hs : ∀ x, lset ob (j : Int) x = ob.set j x := fun x => by rw [lset_eq]; simp
      rw [Y_go]; conv => lhs; whnf
      rw [ilt_t (by (simp only [sha256_len, fr1_len, fr2_len, fr3_len, nameB_l32, wkey_32, uintB_l2, uintB_l1, blobB_l, bankJ_len, LL] at * <;> omega))]
      conv => lhs; whnf
      rw [hg]; conv => lhs; whnf
      dsimp -iota -beta -eta -zeta only
      rw [ieq_t (by omega)]
      conv => lhs; whnf
      dsimp -iota -beta -eta -zeta only
      rw [toReq_call]
      rw [ev_clo _ (by omega)]
      conv => lhs; whnf
      rw [linb_t (by omega)]
      conv => lhs; whnf
      rw [hg]; conv => lhs; whnf
      rw [iadd_eq (by omega)]
      (rw [hs])
    · have ih := ev_oload_loop sd au en ac re rs ck od sb su mc ix l1 l2 l3 l4 l5 l6 ks st sp rb ru vc sf dr ss ob rl wl p1 p2 p3 p4 p5 s1 s2 s3 hr hl n (j + 1) (by omega) (by rw [hf, freeAt, if_neg hk]; omega)
      rw [show ((j + 1 : Nat) : Int) = (j : Int) + 1 from by omega] at ih
      rw [Y_go]; conv => lhs; whnf
      rw [ilt_t (by (simp only [sha256_len, fr1_len, fr2_len, fr3_len, nameB_l32, wkey_32, uintB_l2, uintB_l1, blobB_l, bankJ_len, LL] at * <;> omega))]
      conv => lhs; whnf
      rw [hg]; conv => lhs; whnf
      dsimp -iota -beta -eta -zeta only
      rw [ieq_f (by omega)]
      conv => lhs; whnf
      dsimp -iota -beta -eta -zeta only
      rw [iadd_eq (by omega)]
      exact ih
theorem ev_oload (sd au : List (List UInt8)) (en : List UInt8) (ac re rs ck : Int) (od : Bool) (sb : List (List (List UInt8))) (su mc : Int) (ix : List (El idxT)) (l1 l2 l3 l4 l5 l6 : Int) (ks : List (El lvT)) (st sp : Bool) (rb : List (List (List UInt8))) (ru vc : Int) (sf : Bool) (dr : Int) (ss : List (El sesT)) (ob : List (El objT)) (rl wl : List Int) (p1 p2 p3 : Int) (p4 p5 s1 s2 s3 : List UInt8) (hr : Int) (hl : ob.length ≤ 1000) : Y E0 (.call 47 [.agg [.sl (.sl .u8) sd, .sl (.sl .u8) au, .sl .u8 en, .i ac, .i re, .i rs, .i ck, .b od, .sl (.sl (.sl .u8)) sb, .i su, .i mc, .sl idxT ix, .i l1, .i l2, .i l3, .i l4, .i l5, .i l6, .sl lvT ks, .b st, .b sp, .sl (.sl (.sl .u8)) rb, .i ru, .i vc, .b sf, .i dr, .sl sesT ss, .sl objT ob, .sl .i64 rl, .sl .i64 wl], .agg [.i p1, .i p2, .i p3, .sl .u8 p4, .sl .u8 p5, .sl .u8 s1, .sl .u8 s2, .sl .u8 s3, .i hr]] []) =
    if freeAt ob < ob.length then some (.ret (.tup [.agg [.sl (.sl .u8) sd, .sl (.sl .u8) au, .sl .u8 en, .i ac, .i re, .i rs, .i ck, .b od, .sl (.sl (.sl .u8)) sb, .i su, .i mc, .sl idxT ix, .i l1, .i l2, .i l3, .i l4, .i l5, .i l6, .sl lvT ks, .b st, .b sp, .sl (.sl (.sl .u8)) rb, .i ru, .i vc, .b sf, .i dr, .sl sesT ss, .sl objT (ob.set (freeAt ob) ((p1, p2, p3, p4, p5), (s1, s2, s3), hr)), .sl .i64 rl, .sl .i64 wl], .i (512 + (freeAt ob : Int)), .i 0]) []) else some (.ret (.tup [.agg [.sl (.sl .u8) sd, .sl (.sl .u8) au, .sl .u8 en, .i ac, .i re, .i rs, .i ck, .b od, .sl (.sl (.sl .u8)) sb, .i su, .i mc, .sl idxT ix, .i l1, .i l2, .i l3, .i l4, .i l5, .i l6, .sl lvT ks, .b st, .b sp, .sl (.sl (.sl .u8)) rb, .i ru, .i vc, .b sf, .i dr, .sl sesT ss, .sl objT ob, .sl .i64 rl, .sl .i64 wl], .i 0, .i 25]) []) := by
  have hq := ev_oload_loop sd au en ac re rs ck od sb su mc ix l1 l2 l3 l4 l5 l6 ks st sp rb ru vc sf dr ss ob rl wl p1 p2 p3 p4 p5 s1 s2 s3 hr hl ob.length 0 (by omega) (by simp)
  rw [show ((0 : Nat) : Int) = 0 from rfl] at hq
  by_cases hc : freeAt ob < ob.length
  · rw [if_pos hc] at hq ⊢
    rw [Y_go]; conv => lhs; whnf
    dsimp -iota -beta -eta -zeta only
    rw [toReq_loop]
    rw [hq]
    conv => lhs; whnf
  · rw [if_neg hc] at hq ⊢
    rw [Y_go]; conv => lhs; whnf
    dsimp -iota -beta -eta -zeta only
    rw [toReq_loop]
    rw [hq]
    conv => lhs; whnf
theorem ev_eobj_t (sd au : List (List UInt8)) (en : List UInt8) (ac re rs ck : Int) (od : Bool) (sb : List (List (List UInt8))) (su mc : Int) (ix : List (El idxT)) (l1 l2 l3 l4 l5 l6 : Int) (ks : List (El lvT)) (st sp : Bool) (rb : List (List (List UInt8))) (ru vc : Int) (sf : Bool) (dr : Int) (ss : List (El sesT)) (ob : List (El objT)) (rl wl : List Int) (h : Int) (p1 p2 p3 : Int) (p4 p5 s1 s2 s3 : List UInt8) (hr : Int) (hl : ob.length ≤ 1000) (hx : slotAt ob h = some ((p1, p2, p3, p4, p5), (s1, s2, s3), hr)) : Y E0 (.call 87 [.agg [.sl (.sl .u8) sd, .sl (.sl .u8) au, .sl .u8 en, .i ac, .i re, .i rs, .i ck, .b od, .sl (.sl (.sl .u8)) sb, .i su, .i mc, .sl idxT ix, .i l1, .i l2, .i l3, .i l4, .i l5, .i l6, .sl lvT ks, .b st, .b sp, .sl (.sl (.sl .u8)) rb, .i ru, .i vc, .b sf, .i dr, .sl sesT ss, .sl objT ob, .sl .i64 rl, .sl .i64 wl], .i h] []) = some (.ret (.tup [.agg [.i p1, .i p2, .i p3, .sl .u8 p4, .sl .u8 p5, .sl .u8 s1, .sl .u8 s2, .sl .u8 s3, .i hr], .i 0]) []) := by
  have hh : 512 ≤ h := by
    unfold slotAt at hx; split at hx
    · assumption
    · cases hx
  rw [slotAt, if_pos hh] at hx
  split at hx
  · rename_i x hq
    split at hx
    · cases hx
    · rename_i hk
      obtain rfl := Option.some.inj hx
      have hlt := (List.getElem?_eq_some_iff.1 hq).1
      have hg : lget ob (h - 512) = some ((p1, p2, p3, p4, p5), (s1, s2, s3), hr) := by rw [lget_d]; unfold lget0; rw [if_pos (by omega)]; exact hq
      simp only at hk
      rw [Y_go]; conv => lhs; whnf
      rw [ilt_f (by omega)]
      conv => lhs; whnf
      rw [isub_eq (by omega)]
      rw [ile_f (by (simp only [sha256_len, fr1_len, fr2_len, fr3_len, nameB_l32, wkey_32, uintB_l2, uintB_l1, blobB_l, bankJ_len, LL] at * <;> omega))]
      conv => lhs; whnf
      rw [hg]; conv => lhs; whnf
      dsimp -iota -beta -eta -zeta only
      rw [ieq_f (by omega)]
      conv => lhs; whnf
      rw [hg]; conv => lhs; whnf
      dsimp -iota -beta -eta -zeta only
      rw [Y_go]; conv => lhs; whnf
  · cases hx
theorem ev_oprim (sd au : List (List UInt8)) (en : List UInt8) (ac re rs ck : Int) (od : Bool) (sb : List (List (List UInt8))) (su mc : Int) (ix : List (El idxT)) (l1 l2 l3 l4 l5 l6 : Int) (ks : List (El lvT)) (st sp : Bool) (rb : List (List (List UInt8))) (ru vc : Int) (sf : Bool) (dr : Int) (ss : List (El sesT)) (ob : List (El objT)) (rl wl : List Int) (c h k a t : Int) (hs : List Int) (az : List (El authT)) (o u d : List UInt8) (hl : ob.length ≤ 1000) (hsd : sd.length ≤ 1000) (hsl : ∀ l ∈ sd, l.length ≤ 1000) (hhs : hs.length ≤ 100) (ho : o.length ≤ 50000) (hd : d.length ≤ 50000) :
    Y E0 (.call 15 [.agg [.sl (.sl .u8) sd, .sl (.sl .u8) au, .sl .u8 en, .i ac, .i re, .i rs, .i ck, .b od, .sl (.sl (.sl .u8)) sb, .i su, .i mc, .sl idxT ix, .i l1, .i l2, .i l3, .i l4, .i l5, .i l6, .sl lvT ks, .b st, .b sp, .sl (.sl (.sl .u8)) rb, .i ru, .i vc, .b sf, .i dr, .sl sesT ss, .sl objT ob, .sl .i64 rl, .sl .i64 wl], .agg [.i c, .sl .i64 (h :: hs), .sl authT az, .sl .i64 [k, a, t], .sl (.sl .u8) [o, u, d]]] []) = some (.ret (.tup [.agg [.sl (.sl .u8) sd, .sl (.sl .u8) au, .sl .u8 en, .i ac, .i re, .i rs, .i ck, .b od, .sl (.sl (.sl .u8)) sb, .i su, .i mc, .sl idxT ix, .i l1, .i l2, .i l3, .i l4, .i l5, .i l6, .sl lvT ks, .b st, .b sp, .sl (.sl (.sl .u8)) rb, .i ru, .i vc, .b sf, .i dr, .sl sesT ss, .sl objT ((primR sd ob h k a t o u d).1), .sl .i64 rl, .sl .i64 wl], .agg (ansX (primR sd ob h k a t o u d).2)]) []) := by
  unfold primR
  by_cases hc : 0 ≤ h ∧ h < sd.length
  · rw [if_pos hc]
    have hg : lget sd h = some (sd.getD h.toNat []) := by rw [lget_i (by omega)]; simp [List.getD, List.getElem?_eq_getElem (show h.toNat < sd.length by omega)]
    have hm : (sd.getD h.toNat []).length ≤ 1000 := by
      have := hsl (sd[h.toNat]'(by omega)) (List.getElem_mem _)
      simpa [List.getD, List.getElem?_eq_getElem (show h.toNat < sd.length by omega)] using this
    unfold primS
    generalize sd.getD h.toNat [] = seed at *
    have hlen := make_len (secret := derB seed primL (frameB 0 [[iu8 k, iu8 a, iu8 t], o, d]) 32) (auth := u) (data := d) (p := ⟨k, a, t, o, []⟩)
    have hdl := derB_len (key := seed) (label := primL) (ctx := frameB 0 [[iu8 k, iu8 a, iu8 t], o, d]) (n := 32) (by omega)
    have em := ev_wmake (derB seed primL (frameB 0 [[iu8 k, iu8 a, iu8 t], o, d]) 32) k a t o [] u d (by omega)
    generalize makeP (derB seed primL (frameB 0 [[iu8 k, iu8 a, iu8 t], o, d]) 32) ⟨k, a, t, o, []⟩ u d = M at *
    obtain ⟨⟨qk, qa, qt, qo, qu⟩, ⟨qx, qy, qz⟩, e⟩ := M
    dsimp only [pubX, senX] at *
    by_cases he : e = 0
    · subst he
      rw [if_neg (by simp)]
      unfold putO
      by_cases hf : freeAt ob < ob.length
      · rw [if_pos hf]
        rw [Y_go]; conv => lhs; whnf
        dsimp -iota -beta -eta -zeta only
        rw [toReq_call]
        rw [ev_ofirst _ _ _ _ _ _ (by omega)]
        conv => lhs; whnf
        rw [ilt_f (by omega)]
        conv => lhs; whnf
        rw [ile_f (by (simp only [sha256_len, fr1_len, fr2_len, fr3_len, nameB_l32, wkey_32, uintB_l2, uintB_l1, blobB_l, bankJ_len, LL] at * <;> omega))]
        conv => lhs; whnf
        dsimp -iota -beta -eta -zeta only
        rw [toReq_call]
        rw [ev_otempl _ _ _ _ _ _ _ _ (by (simp only [sha256_len, fr1_len, fr2_len, fr3_len, nameB_l32, wkey_32, uintB_l2, uintB_l1, blobB_l, bankJ_len, LL] at * <;> omega))]
        conv => lhs; whnf
        dsimp -iota -beta -eta -zeta only
        rw [toReq_call]
        rw [ev_oblob2 _ _ _ _ _ _ _ _ (by (simp only [sha256_len, fr1_len, fr2_len, fr3_len, nameB_l32, wkey_32, uintB_l2, uintB_l1, blobB_l, bankJ_len, LL] at * <;> omega))]
        conv => lhs; whnf
        dsimp -iota -beta -eta -zeta only
        rw [toReq_call]
        rw [ev_dig_frame _ _ (by (simp only [sha256_len, fr1_len, fr2_len, fr3_len, nameB_l32, wkey_32, uintB_l2, uintB_l1, blobB_l, bankJ_len, LL] at * <;> omega)) (by (simp only [sha256_len, fr1_len, fr2_len, fr3_len, nameB_l32, wkey_32, uintB_l2, uintB_l1, blobB_l, bankJ_len, LL] at * <;> omega))]
        conv => lhs; whnf
        rw [hg]; conv => lhs; whnf
        dsimp -iota -beta -eta -zeta only
        rw [toReq_call]
        rw [show strOf { data := #[112, 114, 105, 109, 97, 114, 121] } = primL from rfl, ev_derive _ _ _ _ (by omega) (by decide) (by simp only [LL, fr3_len]; omega)]
        conv => lhs; whnf
        dsimp -iota -beta -eta -zeta only
        rw [toReq_call]
        rw [ev_oblob1 _ _ _ _ _ _ _ (by (simp only [sha256_len, fr1_len, fr2_len, fr3_len, nameB_l32, wkey_32, uintB_l2, uintB_l1, blobB_l, bankJ_len, LL] at * <;> omega))]
        conv => lhs; whnf
        dsimp -iota -beta -eta -zeta only
        rw [toReq_call]
        rw [em]
        conv => lhs; whnf
        dsimp -iota -beta -eta -zeta only
        rw [drw (by kernel_rfl)]; conv => lhs; whnf
        rw [ine_f (by omega)]
        conv => lhs; whnf
        dsimp -iota -beta -eta -zeta only
        rw [toReq_call]
        rw [ev_oload _ _ _ _ _ _ _ _ _ _ _ _ _ _ _ _ _ _ _ _ _ _ _ _ _ _ _ _ _ _ _ _ _ _ _ _ _ _ _ hl, if_pos hf]
        conv => lhs; whnf
        rw [Y_go]; conv => lhs; whnf
        rw [ine_f (by omega)]
        conv => lhs; whnf
        dsimp -iota -beta -eta -zeta only
        rw [toReq_call]
        rw [ev_aenc _ _ _ _ _ (by omega) (by omega)]
        conv => lhs; whnf
        dsimp -iota -beta -eta -zeta only
        rw [toReq_call]
        rw [ev_aname _ _ _ _ _ (by omega) (by omega)]
        conv => lhs; whnf
        dsimp -iota -beta -eta -zeta only
        rw [drw (by kernel_rfl)]; conv => lhs; whnf
      · rw [if_neg hf]
        rw [Y_go]; conv => lhs; whnf
        dsimp -iota -beta -eta -zeta only
        rw [toReq_call]
        rw [ev_ofirst _ _ _ _ _ _ (by omega)]
        conv => lhs; whnf
        rw [ilt_f (by omega)]
        conv => lhs; whnf
        rw [ile_f (by (simp only [sha256_len, fr1_len, fr2_len, fr3_len, nameB_l32, wkey_32, uintB_l2, uintB_l1, blobB_l, bankJ_len, LL] at * <;> omega))]
        conv => lhs; whnf
        dsimp -iota -beta -eta -zeta only
        rw [toReq_call]
        rw [ev_otempl _ _ _ _ _ _ _ _ (by (simp only [sha256_len, fr1_len, fr2_len, fr3_len, nameB_l32, wkey_32, uintB_l2, uintB_l1, blobB_l, bankJ_len, LL] at * <;> omega))]
        conv => lhs; whnf
        dsimp -iota -beta -eta -zeta only
        rw [toReq_call]
        rw [ev_oblob2 _ _ _ _ _ _ _ _ (by (simp only [sha256_len, fr1_len, fr2_len, fr3_len, nameB_l32, wkey_32, uintB_l2, uintB_l1, blobB_l, bankJ_len, LL] at * <;> omega))]
        conv => lhs; whnf
        dsimp -iota -beta -eta -zeta only
        rw [toReq_call]
        rw [ev_dig_frame _ _ (by (simp only [sha256_len, fr1_len, fr2_len, fr3_len, nameB_l32, wkey_32, uintB_l2, uintB_l1, blobB_l, bankJ_len, LL] at * <;> omega)) (by (simp only [sha256_len, fr1_len, fr2_len, fr3_len, nameB_l32, wkey_32, uintB_l2, uintB_l1, blobB_l, bankJ_len, LL] at * <;> omega))]
        conv => lhs; whnf
        rw [hg]; conv => lhs; whnf
        dsimp -iota -beta -eta -zeta only
        rw [toReq_call]
        rw [show strOf { data := #[112, 114, 105, 109, 97, 114, 121] } = primL from rfl, ev_derive _ _ _ _ (by omega) (by decide) (by simp only [LL, fr3_len]; omega)]
        conv => lhs; whnf
        dsimp -iota -beta -eta -zeta only
        rw [toReq_call]
        rw [ev_oblob1 _ _ _ _ _ _ _ (by (simp only [sha256_len, fr1_len, fr2_len, fr3_len, nameB_l32, wkey_32, uintB_l2, uintB_l1, blobB_l, bankJ_len, LL] at * <;> omega))]
        conv => lhs; whnf
        dsimp -iota -beta -eta -zeta only
        rw [toReq_call]
        rw [em]
        conv => lhs; whnf
        dsimp -iota -beta -eta -zeta only
        rw [drw (by kernel_rfl)]; conv => lhs; whnf
        rw [ine_f (by omega)]
        conv => lhs; whnf
        dsimp -iota -beta -eta -zeta only
        rw [toReq_call]
        rw [ev_oload _ _ _ _ _ _ _ _ _ _ _ _ _ _ _ _ _ _ _ _ _ _ _ _ _ _ _ _ _ _ _ _ _ _ _ _ _ _ _ hl, if_neg hf]
        conv => lhs; whnf
        rw [Y_go]; conv => lhs; whnf
        rw [ine_t (by omega)]
        conv => lhs; whnf
        dsimp -iota -beta -eta -zeta only
        rw [toReq_call]
        rw [ev_ofail _ _ _ _ _ _ _ _ _ _ _ _ _ _ _ _ _ _ _ _ _ _ _ _ _ _ _ _ _ _ _]
        conv => lhs; whnf
    · rw [if_pos he]
      rw [Y_go]; conv => lhs; whnf
      dsimp -iota -beta -eta -zeta only
      rw [toReq_call]
      rw [ev_ofirst _ _ _ _ _ _ (by omega)]
      conv => lhs; whnf
      rw [ilt_f (by omega)]
      conv => lhs; whnf
      rw [ile_f (by (simp only [sha256_len, fr1_len, fr2_len, fr3_len, nameB_l32, wkey_32, uintB_l2, uintB_l1, blobB_l, bankJ_len, LL] at * <;> omega))]
      conv => lhs; whnf
      dsimp -iota -beta -eta -zeta only
      rw [toReq_call]
      rw [ev_otempl _ _ _ _ _ _ _ _ (by (simp only [sha256_len, fr1_len, fr2_len, fr3_len, nameB_l32, wkey_32, uintB_l2, uintB_l1, blobB_l, bankJ_len, LL] at * <;> omega))]
      conv => lhs; whnf
      dsimp -iota -beta -eta -zeta only
      rw [toReq_call]
      rw [ev_oblob2 _ _ _ _ _ _ _ _ (by (simp only [sha256_len, fr1_len, fr2_len, fr3_len, nameB_l32, wkey_32, uintB_l2, uintB_l1, blobB_l, bankJ_len, LL] at * <;> omega))]
      conv => lhs; whnf
      dsimp -iota -beta -eta -zeta only
      rw [toReq_call]
      rw [ev_dig_frame _ _ (by (simp only [sha256_len, fr1_len, fr2_len, fr3_len, nameB_l32, wkey_32, uintB_l2, uintB_l1, blobB_l, bankJ_len, LL] at * <;> omega)) (by (simp only [sha256_len, fr1_len, fr2_len, fr3_len, nameB_l32, wkey_32, uintB_l2, uintB_l1, blobB_l, bankJ_len, LL] at * <;> omega))]
      conv => lhs; whnf
      rw [hg]; conv => lhs; whnf
      dsimp -iota -beta -eta -zeta only
      rw [toReq_call]
      rw [show strOf { data := #[112, 114, 105, 109, 97, 114, 121] } = primL from rfl, ev_derive _ _ _ _ (by omega) (by decide) (by simp only [LL, fr3_len]; omega)]
      conv => lhs; whnf
      dsimp -iota -beta -eta -zeta only
      rw [toReq_call]
      rw [ev_oblob1 _ _ _ _ _ _ _ (by (simp only [sha256_len, fr1_len, fr2_len, fr3_len, nameB_l32, wkey_32, uintB_l2, uintB_l1, blobB_l, bankJ_len, LL] at * <;> omega))]
      conv => lhs; whnf
      dsimp -iota -beta -eta -zeta only
      rw [toReq_call]
      rw [em]
      conv => lhs; whnf
      dsimp -iota -beta -eta -zeta only
      rw [drw (by kernel_rfl)]; conv => lhs; whnf
      rw [ine_t (by omega)]
      conv => lhs; whnf
      dsimp -iota -beta -eta -zeta only
      rw [toReq_call]
      rw [ev_ofail _ _ _ _ _ _ _ _ _ _ _ _ _ _ _ _ _ _ _ _ _ _ _ _ _ _ _ _ _ _ _]
      conv => lhs; whnf
  · rw [if_neg hc]
    rw [Y_go]; conv => lhs; whnf
    dsimp -iota -beta -eta -zeta only
    rw [toReq_call]
    rw [ev_ofirst _ _ _ _ _ _ (by omega)]
    conv => lhs; whnf
    rcases Bool.eq_false_or_eq_true (ilt h 0) with hc0 | hc0
    · rw [hc0]; replace hc0 := of_ilt_t hc0; try simp only [llen_eq] at hc0
      conv => lhs; whnf
      dsimp -iota -beta -eta -zeta only
      rw [toReq_call]
      rw [ev_ofail _ _ _ _ _ _ _ _ _ _ _ _ _ _ _ _ _ _ _ _ _ _ _ _ _ _ _ _ _ _ _]
      conv => lhs; whnf
    · rw [hc0]; replace hc0 := of_ilt_f hc0; try simp only [llen_eq] at hc0
      conv => lhs; whnf
      rw [ile_t (by (simp only [sha256_len, fr1_len, fr2_len, fr3_len, nameB_l32, wkey_32, uintB_l2, uintB_l1, blobB_l, bankJ_len, LL] at * <;> omega))]
      conv => lhs; whnf
      dsimp -iota -beta -eta -zeta only
      rw [toReq_call]
      rw [ev_ofail _ _ _ _ _ _ _ _ _ _ _ _ _ _ _ _ _ _ _ _ _ _ _ _ _ _ _ _ _ _ _]
      conv => lhs; whnf
end Go.Proofs.YtfjcmolccckhhaaGreatDoor

namespace Go.Proofs.YtfjcmolccckhhaaGreatDoor
open Go Go.Ax Go.Eng
set_option linter.unusedVariables false
set_option linter.unusedSimpArgs false
attribute [local irreducible] iadd isub imul iquo irem ibit ineg ieq ine ilt ile ishl ishr beq' bnot and' seq' u8op u8rem u32op u64op u8shr u8shl u64shr u64shl u32shr u32shl i64w u8i u64i iu8 iu32 iu64 u8u64 u64u8 u32u8 u64cmp u8cmp u32cmp llen lget linb lset lcut lrep lapp lcpy lemp fits fitn ieqs sealed drawChk fpSame
attribute [local irreducible] derB seedB makeP nameB encP uniB frameB primS primR
set_option maxHeartbeats 4000000
set_option maxRecDepth 100000
theorem ev_ounseal_t (sd au : List (List UInt8)) (en : List UInt8) (ac re rs ck : Int) (od : Bool) (sb : List (List (List UInt8))) (su mc : Int) (ix : List (El idxT)) (l1 l2 l3 l4 l5 l6 : Int) (ks : List (El lvT)) (st sp : Bool) (rb : List (List (List UInt8))) (ru vc : Int) (sf : Bool) (dr : Int) (ss : List (El sesT)) (ob : List (El objT)) (rl wl : List Int) (c h : Int) (hs : List Int) (az : List (El authT)) (is : List Int) (bs : List (List UInt8)) (p1 p2 p3 : Int) (p4 p5 s1 s2 s3 : List UInt8) (hr : Int) (hl : ob.length ≤ 1000) (hhs : hs.length ≤ 100) (hx : slotAt ob h = some ((p1, p2, p3, p4, p5), (s1, s2, s3), hr)) (h3 : p1 = 3) :
    Y E0 (.call 31 [.agg [.sl (.sl .u8) sd, .sl (.sl .u8) au, .sl .u8 en, .i ac, .i re, .i rs, .i ck, .b od, .sl (.sl (.sl .u8)) sb, .i su, .i mc, .sl idxT ix, .i l1, .i l2, .i l3, .i l4, .i l5, .i l6, .sl lvT ks, .b st, .b sp, .sl (.sl (.sl .u8)) rb, .i ru, .i vc, .b sf, .i dr, .sl sesT ss, .sl objT ob, .sl .i64 rl, .sl .i64 wl], .agg [.i c, .sl .i64 (h :: hs), .sl authT az, .sl .i64 is, .sl (.sl .u8) bs]] []) = some (.ret (.tup [.agg [.sl (.sl .u8) sd, .sl (.sl .u8) au, .sl .u8 en, .i ac, .i re, .i rs, .i ck, .b od, .sl (.sl (.sl .u8)) sb, .i su, .i mc, .sl idxT ix, .i l1, .i l2, .i l3, .i l4, .i l5, .i l6, .sl lvT ks, .b st, .b sp, .sl (.sl (.sl .u8)) rb, .i ru, .i vc, .b sf, .i dr, .sl sesT ss, .sl objT ob, .sl .i64 rl, .sl .i64 wl], .agg [.i 0, .sl .i64 [], .sl (.sl .u8) [s3], .sl (.sl .u8) []]]) []) := by
  rw [Y_go]; conv => lhs; whnf
  dsimp -iota -beta -eta -zeta only
  rw [toReq_call]
  rw [ev_ofirst _ _ _ _ _ _ (by omega)]
  conv => lhs; whnf
  dsimp -iota -beta -eta -zeta only
  rw [toReq_call]
  rw [ev_eobj_t _ _ _ _ _ _ _ _ _ _ _ _ _ _ _ _ _ _ _ _ _ _ _ _ _ _ _ _ _ _ _ _ _ _ _ _ _ _ _ _ hl hx]
  conv => lhs; whnf
  dsimp -iota -beta -eta -zeta only
  rw [drw (by kernel_rfl)]; conv => lhs; whnf
  rw [ine_f (by omega)]
  conv => lhs; whnf
  rw [ine_f (by omega)]
  conv => lhs; whnf
  dsimp -iota -beta -eta -zeta only
  rw [drw (by kernel_rfl)]; conv => lhs; whnf
theorem ev_ounseal_f (sd au : List (List UInt8)) (en : List UInt8) (ac re rs ck : Int) (od : Bool) (sb : List (List (List UInt8))) (su mc : Int) (ix : List (El idxT)) (l1 l2 l3 l4 l5 l6 : Int) (ks : List (El lvT)) (st sp : Bool) (rb : List (List (List UInt8))) (ru vc : Int) (sf : Bool) (dr : Int) (ss : List (El sesT)) (ob : List (El objT)) (rl wl : List Int) (c h : Int) (hs : List Int) (az : List (El authT)) (is : List Int) (bs : List (List UInt8)) (p1 p2 p3 : Int) (p4 p5 s1 s2 s3 : List UInt8) (hr : Int) (hl : ob.length ≤ 1000) (hhs : hs.length ≤ 100) (hx : slotAt ob h = some ((p1, p2, p3, p4, p5), (s1, s2, s3), hr)) (h3 : p1 ≠ 3) :
    Y E0 (.call 31 [.agg [.sl (.sl .u8) sd, .sl (.sl .u8) au, .sl .u8 en, .i ac, .i re, .i rs, .i ck, .b od, .sl (.sl (.sl .u8)) sb, .i su, .i mc, .sl idxT ix, .i l1, .i l2, .i l3, .i l4, .i l5, .i l6, .sl lvT ks, .b st, .b sp, .sl (.sl (.sl .u8)) rb, .i ru, .i vc, .b sf, .i dr, .sl sesT ss, .sl objT ob, .sl .i64 rl, .sl .i64 wl], .agg [.i c, .sl .i64 (h :: hs), .sl authT az, .sl .i64 is, .sl (.sl .u8) bs]] []) = some (.ret (.tup [.agg [.sl (.sl .u8) sd, .sl (.sl .u8) au, .sl .u8 en, .i ac, .i re, .i rs, .i ck, .b od, .sl (.sl (.sl .u8)) sb, .i su, .i mc, .sl idxT ix, .i l1, .i l2, .i l3, .i l4, .i l5, .i l6, .sl lvT ks, .b st, .b sp, .sl (.sl (.sl .u8)) rb, .i ru, .i vc, .b sf, .i dr, .sl sesT ss, .sl objT ob, .sl .i64 rl, .sl .i64 wl], .agg [.i 19, .sl .i64 [], .sl (.sl .u8) [], .sl (.sl .u8) []]]) []) := by
  rw [Y_go]; conv => lhs; whnf
  dsimp -iota -beta -eta -zeta only
  rw [toReq_call]
  rw [ev_ofirst _ _ _ _ _ _ (by omega)]
  conv => lhs; whnf
  dsimp -iota -beta -eta -zeta only
  rw [toReq_call]
  rw [ev_eobj_t _ _ _ _ _ _ _ _ _ _ _ _ _ _ _ _ _ _ _ _ _ _ _ _ _ _ _ _ _ _ _ _ _ _ _ _ _ _ _ _ hl hx]
  conv => lhs; whnf
  dsimp -iota -beta -eta -zeta only
  rw [drw (by kernel_rfl)]; conv => lhs; whnf
  rw [ine_f (by omega)]
  conv => lhs; whnf
  rw [ine_t (by omega)]
  conv => lhs; whnf
  dsimp -iota -beta -eta -zeta only
  rw [toReq_call]
  rw [ev_ofail _ _ _ _ _ _ _ _ _ _ _ _ _ _ _ _ _ _ _ _ _ _ _ _ _ _ _ _ _ _ _]
  conv => lhs; whnf
theorem ev_awake21 : Y E0 (.call 10 [] []) = some (.ret (.b true) []) := by
  obtain ⟨S, -, hS, hp⟩ := prim_ex (sd := seedsE ent0) (ob := List.replicate 3 obj0) (h := 0) (k := 3) (a := 1) (t := 0) (o := []) (auth := []) (d := [UInt8.ofNat 5]) (by decide) (by decide) (by decide) (by simp) (by simp) (fun _ => rfl)
  rw [show freeAt (List.replicate 3 obj0) = 0 from rfl] at hp
  generalize encP ⟨3, 1, 0, [], uniB 3 0 ⟨[], S, [UInt8.ofNat 5]⟩⟩ = B1 at hp
  generalize nameB ⟨3, 1, 0, [], uniB 3 0 ⟨[], S, [UInt8.ofNat 5]⟩⟩ = B2 at hp
  generalize uniB 3 0 ⟨[], S, [UInt8.ofNat 5]⟩ = U at hp
  have hx : slotAt ((List.replicate 3 obj0).set 0 ((3, 1, 0, [], U), ([], S, [UInt8.ofNat 5]), 0)) 512 = some ((3, 1, 0, [], U), ([], S, [UInt8.ofNat 5]), 0) := rfl
  have hl3 : ((List.replicate 3 obj0).set 0 ((3, 1, 0, [], U), ([], S, [UInt8.ofNat 5]), 0)).length = 3 := by simp
  rw [Y_go]; conv => lhs; whnf
  dsimp -iota -beta -eta -zeta only
  rw [toReq_call]
  rw [ev_state0]
  conv => lhs; whnf
  dsimp -iota -beta -eta -zeta only
  rw [toReq_call]
  rw [ev_p21 _ _ _ _ _ _ _]
  conv => lhs; whnf
  dsimp -iota -beta -eta -zeta only
  rw [toReq_call]
  rw [ev_oprim _ _ _ _ _ _ _ _ _ _ _ _ _ _ _ _ _ _ _ _ _ _ _ _ _ _ _ _ _ _ _ _ _ _ _ _ _ _ _ _ (by simp) (by decide) (seedsE_le _) (by simp) (by simp) (by simp), hp]
  conv => lhs; whnf
  dsimp -iota -beta -eta -zeta only
  rw [ine_f (by omega)]
  conv => lhs; whnf
  rw [ine_f (by (simp only [sha256_len, fr1_len, fr2_len, fr3_len, nameB_l32, wkey_32, uintB_l2, uintB_l1, blobB_l, bankJ_len, LL] at * <;> omega))]
  conv => lhs; whnf
  rw [lg0]; conv => lhs; whnf
  rw [ine_f (by omega)]
  conv => lhs; whnf
  rw [ine_f (by rw [llen_eq, hl3]; rfl)]; conv => lhs; whnf
  rw [Y_go]; conv => lhs; whnf
  dsimp -iota -beta -eta -zeta only
  rw [toReq_call]
  rw [ev_on21 _ _ _ (by omega)]
  conv => lhs; whnf
  dsimp -iota -beta -eta -zeta only
  rw [toReq_call]
  rw [ev_ounseal_t _ _ _ _ _ _ _ _ _ _ _ _ _ _ _ _ _ _ _ _ _ _ _ _ _ _ _ _ _ _ _ _ _ _ _ _ _ _ _ _ _ _ _ _ _ (by omega) (by (simp only [sha256_len, fr1_len, fr2_len, fr3_len, nameB_l32, wkey_32, uintB_l2, uintB_l1, blobB_l, bankJ_len, LL] at * <;> omega)) (by assumption) (by omega)]
  conv => lhs; whnf
  dsimp -iota -beta -eta -zeta only
  rw [drw (by kernel_rfl)]; conv => lhs; whnf
  rw [ieq_t (by omega)]
  conv => lhs; whnf
  rw [ieq_t (by (simp only [sha256_len, fr1_len, fr2_len, fr3_len, nameB_l32, wkey_32, uintB_l2, uintB_l1, blobB_l, bankJ_len, LL] at * <;> omega))]
  conv => lhs; whnf
  rw [lg0]; conv => lhs; whnf
  rw [ieq_t (by (simp only [sha256_len, fr1_len, fr2_len, fr3_len, nameB_l32, wkey_32, uintB_l2, uintB_l1, blobB_l, bankJ_len, LL] at * <;> omega))]
  conv => lhs; whnf
  rw [lg0]; conv => lhs; whnf
  rw [lg0]; conv => lhs; whnf
  rw [Y_go]; conv => lhs; whnf
  rw [u8cmp_eql, ieq_t (by rfl)]
end Go.Proofs.YtfjcmolccckhhaaGreatDoor

namespace Go.Ax
open Go Go.Eng Go.RowKit
set_option linter.unusedVariables false
set_option linter.unusedSimpArgs false
theorem decP_le (b : List UInt8) : (decP b).1.policy.length ≤ 32 ∧ (decP b).1.unique.length ≤ 32 := by
  unfold decP
  dsimp only
  split
  · simp [pub0]
  · split
    · simp [pub0]
    · rename_i h1 h2
      have := okP_of (Classical.not_not.1 h2)
      exact ⟨this.policy, this.unique⟩
theorem attr2 (x : UInt8) : ∃ A, ibit .or 1 (u8i (u8op .and x (UInt8.ofNat 2))) = A ∧ (A = 1 ∨ A = 3) := by
  refine ⟨_, rfl, ?_⟩
  have h : ∀ n < 256, n &&& 2 = 0 ∨ n &&& 2 = 2 := by decide +kernel
  have hx := h x.toNat x.toNat_lt
  rw [ibit_d, u8i_d, u8op_d]
  unfold ibit0 u8i0 u8op0
  rw [show bop8 .and x (UInt8.ofNat 2) = x &&& 2 from rfl, UInt8.toNat_and, show (2 : UInt8).toNat = 2 from rfl]
  rcases hx with hx | hx <;> rw [hx]
  · exact .inl (by decide)
  · exact .inr (by decide)
end Go.Ax

namespace Go.Proofs.YtfjcmolccckhhaaGreatDoor
open Go Go.Ax Go.Eng
set_option linter.unusedVariables false
set_option linter.unusedSimpArgs false
attribute [local irreducible] iadd isub imul iquo irem ibit ineg ieq ine ilt ile ishl ishr beq' bnot and' seq' u8op u8rem u32op u64op u8shr u8shl u64shr u64shl u32shr u32shl i64w u8i u64i iu8 iu32 iu64 u8u64 u64u8 u32u8 u64cmp u8cmp u32cmp llen lget linb lset lcut lrep lapp lcpy lemp fits fitn ieqs sealed drawChk fpSame
attribute [local irreducible] derB seedB makeP nameB encP uniB frameB primS primR privB openS decP uintB putO
set_option maxHeartbeats 4000000
set_option maxRecDepth 100000
theorem ev_srand (sd au : List (List UInt8)) (en : List UInt8) (ac re rs ck : Int) (od : Bool) (sb : List (List (List UInt8))) (su mc : Int) (ix : List (El idxT)) (l1 l2 l3 l4 l5 l6 : Int) (ks : List (El lvT)) (st sp : Bool) (rb : List (List (List UInt8))) (ru vc : Int) (sf : Bool) (dr : Int) (ss : List (El sesT)) (ob : List (El objT)) (rl wl : List Int) (n : Int) (hen : en.length ≤ 100000) : Y E0 (.call 83 [.agg [.sl (.sl .u8) sd, .sl (.sl .u8) au, .sl .u8 en, .i ac, .i re, .i rs, .i ck, .b od, .sl (.sl (.sl .u8)) sb, .i su, .i mc, .sl idxT ix, .i l1, .i l2, .i l3, .i l4, .i l5, .i l6, .sl lvT ks, .b st, .b sp, .sl (.sl (.sl .u8)) rb, .i ru, .i vc, .b sf, .i dr, .sl sesT ss, .sl objT ob, .sl .i64 rl, .sl .i64 wl], .i n] []) = some (.ret (.tup [.agg [.sl (.sl .u8) sd, .sl (.sl .u8) au, .sl .u8 en, .i ac, .i re, .i rs, .i ck, .b od, .sl (.sl (.sl .u8)) sb, .i su, .i mc, .sl idxT ix, .i l1, .i l2, .i l3, .i l4, .i l5, .i l6, .sl lvT ks, .b st, .b sp, .sl (.sl (.sl .u8)) rb, .i ru, .i vc, .b sf, .i (iadd dr 1), .sl sesT ss, .sl objT ob, .sl .i64 rl, .sl .i64 wl], .sl .u8 (randB en re rs dr n)]) []) := by
  rw [Y_go]; conv => lhs; whnf
  dsimp -iota -beta -eta -zeta only
  rw [toReq_call]
  rw [ev_uint _ _ _ (by (simp only [sha256_len, fr1_len, fr2_len, fr3_len, nameB_l32, wkey_32, uintB_l2, uintB_l1, uintB_l8, blobB_l, bankJ_len, LL] at * <;> omega))]
  conv => lhs; whnf
  dsimp -iota -beta -eta -zeta only
  rw [toReq_call]
  rw [ev_uint _ _ _ (by (simp only [sha256_len, fr1_len, fr2_len, fr3_len, nameB_l32, wkey_32, uintB_l2, uintB_l1, uintB_l8, blobB_l, bankJ_len, LL] at * <;> omega))]
  conv => lhs; whnf
  dsimp -iota -beta -eta -zeta only
  rw [toReq_call]
  rw [ev_uint _ _ _ (by (simp only [sha256_len, fr1_len, fr2_len, fr3_len, nameB_l32, wkey_32, uintB_l2, uintB_l1, uintB_l8, blobB_l, bankJ_len, LL] at * <;> omega))]
  conv => lhs; whnf
  dsimp -iota -beta -eta -zeta only
  rw [drw (by kernel_rfl)]; conv => lhs; whnf
  dsimp -iota -beta -eta -zeta only
  rw [toReq_call]
  rw [show strOf { data := #[114, 97, 110, 100, 111, 109] } = randL from rfl, ev_derive _ _ _ _ (by omega) (by decide) (by simp only [uintB_l8, List.length_nil]; omega)]
  conv => lhs; whnf
  dsimp -iota -beta -eta -zeta only
  rfl
theorem ev_parent_t (sd au : List (List UInt8)) (en : List UInt8) (ac re rs ck : Int) (od : Bool) (sb : List (List (List UInt8))) (su mc : Int) (ix : List (El idxT)) (l1 l2 l3 l4 l5 l6 : Int) (ks : List (El lvT)) (st sp : Bool) (rb : List (List (List UInt8))) (ru vc : Int) (sf : Bool) (dr : Int) (ss : List (El sesT)) (ob : List (El objT)) (rl wl : List Int) (c h : Int) (hs : List Int) (az : List (El authT)) (is : List Int) (bs : List (List UInt8)) (p1 p2 p3 : Int) (p4 p5 s1 s2 s3 : List UInt8) (hr : Int) (hl : ob.length ≤ 1000) (hhs : hs.length ≤ 100) (hx : slotAt ob h = some ((p1, p2, p3, p4, p5), (s1, s2, s3), hr)) (h1 : p1 = 1) :
    Y E0 (.call 82 [.agg [.sl (.sl .u8) sd, .sl (.sl .u8) au, .sl .u8 en, .i ac, .i re, .i rs, .i ck, .b od, .sl (.sl (.sl .u8)) sb, .i su, .i mc, .sl idxT ix, .i l1, .i l2, .i l3, .i l4, .i l5, .i l6, .sl lvT ks, .b st, .b sp, .sl (.sl (.sl .u8)) rb, .i ru, .i vc, .b sf, .i dr, .sl sesT ss, .sl objT ob, .sl .i64 rl, .sl .i64 wl], .agg [.i c, .sl .i64 (h :: hs), .sl authT az, .sl .i64 is, .sl (.sl .u8) bs]] []) = some (.ret (.tup [.agg [.i p1, .i p2, .i p3, .sl .u8 p4, .sl .u8 p5, .sl .u8 s1, .sl .u8 s2, .sl .u8 s3, .i hr], .i 0]) []) := by
  rw [Y_go]; conv => lhs; whnf
  dsimp -iota -beta -eta -zeta only
  rw [toReq_call]
  rw [ev_ofirst _ _ _ _ _ _ (by omega)]
  conv => lhs; whnf
  dsimp -iota -beta -eta -zeta only
  rw [toReq_call]
  rw [ev_eobj_t _ _ _ _ _ _ _ _ _ _ _ _ _ _ _ _ _ _ _ _ _ _ _ _ _ _ _ _ _ _ _ _ _ _ _ _ _ _ _ _ hl hx]
  conv => lhs; whnf
  dsimp -iota -beta -eta -zeta only
  rw [drw (by kernel_rfl)]; conv => lhs; whnf
  rw [ieq_t (by omega)]
  conv => lhs; whnf
  rw [ine_f (by omega)]
  conv => lhs; whnf
  rw [Y_go]; conv => lhs; whnf
theorem ev_parent_f (sd au : List (List UInt8)) (en : List UInt8) (ac re rs ck : Int) (od : Bool) (sb : List (List (List UInt8))) (su mc : Int) (ix : List (El idxT)) (l1 l2 l3 l4 l5 l6 : Int) (ks : List (El lvT)) (st sp : Bool) (rb : List (List (List UInt8))) (ru vc : Int) (sf : Bool) (dr : Int) (ss : List (El sesT)) (ob : List (El objT)) (rl wl : List Int) (c h : Int) (hs : List Int) (az : List (El authT)) (is : List Int) (bs : List (List UInt8)) (p1 p2 p3 : Int) (p4 p5 s1 s2 s3 : List UInt8) (hr : Int) (hl : ob.length ≤ 1000) (hhs : hs.length ≤ 100) (hx : slotAt ob h = some ((p1, p2, p3, p4, p5), (s1, s2, s3), hr)) (h1 : p1 ≠ 1) :
    Y E0 (.call 82 [.agg [.sl (.sl .u8) sd, .sl (.sl .u8) au, .sl .u8 en, .i ac, .i re, .i rs, .i ck, .b od, .sl (.sl (.sl .u8)) sb, .i su, .i mc, .sl idxT ix, .i l1, .i l2, .i l3, .i l4, .i l5, .i l6, .sl lvT ks, .b st, .b sp, .sl (.sl (.sl .u8)) rb, .i ru, .i vc, .b sf, .i dr, .sl sesT ss, .sl objT ob, .sl .i64 rl, .sl .i64 wl], .agg [.i c, .sl .i64 (h :: hs), .sl authT az, .sl .i64 is, .sl (.sl .u8) bs]] []) = some (.ret (.tup [.agg [.i p1, .i p2, .i p3, .sl .u8 p4, .sl .u8 p5, .sl .u8 s1, .sl .u8 s2, .sl .u8 s3, .i hr], .i 19]) []) := by
  rw [Y_go]; conv => lhs; whnf
  dsimp -iota -beta -eta -zeta only
  rw [toReq_call]
  rw [ev_ofirst _ _ _ _ _ _ (by omega)]
  conv => lhs; whnf
  dsimp -iota -beta -eta -zeta only
  rw [toReq_call]
  rw [ev_eobj_t _ _ _ _ _ _ _ _ _ _ _ _ _ _ _ _ _ _ _ _ _ _ _ _ _ _ _ _ _ _ _ _ _ _ _ _ _ _ _ _ hl hx]
  conv => lhs; whnf
  dsimp -iota -beta -eta -zeta only
  rw [drw (by kernel_rfl)]; conv => lhs; whnf
  rw [ieq_t (by omega)]
  conv => lhs; whnf
  rw [ine_t (by omega)]
  conv => lhs; whnf
  rw [Y_go]; conv => lhs; whnf
theorem ev_ocreate (sd au : List (List UInt8)) (en : List UInt8) (ac re rs ck : Int) (od : Bool) (sb : List (List (List UInt8))) (su mc : Int) (ix : List (El idxT)) (l1 l2 l3 l4 l5 l6 : Int) (ks : List (El lvT)) (st sp : Bool) (rb : List (List (List UInt8))) (ru vc : Int) (sf : Bool) (dr : Int) (ss : List (El sesT)) (ob : List (El objT)) (rl wl : List Int) (c h k a t : Int) (hs : List Int) (az : List (El authT)) (o u d : List UInt8) (p1 p2 p3 : Int) (p4 p5 s1 s2 s3 : List UInt8) (hr : Int) (hl : ob.length ≤ 1000) (hhs : hs.length ≤ 100) (hx : slotAt ob h = some ((p1, p2, p3, p4, p5), (s1, s2, s3), hr)) (h1 : p1 = 1) (ho : o.length ≤ 50000) (hd : d.length ≤ 50000) (h2 : s2.length ≤ 1000) (hen : en.length ≤ 1000) (hdr : 0 ≤ dr ∧ dr ≤ 1000000) :
    Y E0 (.call 29 [.agg [.sl (.sl .u8) sd, .sl (.sl .u8) au, .sl .u8 en, .i ac, .i re, .i rs, .i ck, .b od, .sl (.sl (.sl .u8)) sb, .i su, .i mc, .sl idxT ix, .i l1, .i l2, .i l3, .i l4, .i l5, .i l6, .sl lvT ks, .b st, .b sp, .sl (.sl (.sl .u8)) rb, .i ru, .i vc, .b sf, .i dr, .sl sesT ss, .sl objT ob, .sl .i64 rl, .sl .i64 wl], .agg [.i c, .sl .i64 (h :: hs), .sl authT az, .sl .i64 [k, a, t], .sl (.sl .u8) [o, u, d]]] []) = some (.ret (.tup [.agg [.sl (.sl .u8) sd, .sl (.sl .u8) au, .sl .u8 en, .i ac, .i re, .i rs, .i ck, .b od, .sl (.sl (.sl .u8)) sb, .i su, .i mc, .sl idxT ix, .i l1, .i l2, .i l3, .i l4, .i l5, .i l6, .sl lvT ks, .b st, .b sp, .sl (.sl (.sl .u8)) rb, .i ru, .i vc, .b sf, .i ((creR ⟨s1, s2, s3⟩ en re rs dr k a t o u d).1), .sl sesT ss, .sl objT ob, .sl .i64 rl, .sl .i64 wl], .agg (ansX (creR ⟨s1, s2, s3⟩ en re rs dr k a t o u d).2)]) []) := by
  have hR : (randB en re rs dr 32).length = 32 := by unfold randB; rw [derB_len (by omega)]; rfl
  unfold creR
  generalize hRR : randB en re rs dr 32 = R at *
  have hlen := make_len (secret := R) (auth := u) (data := d) (p := ⟨k, a, t, o, []⟩)
  have em := ev_wmake R k a t o [] u d (by omega)
  generalize makeP R ⟨k, a, t, o, []⟩ u d = M at *
  obtain ⟨⟨qk, qa, qt, qo, qu⟩, ⟨qx, qy, qz⟩, e⟩ := M
  dsimp only [pubX, senX] at *
  by_cases he : e = 0
  · subst he
    rw [if_neg (by simp)]
    rw [Y_go]; conv => lhs; whnf
    dsimp -iota -beta -eta -zeta only
    rw [toReq_call]
    rw [ev_parent_t _ _ _ _ _ _ _ _ _ _ _ _ _ _ _ _ _ _ _ _ _ _ _ _ _ _ _ _ _ _ _ _ _ _ _ _ _ _ _ _ _ _ _ _ _ hl hhs hx h1]
    conv => lhs; whnf
    rw [ine_f (by omega)]
    conv => lhs; whnf
    dsimp -iota -beta -eta -zeta only
    rw [toReq_call]
    rw [ev_srand _ _ _ _ _ _ _ _ _ _ _ _ _ _ _ _ _ _ _ _ _ _ _ _ _ _ _ _ _ _ _ (by omega), hRR]
    conv => lhs; whnf
    dsimp -iota -beta -eta -zeta only
    rw [toReq_call]
    rw [ev_otempl _ _ _ _ _ _ _ _ (by (simp only [sha256_len, fr1_len, fr2_len, fr3_len, nameB_l32, wkey_32, uintB_l2, uintB_l1, uintB_l8, blobB_l, bankJ_len, LL] at * <;> omega))]
    conv => lhs; whnf
    dsimp -iota -beta -eta -zeta only
    rw [toReq_call]
    rw [ev_oblob1 _ _ _ _ _ _ _ (by (simp only [sha256_len, fr1_len, fr2_len, fr3_len, nameB_l32, wkey_32, uintB_l2, uintB_l1, uintB_l8, blobB_l, bankJ_len, LL] at * <;> omega))]
    conv => lhs; whnf
    dsimp -iota -beta -eta -zeta only
    rw [toReq_call]
    rw [ev_oblob2 _ _ _ _ _ _ _ _ (by (simp only [sha256_len, fr1_len, fr2_len, fr3_len, nameB_l32, wkey_32, uintB_l2, uintB_l1, uintB_l8, blobB_l, bankJ_len, LL] at * <;> omega))]
    conv => lhs; whnf
    dsimp -iota -beta -eta -zeta only
    rw [toReq_call]
    rw [em]
    conv => lhs; whnf
    dsimp -iota -beta -eta -zeta only
    rw [drw (by kernel_rfl)]; conv => lhs; whnf
    rw [ine_f (by omega)]
    conv => lhs; whnf
    dsimp -iota -beta -eta -zeta only
    rw [toReq_call]
    rw [ev_aenc _ _ _ _ _ (by omega) (by omega)]
    conv => lhs; whnf
    dsimp -iota -beta -eta -zeta only
    rw [toReq_call]
    rw [ev_wpriv _ _ _ _ _ _ _ _ _ _ _ (by omega) (by omega) (by omega)]
    conv => lhs; whnf
    dsimp -iota -beta -eta -zeta only
    rw [iadd_eq (by omega)]
    rw [drw (by kernel_rfl)]; conv => lhs; whnf
  · rw [if_pos he]
    rw [Y_go]; conv => lhs; whnf
    dsimp -iota -beta -eta -zeta only
    rw [toReq_call]
    rw [ev_parent_t _ _ _ _ _ _ _ _ _ _ _ _ _ _ _ _ _ _ _ _ _ _ _ _ _ _ _ _ _ _ _ _ _ _ _ _ _ _ _ _ _ _ _ _ _ hl hhs hx h1]
    conv => lhs; whnf
    rw [ine_f (by omega)]
    conv => lhs; whnf
    dsimp -iota -beta -eta -zeta only
    rw [toReq_call]
    rw [ev_srand _ _ _ _ _ _ _ _ _ _ _ _ _ _ _ _ _ _ _ _ _ _ _ _ _ _ _ _ _ _ _ (by omega), hRR]
    conv => lhs; whnf
    dsimp -iota -beta -eta -zeta only
    rw [toReq_call]
    rw [ev_otempl _ _ _ _ _ _ _ _ (by (simp only [sha256_len, fr1_len, fr2_len, fr3_len, nameB_l32, wkey_32, uintB_l2, uintB_l1, uintB_l8, blobB_l, bankJ_len, LL] at * <;> omega))]
    conv => lhs; whnf
    dsimp -iota -beta -eta -zeta only
    rw [toReq_call]
    rw [ev_oblob1 _ _ _ _ _ _ _ (by (simp only [sha256_len, fr1_len, fr2_len, fr3_len, nameB_l32, wkey_32, uintB_l2, uintB_l1, uintB_l8, blobB_l, bankJ_len, LL] at * <;> omega))]
    conv => lhs; whnf
    dsimp -iota -beta -eta -zeta only
    rw [toReq_call]
    rw [ev_oblob2 _ _ _ _ _ _ _ _ (by (simp only [sha256_len, fr1_len, fr2_len, fr3_len, nameB_l32, wkey_32, uintB_l2, uintB_l1, uintB_l8, blobB_l, bankJ_len, LL] at * <;> omega))]
    conv => lhs; whnf
    dsimp -iota -beta -eta -zeta only
    rw [toReq_call]
    rw [em]
    conv => lhs; whnf
    dsimp -iota -beta -eta -zeta only
    rw [drw (by kernel_rfl)]; conv => lhs; whnf
    rw [ine_t (by omega)]
    conv => lhs; whnf
    dsimp -iota -beta -eta -zeta only
    rw [toReq_call]
    rw [ev_ofail _ _ _ _ _ _ _ _ _ _ _ _ _ _ _ _ _ _ _ _ _ _ _ _ _ _ _ _ _ _ _]
    conv => lhs; whnf
theorem ev_oLoad (sd au : List (List UInt8)) (en : List UInt8) (ac re rs ck : Int) (od : Bool) (sb : List (List (List UInt8))) (su mc : Int) (ix : List (El idxT)) (l1 l2 l3 l4 l5 l6 : Int) (ks : List (El lvT)) (st sp : Bool) (rb : List (List (List UInt8))) (ru vc : Int) (sf : Bool) (dr : Int) (ss : List (El sesT)) (ob : List (El objT)) (rl wl : List Int) (c h : Int) (hs : List Int) (az : List (El authT)) (is : List Int) (bp bq : List UInt8) (p1 p2 p3 : Int) (p4 p5 s1 s2 s3 : List UInt8) (hr : Int) (hl : ob.length ≤ 1000) (hhs : hs.length ≤ 100) (hx : slotAt ob h = some ((p1, p2, p3, p4, p5), (s1, s2, s3), hr)) (h1 : p1 = 1) (hb : bp.length ≤ 100000) (hq : bq.length ≤ 100000) (h2 : s2.length ≤ 1000) :
    Y E0 (.call 30 [.agg [.sl (.sl .u8) sd, .sl (.sl .u8) au, .sl .u8 en, .i ac, .i re, .i rs, .i ck, .b od, .sl (.sl (.sl .u8)) sb, .i su, .i mc, .sl idxT ix, .i l1, .i l2, .i l3, .i l4, .i l5, .i l6, .sl lvT ks, .b st, .b sp, .sl (.sl (.sl .u8)) rb, .i ru, .i vc, .b sf, .i dr, .sl sesT ss, .sl objT ob, .sl .i64 rl, .sl .i64 wl], .agg [.i c, .sl .i64 (h :: hs), .sl authT az, .sl .i64 is, .sl (.sl .u8) [bp, bq]]] []) = some (.ret (.tup [.agg [.sl (.sl .u8) sd, .sl (.sl .u8) au, .sl .u8 en, .i ac, .i re, .i rs, .i ck, .b od, .sl (.sl (.sl .u8)) sb, .i su, .i mc, .sl idxT ix, .i l1, .i l2, .i l3, .i l4, .i l5, .i l6, .sl lvT ks, .b st, .b sp, .sl (.sl (.sl .u8)) rb, .i ru, .i vc, .b sf, .i dr, .sl sesT ss, .sl objT ((loaR ob ⟨s1, s2, s3⟩ hr bp bq).1), .sl .i64 rl, .sl .i64 wl], .agg (ansX (loaR ob ⟨s1, s2, s3⟩ hr bp bq).2)]) []) := by
  have ed := ev_adec bp (by omega)
  have hdl := decP_le bp
  unfold loaR
  generalize decP bp = D at *
  obtain ⟨⟨qk, qa, qt, qo, qu⟩, e⟩ := D
  dsimp only [pubX] at *
  by_cases he : e = 0
  · subst he
    rw [if_neg (by simp)]
    have eo := ev_wopen s1 s2 s3 qk qa qt qo qu bq (by omega) (by omega) (by omega) (by omega)
    generalize openS ⟨s1, s2, s3⟩ ⟨qk, qa, qt, qo, qu⟩ bq = O at *
    obtain ⟨⟨qx, qy, qz⟩, e⟩ := O
    dsimp only [senX] at *
    by_cases he : e = 0
    · subst he
      rw [if_neg (by simp)]
      unfold putO
      by_cases hf : freeAt ob < ob.length
      · rw [if_pos hf]
        rw [Y_go]; conv => lhs; whnf
        dsimp -iota -beta -eta -zeta only
        rw [toReq_call]
        rw [ev_parent_t _ _ _ _ _ _ _ _ _ _ _ _ _ _ _ _ _ _ _ _ _ _ _ _ _ _ _ _ _ _ _ _ _ _ _ _ _ _ _ _ _ _ _ _ _ hl hhs hx h1]
        conv => lhs; whnf
        rw [ine_f (by omega)]
        conv => lhs; whnf
        dsimp -iota -beta -eta -zeta only
        rw [toReq_call]
        rw [ev_oblob0 _ _ _ _ _ _ (by (simp only [sha256_len, fr1_len, fr2_len, fr3_len, nameB_l32, wkey_32, uintB_l2, uintB_l1, uintB_l8, blobB_l, bankJ_len, LL] at * <;> omega))]
        conv => lhs; whnf
        dsimp -iota -beta -eta -zeta only
        rw [toReq_call]
        rw [ed]
        conv => lhs; whnf
        rw [ine_f (by omega)]
        conv => lhs; whnf
        dsimp -iota -beta -eta -zeta only
        rw [toReq_call]
        rw [ev_oblob1 _ _ _ _ _ _ _ (by (simp only [sha256_len, fr1_len, fr2_len, fr3_len, nameB_l32, wkey_32, uintB_l2, uintB_l1, uintB_l8, blobB_l, bankJ_len, LL] at * <;> omega))]
        conv => lhs; whnf
        dsimp -iota -beta -eta -zeta only
        rw [toReq_call]
        rw [eo]
        conv => lhs; whnf
        dsimp -iota -beta -eta -zeta only
        rw [drw (by kernel_rfl)]; conv => lhs; whnf
        rw [ine_f (by omega)]
        conv => lhs; whnf
        dsimp -iota -beta -eta -zeta only
        rw [toReq_call]
        rw [ev_oload _ _ _ _ _ _ _ _ _ _ _ _ _ _ _ _ _ _ _ _ _ _ _ _ _ _ _ _ _ _ _ _ _ _ _ _ _ _ _ hl, if_pos hf]
        conv => lhs; whnf
        rw [ine_f (by omega)]
        conv => lhs; whnf
        dsimp -iota -beta -eta -zeta only
        rw [toReq_call]
        rw [ev_aname _ _ _ _ _ (by omega) (by omega)]
        conv => lhs; whnf
        dsimp -iota -beta -eta -zeta only
        rw [drw (by kernel_rfl)]; conv => lhs; whnf
      · rw [if_neg hf]
        rw [Y_go]; conv => lhs; whnf
        dsimp -iota -beta -eta -zeta only
        rw [toReq_call]
        rw [ev_parent_t _ _ _ _ _ _ _ _ _ _ _ _ _ _ _ _ _ _ _ _ _ _ _ _ _ _ _ _ _ _ _ _ _ _ _ _ _ _ _ _ _ _ _ _ _ hl hhs hx h1]
        conv => lhs; whnf
        rw [ine_f (by omega)]
        conv => lhs; whnf
        dsimp -iota -beta -eta -zeta only
        rw [toReq_call]
        rw [ev_oblob0 _ _ _ _ _ _ (by (simp only [sha256_len, fr1_len, fr2_len, fr3_len, nameB_l32, wkey_32, uintB_l2, uintB_l1, uintB_l8, blobB_l, bankJ_len, LL] at * <;> omega))]
        conv => lhs; whnf
        dsimp -iota -beta -eta -zeta only
        rw [toReq_call]
        rw [ed]
        conv => lhs; whnf
        rw [ine_f (by omega)]
        conv => lhs; whnf
        dsimp -iota -beta -eta -zeta only
        rw [toReq_call]
        rw [ev_oblob1 _ _ _ _ _ _ _ (by (simp only [sha256_len, fr1_len, fr2_len, fr3_len, nameB_l32, wkey_32, uintB_l2, uintB_l1, uintB_l8, blobB_l, bankJ_len, LL] at * <;> omega))]
        conv => lhs; whnf
        dsimp -iota -beta -eta -zeta only
        rw [toReq_call]
        rw [eo]
        conv => lhs; whnf
        dsimp -iota -beta -eta -zeta only
        rw [drw (by kernel_rfl)]; conv => lhs; whnf
        rw [ine_f (by omega)]
        conv => lhs; whnf
        dsimp -iota -beta -eta -zeta only
        rw [toReq_call]
        rw [ev_oload _ _ _ _ _ _ _ _ _ _ _ _ _ _ _ _ _ _ _ _ _ _ _ _ _ _ _ _ _ _ _ _ _ _ _ _ _ _ _ hl, if_neg hf]
        conv => lhs; whnf
        rw [ine_t (by omega)]
        conv => lhs; whnf
        dsimp -iota -beta -eta -zeta only
        rw [toReq_call]
        rw [ev_ofail _ _ _ _ _ _ _ _ _ _ _ _ _ _ _ _ _ _ _ _ _ _ _ _ _ _ _ _ _ _ _]
        conv => lhs; whnf
    · rw [if_pos he]
      rw [Y_go]; conv => lhs; whnf
      dsimp -iota -beta -eta -zeta only
      rw [toReq_call]
      rw [ev_parent_t _ _ _ _ _ _ _ _ _ _ _ _ _ _ _ _ _ _ _ _ _ _ _ _ _ _ _ _ _ _ _ _ _ _ _ _ _ _ _ _ _ _ _ _ _ hl hhs hx h1]
      conv => lhs; whnf
      rw [ine_f (by omega)]
      conv => lhs; whnf
      dsimp -iota -beta -eta -zeta only
      rw [toReq_call]
      rw [ev_oblob0 _ _ _ _ _ _ (by (simp only [sha256_len, fr1_len, fr2_len, fr3_len, nameB_l32, wkey_32, uintB_l2, uintB_l1, uintB_l8, blobB_l, bankJ_len, LL] at * <;> omega))]
      conv => lhs; whnf
      dsimp -iota -beta -eta -zeta only
      rw [toReq_call]
      rw [ed]
      conv => lhs; whnf
      rw [ine_f (by omega)]
      conv => lhs; whnf
      dsimp -iota -beta -eta -zeta only
      rw [toReq_call]
      rw [ev_oblob1 _ _ _ _ _ _ _ (by (simp only [sha256_len, fr1_len, fr2_len, fr3_len, nameB_l32, wkey_32, uintB_l2, uintB_l1, uintB_l8, blobB_l, bankJ_len, LL] at * <;> omega))]
      conv => lhs; whnf
      dsimp -iota -beta -eta -zeta only
      rw [toReq_call]
      rw [eo]
      conv => lhs; whnf
      dsimp -iota -beta -eta -zeta only
      rw [drw (by kernel_rfl)]; conv => lhs; whnf
      rw [ine_t (by omega)]
      conv => lhs; whnf
      dsimp -iota -beta -eta -zeta only
      rw [toReq_call]
      rw [ev_ofail _ _ _ _ _ _ _ _ _ _ _ _ _ _ _ _ _ _ _ _ _ _ _ _ _ _ _ _ _ _ _]
      conv => lhs; whnf
  · rw [if_pos he]
    rw [Y_go]; conv => lhs; whnf
    dsimp -iota -beta -eta -zeta only
    rw [toReq_call]
    rw [ev_parent_t _ _ _ _ _ _ _ _ _ _ _ _ _ _ _ _ _ _ _ _ _ _ _ _ _ _ _ _ _ _ _ _ _ _ _ _ _ _ _ _ _ _ _ _ _ hl hhs hx h1]
    conv => lhs; whnf
    rw [ine_f (by omega)]
    conv => lhs; whnf
    dsimp -iota -beta -eta -zeta only
    rw [toReq_call]
    rw [ev_oblob0 _ _ _ _ _ _ (by (simp only [sha256_len, fr1_len, fr2_len, fr3_len, nameB_l32, wkey_32, uintB_l2, uintB_l1, uintB_l8, blobB_l, bankJ_len, LL] at * <;> omega))]
    conv => lhs; whnf
    dsimp -iota -beta -eta -zeta only
    rw [toReq_call]
    rw [ed]
    conv => lhs; whnf
    rw [ine_t (by omega)]
    conv => lhs; whnf
    dsimp -iota -beta -eta -zeta only
    rw [toReq_call]
    rw [ev_ofail _ _ _ _ _ _ _ _ _ _ _ _ _ _ _ _ _ _ _ _ _ _ _ _ _ _ _ _ _ _ _]
    conv => lhs; whnf
end Go.Proofs.YtfjcmolccckhhaaGreatDoor

namespace Go.Ax
open Go.Eng
end Go.Ax
namespace Go.Proofs.YtfjcmolccckhhaaGreatDoor
open Go Go.Ax Go.Eng
set_option linter.unusedVariables false
set_option linter.unusedSimpArgs false
attribute [local irreducible] iadd isub imul iquo irem ibit ineg ieq ine ilt ile ishl ishr beq' bnot and' seq' u8op u8rem u32op u64op u8shr u8shl u64shr u64shl u32shr u32shl i64w u8i u64i iu8 iu32 iu64 u8u64 u64u8 u32u8 u64cmp u8cmp u32cmp llen lget linb lset lcut lrep lapp lcpy lemp fits fitn ieqs sealed drawChk fpSame
attribute [local irreducible] derB seedB makeP nameB encP uniB frameB primS primR privB openS decP uintB putO sigK verK
set_option maxHeartbeats 4000000
set_option maxRecDepth 100000
theorem iadd_one (x : Int) (h0 : 0 ≤ x) (h1 : x ≤ 1000) : iadd x 1 = x + 1 := iadd_eq (by omega)
theorem ev_use1 (un : List UInt8) (us : Int) (p1 p2 p3 : Int) (p4 p5 s1 s2 s3 : List UInt8) (hr : Int) : Y E0 (.call 184 [.agg [.sl .u8 un, .i us], .pa 0 0] [.var [.i p1, .i p2, .i p3, .sl .u8 p4, .sl .u8 p5, .sl .u8 s1, .sl .u8 s2, .sl .u8 s3, .i hr]]) = some (.ret (.b (decide (un = p5))) [some (.var [.i p1, .i p2, .i p3, .sl .u8 p4, .sl .u8 p5, .sl .u8 s1, .sl .u8 s2, .sl .u8 s3, .i hr])]) := by
  rw [Y_go]; conv => lhs; whnf
  (rw [seq_eq])
theorem ev_idx_loop (ks : List (El lvT)) (p1 p2 p3 : Int) (p4 p5 s1 s2 s3 : List UInt8) (hr : Int) (hl : ks.length ≤ 1000) : ∀ (n j : Nat), j + n = ks.length → keyAt p5 ks = j + keyAt p5 (ks.drop j) → Y E0 (.loop 183 0 2 2 [(0, .nm 0), (1, .fn 184 [] [.pa 1 0]), (7, .i (llen ks)), (8, .i (j : Int))] [(0, some (.row 170 lvT ks)), (1, some (.var [.i p1, .i p2, .i p3, .sl .u8 p4, .sl .u8 p5, .sl .u8 s1, .sl .u8 s2, .sl .u8 s3, .i hr]))]) =
    if keyAt p5 ks < ks.length then some (.fin .ret 2 [(4, .i (keyAt p5 ks : Int))] [(0, some (.row 170 lvT ks)), (1, some (.var [.i p1, .i p2, .i p3, .sl .u8 p4, .sl .u8 p5, .sl .u8 s1, .sl .u8 s2, .sl .u8 s3, .i hr]))]) else some (.fin (.exit 0) 2 [] [(0, some (.row 170 lvT ks)), (1, some (.var [.i p1, .i p2, .i p3, .sl .u8 p4, .sl .u8 p5, .sl .u8 s1, .sl .u8 s2, .sl .u8 s3, .i hr]))])
  | 0, j, hj, hf => by
    rw [if_neg (by rw [List.drop_eq_nil_of_le (by omega), keyAt] at hf; omega)]
    rw [Y_go]; conv => lhs; whnf
    rw [ilt_f (by (simp only [sha256_len, fr1_len, fr2_len, fr3_len, nameB_l32, wkey_32, uintB_l2, uintB_l1, uintB_l8, blobB_l, bankJ_len, LL] at * <;> omega))]
    conv => lhs; whnf
  | n + 1, j, hj, hf => by
    have hd := List.drop_eq_getElem_cons (l := ks) (i := j) (by omega)
    rw [hd] at hf
    have hg : lget ks (j : Int) = some (ks[j]'(by omega)) := lget_n (by omega)
    generalize ks[j]'(by omega) = x at *
    obtain ⟨un, us⟩ := x
    by_cases hk : un = p5
    · subst hk
      rw [keyAt, if_pos rfl] at hf
      rw [if_pos (by omega), show keyAt un ks = j from hf]
      rw [Y_go]; conv => lhs; whnf
      rw [ilt_t (by (simp only [sha256_len, fr1_len, fr2_len, fr3_len, nameB_l32, wkey_32, uintB_l2, uintB_l1, uintB_l8, blobB_l, bankJ_len, LL] at * <;> omega))]
      conv => lhs; whnf
      rw [linb_t (by omega)]
      conv => lhs; whnf
      dsimp -iota -beta -eta -zeta only
      rw [hg]; conv => lhs; whnf
      dsimp -iota -beta -eta -zeta only
      rw [toReq_call]
      rw [ev_use1 _ _ _ _ _ _ _ _ _ _ _]
      conv => lhs; whnf
      rw [decide_eq_true rfl]; conv => lhs; whnf
    · have ih := ev_idx_loop ks p1 p2 p3 p4 p5 s1 s2 s3 hr hl n (j + 1) (by omega) (by rw [hf, keyAt, if_neg hk]; omega)
      rw [show ((j + 1 : Nat) : Int) = (j : Int) + 1 from by omega] at ih
      have hkd : decide (un = p5) = false := decide_eq_false hk
      rw [Y_go]; conv => lhs; whnf
      rw [ilt_t (by (simp only [sha256_len, fr1_len, fr2_len, fr3_len, nameB_l32, wkey_32, uintB_l2, uintB_l1, uintB_l8, blobB_l, bankJ_len, LL] at * <;> omega))]
      conv => lhs; whnf
      rw [linb_t (by omega)]
      conv => lhs; whnf
      dsimp -iota -beta -eta -zeta only
      rw [hg]; conv => lhs; whnf
      dsimp -iota -beta -eta -zeta only
      rw [toReq_call]
      rw [ev_use1 _ _ _ _ _ _ _ _ _ _ _]
      conv => lhs; whnf
      rw [hkd]; conv => lhs; whnf
      dsimp -iota -beta -eta -zeta only
      rw [iadd_eq (by omega)]
      exact ih
theorem ev_idx (ks : List (El lvT)) (p1 p2 p3 : Int) (p4 p5 s1 s2 s3 : List UInt8) (hr : Int) (hl : ks.length ≤ 1000) : Y E0 (.call 183 [.nm 0, .fn 184 [] [.pa 1 0]] [.row 170 lvT ks, .var [.i p1, .i p2, .i p3, .sl .u8 p4, .sl .u8 p5, .sl .u8 s1, .sl .u8 s2, .sl .u8 s3, .i hr]]) = some (.ret (.i (if keyAt p5 ks < ks.length then (keyAt p5 ks : Int) else -1)) [some (.row 170 lvT ks), some (.var [.i p1, .i p2, .i p3, .sl .u8 p4, .sl .u8 p5, .sl .u8 s1, .sl .u8 s2, .sl .u8 s3, .i hr])]) := by
  have hq := ev_idx_loop ks p1 p2 p3 p4 p5 s1 s2 s3 hr hl ks.length 0 (by omega) (by simp)
  rw [show ((0 : Nat) : Int) = 0 from rfl] at hq
  by_cases hc : keyAt p5 ks < ks.length
  · rw [if_pos hc] at hq ⊢
    rw [Y_go]; conv => lhs; whnf
    dsimp -iota -beta -eta -zeta only
    rw [toReq_loop]
    rw [show ∀ (x : Rs), Nat.add 0 [x].length + 1 = 2 from fun _ => rfl, hq]
    conv => lhs; whnf
  · rw [if_neg hc] at hq ⊢
    rw [Y_go]; conv => lhs; whnf
    dsimp -iota -beta -eta -zeta only
    rw [toReq_loop]
    rw [show ∀ (x : Rs), Nat.add 0 [x].length + 1 = 2 from fun _ => rfl, hq]
    conv => lhs; whnf
theorem ev_ouse (sd au : List (List UInt8)) (en : List UInt8) (ac re rs ck : Int) (od : Bool) (sb : List (List (List UInt8))) (su mc : Int) (ix : List (El idxT)) (l1 l2 l3 l4 l5 l6 : Int) (ks : List (El lvT)) (st sp : Bool) (rb : List (List (List UInt8))) (ru vc : Int) (sf : Bool) (dr : Int) (ss : List (El sesT)) (ob : List (El objT)) (rl wl : List Int) (p1 p2 p3 : Int) (p4 p5 s1 s2 s3 : List UInt8) (hr : Int) (hl : ks.length ≤ 100) (hh : 0 ≤ p3 ∧ p3 ≤ 3) (hu : ∀ x ∈ ks, 0 ≤ x.2 ∧ x.2 ≤ 1000) : Y E0 (.call 128 [.agg [.sl (.sl .u8) sd, .sl (.sl .u8) au, .sl .u8 en, .i ac, .i re, .i rs, .i ck, .b od, .sl (.sl (.sl .u8)) sb, .i su, .i mc, .sl idxT ix, .i l1, .i l2, .i l3, .i l4, .i l5, .i l6, .sl lvT ks, .b st, .b sp, .sl (.sl (.sl .u8)) rb, .i ru, .i vc, .b sf, .i dr, .sl sesT ss, .sl objT ob, .sl .i64 rl, .sl .i64 wl], .agg [.i p1, .i p2, .i p3, .sl .u8 p4, .sl .u8 p5, .sl .u8 s1, .sl .u8 s2, .sl .u8 s3, .i hr]] []) = some (.ret (.tup [.agg [.sl (.sl .u8) sd, .sl (.sl .u8) au, .sl .u8 en, .i ac, .i re, .i rs, .i ck, .b od, .sl (.sl (.sl .u8)) sb, .i su, .i mc, .sl idxT ix, .i l1, .i l2, .i l3, .i l4, .i l5, .i l6, .sl lvT ((useR ks p5 p3).1), .b st, .b sp, .sl (.sl (.sl .u8)) rb, .i ru, .i vc, .b sf, .i dr, .sl sesT ss, .sl objT ob, .sl .i64 rl, .sl .i64 wl], .i (useR ks p5 p3).2.1, .i (useR ks p5 p3).2.2]) []) := by
  unfold useR
  have hp : ishl 1 (iu64 (min (max p3 0) 3)).toNat = (2 : Int) ^ p3.toNat := by
    rw [show min (max p3 0) 3 = p3 from by omega]; exact ishl1 (by omega)
  have hpw : 1 ≤ (2 : Int) ^ p3.toNat := by
    have : 1 ≤ 2 ^ p3.toNat := Nat.one_le_two_pow
    exact_mod_cast this
  by_cases hc : keyAt p5 ks < ks.length
  · rw [if_pos hc]
    have hi := ev_idx ks p1 p2 p3 p4 p5 s1 s2 s3 hr (by omega)
    rw [if_pos hc] at hi
    have hg : lget ks (keyAt p5 ks : Int) = some (ks.getD (keyAt p5 ks) ([], 0)) := by rw [lget_n hc]; simp [List.getD, List.getElem?_eq_getElem hc]
    have hm := hu (ks.getD (keyAt p5 ks) ([], 0)) (by simp only [List.getD, List.getElem?_eq_getElem hc, Option.getD_some]; exact List.getElem_mem _)
    have hs : ∀ x, lset ks (keyAt p5 ks : Int) x = ks.set (keyAt p5 ks) x := fun x => by rw [lset_eq]; simp
    generalize ks.getD (keyAt p5 ks) ([], 0) = x at *
    obtain ⟨un, us⟩ := x
    generalize keyAt p5 ks = K at *
    dsimp only at hm ⊢
    generalize (2 : Int) ^ p3.toNat = W at *
    by_cases hw : W ≤ us
    · rw [if_pos hw]
      rw [Y_go]; conv => lhs; whnf
      dsimp -iota -beta -eta -zeta only
      rw [toReq_call]
      rw [ev_cll _ (by omega)]
      conv => lhs; whnf
      dsimp -iota -beta -eta -zeta only
      rw [toReq_call]
      rw [hi]
      conv => lhs; whnf
      rw [ilt_f (by omega)]
      conv => lhs; whnf
      rw [Y_go]; conv => lhs; whnf
      rw [linb_t (by omega)]
      conv => lhs; whnf
      dsimp -iota -beta -eta -zeta only
      rw [hg]; conv => lhs; whnf
      dsimp -iota -beta -eta -zeta only
      rw [hp]
      rw [ile_t (by omega)]
      conv => lhs; whnf
    · rw [if_neg hw]
      have hs1 := iadd_one us hm.1 hm.2
      rw [Y_go]; conv => lhs; whnf
      dsimp -iota -beta -eta -zeta only
      rw [toReq_call]
      rw [ev_cll _ (by omega)]
      conv => lhs; whnf
      dsimp -iota -beta -eta -zeta only
      rw [toReq_call]
      rw [hi]
      conv => lhs; whnf
      rw [ilt_f (by omega)]
      conv => lhs; whnf
      rw [Y_go]; conv => lhs; whnf
      rw [linb_t (by omega)]
      conv => lhs; whnf
      dsimp -iota -beta -eta -zeta only
      rw [hg]; conv => lhs; whnf
      dsimp -iota -beta -eta -zeta only
      rw [hp]
      rw [ile_f (by omega)]
      conv => lhs; whnf
      rw [linb_t (by omega)]
      conv => lhs; whnf
      dsimp -iota -beta -eta -zeta only
      rw [hg]; conv => lhs; whnf
      dsimp -iota -beta -eta -zeta only
      rw [linb_t (by omega)]
      conv => lhs; whnf
      rw [hg]; conv => lhs; whnf
      dsimp -iota -beta -eta -zeta only
      rw [hs]
      (rw [hs1])
  · rw [if_neg hc]
    have hi := ev_idx ks p1 p2 p3 p4 p5 s1 s2 s3 hr (by omega)
    rw [if_neg hc] at hi
    by_cases h8 : 8 ≤ ks.length
    · rw [if_pos h8]
      rw [Y_go]; conv => lhs; whnf
      dsimp -iota -beta -eta -zeta only
      rw [toReq_call]
      rw [ev_cll _ (by omega)]
      conv => lhs; whnf
      dsimp -iota -beta -eta -zeta only
      rw [toReq_call]
      rw [hi]
      conv => lhs; whnf
      rw [ilt_t (by omega)]
      conv => lhs; whnf
      rw [ile_t (by (simp only [sha256_len, fr1_len, fr2_len, fr3_len, nameB_l32, wkey_32, uintB_l2, uintB_l1, uintB_l8, blobB_l, bankJ_len, LL] at * <;> omega))]
      conv => lhs; whnf
    · rw [if_neg h8]
      have hg : lget (lapp ks [(p5, 0)]) (llen ks) = some (p5, 0) := by rw [lapp_eq, llen_eq, lget_n (by simp)]; simp
      have hs : lset (lapp ks [(p5, 0)]) (llen ks) (p5, 0 + 1) = ks ++ [(p5, 1)] := by rw [lset_eq, lapp_eq, llen_eq]; simp
      generalize (2 : Int) ^ p3.toNat = W at *
      rw [Y_go]; conv => lhs; whnf
      dsimp -iota -beta -eta -zeta only
      rw [toReq_call]
      rw [ev_cll _ (by omega)]
      conv => lhs; whnf
      dsimp -iota -beta -eta -zeta only
      rw [toReq_call]
      rw [hi]
      conv => lhs; whnf
      rw [ilt_t (by omega)]
      conv => lhs; whnf
      rw [ile_f (by (simp only [sha256_len, fr1_len, fr2_len, fr3_len, nameB_l32, wkey_32, uintB_l2, uintB_l1, uintB_l8, blobB_l, bankJ_len, LL] at * <;> omega))]
      conv => lhs; whnf
      rw [fits_t (by (simp only [sha256_len, fr1_len, fr2_len, fr3_len, nameB_l32, wkey_32, uintB_l2, uintB_l1, uintB_l8, blobB_l, bankJ_len, LL] at * <;> omega))]
      conv => lhs; whnf
      rw [Y_go]; conv => lhs; whnf
      rw [linb_t (by (simp only [sha256_len, fr1_len, fr2_len, fr3_len, nameB_l32, wkey_32, uintB_l2, uintB_l1, uintB_l8, blobB_l, bankJ_len, LL] at * <;> omega))]
      conv => lhs; whnf
      dsimp -iota -beta -eta -zeta only
      rw [hg]; conv => lhs; whnf
      dsimp -iota -beta -eta -zeta only
      rw [hp]
      rw [ile_f (by omega)]
      conv => lhs; whnf
      rw [linb_t (by (simp only [sha256_len, fr1_len, fr2_len, fr3_len, nameB_l32, wkey_32, uintB_l2, uintB_l1, uintB_l8, blobB_l, bankJ_len, LL] at * <;> omega))]
      conv => lhs; whnf
      dsimp -iota -beta -eta -zeta only
      rw [hg]; conv => lhs; whnf
      dsimp -iota -beta -eta -zeta only
      rw [linb_t (by (simp only [sha256_len, fr1_len, fr2_len, fr3_len, nameB_l32, wkey_32, uintB_l2, uintB_l1, uintB_l8, blobB_l, bankJ_len, LL] at * <;> omega))]
      conv => lhs; whnf
      rw [hg]; conv => lhs; whnf
      dsimp -iota -beta -eta -zeta only
      rw [iadd_eq (by omega)]
      rw [hs]
theorem ev_osig_t (sd au : List (List UInt8)) (en : List UInt8) (ac re rs ck : Int) (od : Bool) (sb : List (List (List UInt8))) (su mc : Int) (ix : List (El idxT)) (l1 l2 l3 l4 l5 l6 : Int) (ks : List (El lvT)) (st sp : Bool) (rb : List (List (List UInt8))) (ru vc : Int) (sf : Bool) (dr : Int) (ss : List (El sesT)) (ob : List (El objT)) (rl wl : List Int) (p1 p2 p3 : Int) (p4 p5 s1 s2 s3 : List UInt8) (hr : Int) (m : List UInt8) (hkl : ks.length ≤ 100) (hh : 0 ≤ p3 ∧ p3 ≤ 3) (hu : ∀ x ∈ ks, 0 ≤ x.2 ∧ x.2 ≤ 1000) (h2 : s2.length ≤ 1000) (hm : m.length ≤ 100000) (he : (useR ks p5 p3).2.2 = 0) : Y E0 (.call 60 [.agg [.sl (.sl .u8) sd, .sl (.sl .u8) au, .sl .u8 en, .i ac, .i re, .i rs, .i ck, .b od, .sl (.sl (.sl .u8)) sb, .i su, .i mc, .sl idxT ix, .i l1, .i l2, .i l3, .i l4, .i l5, .i l6, .sl lvT ks, .b st, .b sp, .sl (.sl (.sl .u8)) rb, .i ru, .i vc, .b sf, .i dr, .sl sesT ss, .sl objT ob, .sl .i64 rl, .sl .i64 wl], .agg [.i p1, .i p2, .i p3, .sl .u8 p4, .sl .u8 p5, .sl .u8 s1, .sl .u8 s2, .sl .u8 s3, .i hr], .sl .u8 m] []) = some (.ret (.tup [.agg [.sl (.sl .u8) sd, .sl (.sl .u8) au, .sl .u8 en, .i ac, .i re, .i rs, .i ck, .b od, .sl (.sl (.sl .u8)) sb, .i su, .i mc, .sl idxT ix, .i l1, .i l2, .i l3, .i l4, .i l5, .i l6, .sl lvT ((useR ks p5 p3).1), .b st, .b sp, .sl (.sl (.sl .u8)) rb, .i ru, .i vc, .b sf, .i dr, .sl sesT ss, .sl objT ob, .sl .i64 rl, .sl .i64 wl], .sl .u8 (sigK s2 p3 (useR ks p5 p3).2.1 m), .i 0]) []) := by
  have e := ev_ouse sd au en ac re rs ck od sb su mc ix l1 l2 l3 l4 l5 l6 ks st sp rb ru vc sf dr ss ob rl wl p1 p2 p3 p4 p5 s1 s2 s3 hr hkl hh hu
  generalize useR ks p5 p3 = U at *
  obtain ⟨u1, u2, u3⟩ := U
  dsimp only at *
  subst he
  rw [Y_go]; conv => lhs; whnf
  dsimp -iota -beta -eta -zeta only
  rw [toReq_call]
  rw [e]
  conv => lhs; whnf
  rw [ine_f (by omega)]
  conv => lhs; whnf
  dsimp -iota -beta -eta -zeta only
  rw [toReq_call]
  rw [ev_ssign _ _ _ _ (by omega) (by omega)]
  conv => lhs; whnf
  dsimp -iota -beta -eta -zeta only
  rw [drw (by kernel_rfl)]; conv => lhs; whnf
theorem ev_signing_ok (sd au : List (List UInt8)) (en : List UInt8) (ac re rs ck : Int) (od : Bool) (sb : List (List (List UInt8))) (su mc : Int) (ix : List (El idxT)) (l1 l2 l3 l4 l5 l6 : Int) (ks : List (El lvT)) (st sp : Bool) (rb : List (List (List UInt8))) (ru vc : Int) (sf : Bool) (dr : Int) (ss : List (El sesT)) (ob : List (El objT)) (rl wl : List Int) (c h : Int) (hs : List Int) (az : List (El authT)) (is : List Int) (m : List UInt8) (bs : List (List UInt8)) (p1 p2 p3 : Int) (p4 p5 s1 s2 s3 : List UInt8) (hr : Int) (r : Bool) (hl : ob.length ≤ 1000) (hhs : hs.length ≤ 100) (hbs : bs.length ≤ 100) (hx : slotAt ob h = some ((p1, p2, p3, p4, p5), (s1, s2, s3), hr)) (h1 : p1 = 2) (ha : r = !decide (ibit .and p2 4 = 0)) (hm : m.length ≤ 128) :
    Y E0 (.call 59 [.agg [.sl (.sl .u8) sd, .sl (.sl .u8) au, .sl .u8 en, .i ac, .i re, .i rs, .i ck, .b od, .sl (.sl (.sl .u8)) sb, .i su, .i mc, .sl idxT ix, .i l1, .i l2, .i l3, .i l4, .i l5, .i l6, .sl lvT ks, .b st, .b sp, .sl (.sl (.sl .u8)) rb, .i ru, .i vc, .b sf, .i dr, .sl sesT ss, .sl objT ob, .sl .i64 rl, .sl .i64 wl], .agg [.i c, .sl .i64 (h :: hs), .sl authT az, .sl .i64 is, .sl (.sl .u8) (m :: bs)], .b r] []) = some (.ret (.tup [.agg [.i p1, .i p2, .i p3, .sl .u8 p4, .sl .u8 p5, .sl .u8 s1, .sl .u8 s2, .sl .u8 s3, .i hr], .i 0]) []) := by
  subst ha
  by_cases hq : ibit .and p2 4 = 0
  · rw [hq, decide_eq_true rfl]
    rw [Y_go]; conv => lhs; whnf
    dsimp -iota -beta -eta -zeta only
    rw [toReq_call]
    rw [ev_ofirst _ _ _ _ _ _ (by omega)]
    conv => lhs; whnf
    dsimp -iota -beta -eta -zeta only
    rw [toReq_call]
    rw [ev_eobj_t _ _ _ _ _ _ _ _ _ _ _ _ _ _ _ _ _ _ _ _ _ _ _ _ _ _ _ _ _ _ _ _ _ _ _ _ _ _ _ _ hl hx]
    conv => lhs; whnf
    dsimp -iota -beta -eta -zeta only
    rw [drw (by kernel_rfl)]; conv => lhs; whnf
    rw [ine_f (by omega)]
    conv => lhs; whnf
    rw [ine_f (by omega)]
    conv => lhs; whnf
    rw [hq]
    rw [show beq' (ine 0 0) (!true) = true from by rw [ine_f (by rfl), beq_d]; rfl]; conv => lhs; whnf
    rw [bnot_eq]; conv => lhs; whnf
    dsimp -iota -beta -eta -zeta only
    rw [toReq_call]
    rw [ev_oblob0 _ _ _ _ _ _ (by omega)]
    conv => lhs; whnf
    rw [ilt_f (by (simp only [sha256_len, fr1_len, fr2_len, fr3_len, nameB_l32, wkey_32, uintB_l2, uintB_l1, uintB_l8, blobB_l, bankJ_len, LL] at * <;> omega))]
    conv => lhs; whnf
  · rw [decide_eq_false hq]
    rw [Y_go]; conv => lhs; whnf
    dsimp -iota -beta -eta -zeta only
    rw [toReq_call]
    rw [ev_ofirst _ _ _ _ _ _ (by omega)]
    conv => lhs; whnf
    dsimp -iota -beta -eta -zeta only
    rw [toReq_call]
    rw [ev_eobj_t _ _ _ _ _ _ _ _ _ _ _ _ _ _ _ _ _ _ _ _ _ _ _ _ _ _ _ _ _ _ _ _ _ _ _ _ _ _ _ _ hl hx]
    conv => lhs; whnf
    dsimp -iota -beta -eta -zeta only
    rw [drw (by kernel_rfl)]; conv => lhs; whnf
    rw [ine_f (by omega)]
    conv => lhs; whnf
    rw [ine_f (by omega)]
    conv => lhs; whnf
    rw [show beq' (ine (ibit .and p2 4) 0) (!false) = true from by rw [ine_t hq, beq_d]; rfl]; conv => lhs; whnf
    rw [bnot_eq]; conv => lhs; whnf
    dsimp -iota -beta -eta -zeta only
    rw [toReq_call]
    rw [ev_oblob0 _ _ _ _ _ _ (by omega)]
    conv => lhs; whnf
    rw [ilt_f (by (simp only [sha256_len, fr1_len, fr2_len, fr3_len, nameB_l32, wkey_32, uintB_l2, uintB_l1, uintB_l8, blobB_l, bankJ_len, LL] at * <;> omega))]
    conv => lhs; whnf
theorem ev_signing_k (sd au : List (List UInt8)) (en : List UInt8) (ac re rs ck : Int) (od : Bool) (sb : List (List (List UInt8))) (su mc : Int) (ix : List (El idxT)) (l1 l2 l3 l4 l5 l6 : Int) (ks : List (El lvT)) (st sp : Bool) (rb : List (List (List UInt8))) (ru vc : Int) (sf : Bool) (dr : Int) (ss : List (El sesT)) (ob : List (El objT)) (rl wl : List Int) (c h : Int) (hs : List Int) (az : List (El authT)) (is : List Int) (m : List UInt8) (bs : List (List UInt8)) (p1 p2 p3 : Int) (p4 p5 s1 s2 s3 : List UInt8) (hr : Int) (r : Bool) (hl : ob.length ≤ 1000) (hhs : hs.length ≤ 100) (hx : slotAt ob h = some ((p1, p2, p3, p4, p5), (s1, s2, s3), hr)) (h1 : p1 ≠ 2) :
    Y E0 (.call 59 [.agg [.sl (.sl .u8) sd, .sl (.sl .u8) au, .sl .u8 en, .i ac, .i re, .i rs, .i ck, .b od, .sl (.sl (.sl .u8)) sb, .i su, .i mc, .sl idxT ix, .i l1, .i l2, .i l3, .i l4, .i l5, .i l6, .sl lvT ks, .b st, .b sp, .sl (.sl (.sl .u8)) rb, .i ru, .i vc, .b sf, .i dr, .sl sesT ss, .sl objT ob, .sl .i64 rl, .sl .i64 wl], .agg [.i c, .sl .i64 (h :: hs), .sl authT az, .sl .i64 is, .sl (.sl .u8) (m :: bs)], .b r] []) = some (.ret (.tup [.agg [.i p1, .i p2, .i p3, .sl .u8 p4, .sl .u8 p5, .sl .u8 s1, .sl .u8 s2, .sl .u8 s3, .i hr], .i 19]) []) := by
  rw [Y_go]; conv => lhs; whnf
  dsimp -iota -beta -eta -zeta only
  rw [toReq_call]
  rw [ev_ofirst _ _ _ _ _ _ (by omega)]
  conv => lhs; whnf
  dsimp -iota -beta -eta -zeta only
  rw [toReq_call]
  rw [ev_eobj_t _ _ _ _ _ _ _ _ _ _ _ _ _ _ _ _ _ _ _ _ _ _ _ _ _ _ _ _ _ _ _ _ _ _ _ _ _ _ _ _ hl hx]
  conv => lhs; whnf
  dsimp -iota -beta -eta -zeta only
  rw [drw (by kernel_rfl)]; conv => lhs; whnf
  rw [ine_f (by omega)]
  conv => lhs; whnf
  rw [ine_t (by omega)]
  conv => lhs; whnf
theorem ev_signing_a (sd au : List (List UInt8)) (en : List UInt8) (ac re rs ck : Int) (od : Bool) (sb : List (List (List UInt8))) (su mc : Int) (ix : List (El idxT)) (l1 l2 l3 l4 l5 l6 : Int) (ks : List (El lvT)) (st sp : Bool) (rb : List (List (List UInt8))) (ru vc : Int) (sf : Bool) (dr : Int) (ss : List (El sesT)) (ob : List (El objT)) (rl wl : List Int) (c h : Int) (hs : List Int) (az : List (El authT)) (is : List Int) (m : List UInt8) (bs : List (List UInt8)) (p1 p2 p3 : Int) (p4 p5 s1 s2 s3 : List UInt8) (hr : Int) (r : Bool) (hl : ob.length ≤ 1000) (hhs : hs.length ≤ 100) (hx : slotAt ob h = some ((p1, p2, p3, p4, p5), (s1, s2, s3), hr)) (h1 : p1 = 2) (ha : r = decide (ibit .and p2 4 = 0)) :
    Y E0 (.call 59 [.agg [.sl (.sl .u8) sd, .sl (.sl .u8) au, .sl .u8 en, .i ac, .i re, .i rs, .i ck, .b od, .sl (.sl (.sl .u8)) sb, .i su, .i mc, .sl idxT ix, .i l1, .i l2, .i l3, .i l4, .i l5, .i l6, .sl lvT ks, .b st, .b sp, .sl (.sl (.sl .u8)) rb, .i ru, .i vc, .b sf, .i dr, .sl sesT ss, .sl objT ob, .sl .i64 rl, .sl .i64 wl], .agg [.i c, .sl .i64 (h :: hs), .sl authT az, .sl .i64 is, .sl (.sl .u8) (m :: bs)], .b r] []) = some (.ret (.tup [.agg [.i p1, .i p2, .i p3, .sl .u8 p4, .sl .u8 p5, .sl .u8 s1, .sl .u8 s2, .sl .u8 s3, .i hr], .i 20]) []) := by
  subst ha
  by_cases hq : ibit .and p2 4 = 0
  · rw [hq, decide_eq_true rfl]
    rw [Y_go]; conv => lhs; whnf
    dsimp -iota -beta -eta -zeta only
    rw [toReq_call]
    rw [ev_ofirst _ _ _ _ _ _ (by omega)]
    conv => lhs; whnf
    dsimp -iota -beta -eta -zeta only
    rw [toReq_call]
    rw [ev_eobj_t _ _ _ _ _ _ _ _ _ _ _ _ _ _ _ _ _ _ _ _ _ _ _ _ _ _ _ _ _ _ _ _ _ _ _ _ _ _ _ _ hl hx]
    conv => lhs; whnf
    dsimp -iota -beta -eta -zeta only
    rw [drw (by kernel_rfl)]; conv => lhs; whnf
    rw [ine_f (by omega)]
    conv => lhs; whnf
    rw [ine_f (by omega)]
    conv => lhs; whnf
    rw [hq]
    rw [show beq' (ine 0 0) true = false from by rw [ine_f (by rfl), beq_d]; rfl]; conv => lhs; whnf
    rw [bnot_eq]; conv => lhs; whnf
  · rw [decide_eq_false hq]
    rw [Y_go]; conv => lhs; whnf
    dsimp -iota -beta -eta -zeta only
    rw [toReq_call]
    rw [ev_ofirst _ _ _ _ _ _ (by omega)]
    conv => lhs; whnf
    dsimp -iota -beta -eta -zeta only
    rw [toReq_call]
    rw [ev_eobj_t _ _ _ _ _ _ _ _ _ _ _ _ _ _ _ _ _ _ _ _ _ _ _ _ _ _ _ _ _ _ _ _ _ _ _ _ _ _ _ _ hl hx]
    conv => lhs; whnf
    dsimp -iota -beta -eta -zeta only
    rw [drw (by kernel_rfl)]; conv => lhs; whnf
    rw [ine_f (by omega)]
    conv => lhs; whnf
    rw [ine_f (by omega)]
    conv => lhs; whnf
    rw [show beq' (ine (ibit .and p2 4) 0) false = false from by rw [ine_t hq, beq_d]; rfl]; conv => lhs; whnf
    rw [bnot_eq]; conv => lhs; whnf
theorem ev_osign_ok (sd au : List (List UInt8)) (en : List UInt8) (ac re rs ck : Int) (od : Bool) (sb : List (List (List UInt8))) (su mc : Int) (ix : List (El idxT)) (l1 l2 l3 l4 l5 l6 : Int) (ks : List (El lvT)) (st sp : Bool) (rb : List (List (List UInt8))) (ru vc : Int) (sf : Bool) (dr : Int) (ss : List (El sesT)) (ob : List (El objT)) (rl wl : List Int) (c h : Int) (hs : List Int) (az : List (El authT)) (is : List Int) (m : List UInt8) (bs : List (List UInt8)) (p1 p2 p3 : Int) (p4 p5 s1 s2 s3 : List UInt8) (hr : Int) (hl : ob.length ≤ 1000) (hhs : hs.length ≤ 100) (hbs : bs.length ≤ 100) (hx : slotAt ob h = some ((p1, p2, p3, p4, p5), (s1, s2, s3), hr)) (h1 : p1 = 2) (ha : ibit .and p2 4 = 0) (hm : m.length ≤ 128) (hkl : ks.length ≤ 100) (hh : 0 ≤ p3 ∧ p3 ≤ 3) (hu : ∀ x ∈ ks, 0 ≤ x.2 ∧ x.2 ≤ 1000) (h2 : s2.length ≤ 1000) (he : (useR ks p5 p3).2.2 = 0) :
    Y E0 (.call 19 [.agg [.sl (.sl .u8) sd, .sl (.sl .u8) au, .sl .u8 en, .i ac, .i re, .i rs, .i ck, .b od, .sl (.sl (.sl .u8)) sb, .i su, .i mc, .sl idxT ix, .i l1, .i l2, .i l3, .i l4, .i l5, .i l6, .sl lvT ks, .b st, .b sp, .sl (.sl (.sl .u8)) rb, .i ru, .i vc, .b sf, .i dr, .sl sesT ss, .sl objT ob, .sl .i64 rl, .sl .i64 wl], .agg [.i c, .sl .i64 (h :: hs), .sl authT az, .sl .i64 is, .sl (.sl .u8) (m :: bs)]] []) = some (.ret (.tup [.agg [.sl (.sl .u8) sd, .sl (.sl .u8) au, .sl .u8 en, .i ac, .i re, .i rs, .i ck, .b od, .sl (.sl (.sl .u8)) sb, .i su, .i mc, .sl idxT ix, .i l1, .i l2, .i l3, .i l4, .i l5, .i l6, .sl lvT ((useR ks p5 p3).1), .b st, .b sp, .sl (.sl (.sl .u8)) rb, .i ru, .i vc, .b sf, .i dr, .sl sesT ss, .sl objT ob, .sl .i64 rl, .sl .i64 wl], .agg [.i 0, .sl .i64 [], .sl (.sl .u8) [sigK s2 p3 (useR ks p5 p3).2.1 m], .sl (.sl .u8) []]]) []) := by
  have e1 := ev_signing_ok sd au en ac re rs ck od sb su mc ix l1 l2 l3 l4 l5 l6 ks st sp rb ru vc sf dr ss ob rl wl c h hs az is m bs p1 p2 p3 p4 p5 s1 s2 s3 hr false hl hhs hbs hx h1 (by rw [ha]; rfl) hm
  have e2 := ev_osig_t sd au en ac re rs ck od sb su mc ix l1 l2 l3 l4 l5 l6 ks st sp rb ru vc sf dr ss ob rl wl p1 p2 p3 p4 p5 s1 s2 s3 hr m hkl hh hu h2 (by omega) he
  rw [Y_go]; conv => lhs; whnf
  dsimp -iota -beta -eta -zeta only
  rw [toReq_call]
  rw [e1]
  conv => lhs; whnf
  rw [ine_f (by omega)]
  conv => lhs; whnf
  dsimp -iota -beta -eta -zeta only
  rw [toReq_call]
  rw [ev_oblob0 _ _ _ _ _ _ (by omega)]
  conv => lhs; whnf
  dsimp -iota -beta -eta -zeta only
  rw [toReq_call]
  rw [e2]
  conv => lhs; whnf
  dsimp -iota -beta -eta -zeta only
  rw [drw (by kernel_rfl)]; conv => lhs; whnf
  rw [ine_f (by omega)]
  conv => lhs; whnf
theorem ev_osign_k (sd au : List (List UInt8)) (en : List UInt8) (ac re rs ck : Int) (od : Bool) (sb : List (List (List UInt8))) (su mc : Int) (ix : List (El idxT)) (l1 l2 l3 l4 l5 l6 : Int) (ks : List (El lvT)) (st sp : Bool) (rb : List (List (List UInt8))) (ru vc : Int) (sf : Bool) (dr : Int) (ss : List (El sesT)) (ob : List (El objT)) (rl wl : List Int) (c h : Int) (hs : List Int) (az : List (El authT)) (is : List Int) (m : List UInt8) (bs : List (List UInt8)) (p1 p2 p3 : Int) (p4 p5 s1 s2 s3 : List UInt8) (hr : Int) (hl : ob.length ≤ 1000) (hhs : hs.length ≤ 100) (hx : slotAt ob h = some ((p1, p2, p3, p4, p5), (s1, s2, s3), hr)) (h1 : p1 ≠ 2) :
    Y E0 (.call 19 [.agg [.sl (.sl .u8) sd, .sl (.sl .u8) au, .sl .u8 en, .i ac, .i re, .i rs, .i ck, .b od, .sl (.sl (.sl .u8)) sb, .i su, .i mc, .sl idxT ix, .i l1, .i l2, .i l3, .i l4, .i l5, .i l6, .sl lvT ks, .b st, .b sp, .sl (.sl (.sl .u8)) rb, .i ru, .i vc, .b sf, .i dr, .sl sesT ss, .sl objT ob, .sl .i64 rl, .sl .i64 wl], .agg [.i c, .sl .i64 (h :: hs), .sl authT az, .sl .i64 is, .sl (.sl .u8) (m :: bs)]] []) = some (.ret (.tup [.agg [.sl (.sl .u8) sd, .sl (.sl .u8) au, .sl .u8 en, .i ac, .i re, .i rs, .i ck, .b od, .sl (.sl (.sl .u8)) sb, .i su, .i mc, .sl idxT ix, .i l1, .i l2, .i l3, .i l4, .i l5, .i l6, .sl lvT ks, .b st, .b sp, .sl (.sl (.sl .u8)) rb, .i ru, .i vc, .b sf, .i dr, .sl sesT ss, .sl objT ob, .sl .i64 rl, .sl .i64 wl], .agg [.i 19, .sl .i64 [], .sl (.sl .u8) [], .sl (.sl .u8) []]]) []) := by
  have e1 := ev_signing_k sd au en ac re rs ck od sb su mc ix l1 l2 l3 l4 l5 l6 ks st sp rb ru vc sf dr ss ob rl wl c h hs az is m bs p1 p2 p3 p4 p5 s1 s2 s3 hr false hl hhs hx h1
  rw [Y_go]; conv => lhs; whnf
  dsimp -iota -beta -eta -zeta only
  rw [toReq_call]
  rw [e1]
  conv => lhs; whnf
  rw [ine_t (by omega)]
  conv => lhs; whnf
  dsimp -iota -beta -eta -zeta only
  rw [toReq_call]
  rw [ev_ofail _ _ _ _ _ _ _ _ _ _ _ _ _ _ _ _ _ _ _ _ _ _ _ _ _ _ _ _ _ _ _]
  conv => lhs; whnf
theorem ev_osign_a (sd au : List (List UInt8)) (en : List UInt8) (ac re rs ck : Int) (od : Bool) (sb : List (List (List UInt8))) (su mc : Int) (ix : List (El idxT)) (l1 l2 l3 l4 l5 l6 : Int) (ks : List (El lvT)) (st sp : Bool) (rb : List (List (List UInt8))) (ru vc : Int) (sf : Bool) (dr : Int) (ss : List (El sesT)) (ob : List (El objT)) (rl wl : List Int) (c h : Int) (hs : List Int) (az : List (El authT)) (is : List Int) (m : List UInt8) (bs : List (List UInt8)) (p1 p2 p3 : Int) (p4 p5 s1 s2 s3 : List UInt8) (hr : Int) (hl : ob.length ≤ 1000) (hhs : hs.length ≤ 100) (hx : slotAt ob h = some ((p1, p2, p3, p4, p5), (s1, s2, s3), hr)) (h1 : p1 = 2) (ha : ibit .and p2 4 ≠ 0) :
    Y E0 (.call 19 [.agg [.sl (.sl .u8) sd, .sl (.sl .u8) au, .sl .u8 en, .i ac, .i re, .i rs, .i ck, .b od, .sl (.sl (.sl .u8)) sb, .i su, .i mc, .sl idxT ix, .i l1, .i l2, .i l3, .i l4, .i l5, .i l6, .sl lvT ks, .b st, .b sp, .sl (.sl (.sl .u8)) rb, .i ru, .i vc, .b sf, .i dr, .sl sesT ss, .sl objT ob, .sl .i64 rl, .sl .i64 wl], .agg [.i c, .sl .i64 (h :: hs), .sl authT az, .sl .i64 is, .sl (.sl .u8) (m :: bs)]] []) = some (.ret (.tup [.agg [.sl (.sl .u8) sd, .sl (.sl .u8) au, .sl .u8 en, .i ac, .i re, .i rs, .i ck, .b od, .sl (.sl (.sl .u8)) sb, .i su, .i mc, .sl idxT ix, .i l1, .i l2, .i l3, .i l4, .i l5, .i l6, .sl lvT ks, .b st, .b sp, .sl (.sl (.sl .u8)) rb, .i ru, .i vc, .b sf, .i dr, .sl sesT ss, .sl objT ob, .sl .i64 rl, .sl .i64 wl], .agg [.i 20, .sl .i64 [], .sl (.sl .u8) [], .sl (.sl .u8) []]]) []) := by
  have e1 := ev_signing_a sd au en ac re rs ck od sb su mc ix l1 l2 l3 l4 l5 l6 ks st sp rb ru vc sf dr ss ob rl wl c h hs az is m bs p1 p2 p3 p4 p5 s1 s2 s3 hr false hl hhs hx h1 (by rw [decide_eq_false ha])
  rw [Y_go]; conv => lhs; whnf
  dsimp -iota -beta -eta -zeta only
  rw [toReq_call]
  rw [e1]
  conv => lhs; whnf
  rw [ine_t (by omega)]
  conv => lhs; whnf
  dsimp -iota -beta -eta -zeta only
  rw [toReq_call]
  rw [ev_ofail _ _ _ _ _ _ _ _ _ _ _ _ _ _ _ _ _ _ _ _ _ _ _ _ _ _ _ _ _ _ _]
  conv => lhs; whnf
end Go.Proofs.YtfjcmolccckhhaaGreatDoor

namespace Go.Ax
abbrev attX (a : Att) : List AV := [.sl .u8 a.key, .sl .u8 a.nonce, .i a.resets, .i a.restarts, .i a.clock, .b a.safe, .i a.updates, .i a.s0, .i a.s1, .sl .u8 a.digest]
theorem magicB_len : magicB.length = 4 := rfl
end Go.Ax
namespace Go.Proofs.YtfjcmolccckhhaaGreatDoor
open Go Go.Ax
set_option linter.unusedVariables false
set_option linter.unusedSimpArgs false
attribute [local irreducible] iadd isub imul iquo irem ibit ineg ieq ine ilt ile ishl ishr beq' bnot and' seq' u8op u8rem u32op u64op u8shr u8shl u64shr u64shl u32shr u32shl i64w u8i u64i iu8 iu32 iu64 u8u64 u64u8 u32u8 u64cmp u8cmp u32cmp llen lget linb lset lcut lrep lapp lcpy lemp fits fitn ieqs sealed drawChk fpSame
set_option maxHeartbeats 1000000
set_option maxRecDepth 100000
theorem ev_att_encode_loop (b : List UInt8) (a : Att) (s0 s1 : Int) (hb : b.length ≤ 1000000) : Y E0 (.loop 76 0 0 2 [(1, .pa 0 0), (3, .nm 1), (37, .agg [.i s0, .i s1]), (38, .i 0)] [(0, some (.var (attX a))), (1, some (.row 5 .u8 b))]) = some (.fin (.exit 0) 2 [(1, .pa 0 0), (3, .nm 1)] [(0, some (.var (attX a))), (1, some (.row 5 .u8 (uintB (uintB b 2 s0) 2 s1)))]) := by
  dsimp only [attX]
  rw [Y_go]; conv => lhs; whnf
  rw [ilt_t (by omega)]
  conv => lhs; whnf
  rw [ile_t (by omega)]
  conv => lhs; whnf
  rw [ilt_t (by omega)]
  conv => lhs; whnf
  rw [toReq_call]
  rw [ev_uint _ _ _ (by omega)]
  conv => lhs; whnf
  rw [iadd_eq (by omega)]
  rw [Y_go]; conv => lhs; whnf
  rw [ilt_t (by omega)]
  conv => lhs; whnf
  rw [ile_t (by omega)]
  conv => lhs; whnf
  rw [ilt_t (by omega)]
  conv => lhs; whnf
  rw [toReq_call]
  rw [ev_uint _ _ _ (by (simp only [uintB_l8, uintB_l4, uintB_l3, uintB_l2, uintB_l1, blobB_l, seedB_len, magicB_len, LL] at * <;> omega))]
  conv => lhs; whnf
  rw [iadd_eq (by omega)]
  rw [Y_go]; conv => lhs; whnf
  rw [ilt_f (by omega)]
  conv => lhs; whnf
theorem ev_att_encode (a : Att) (hk : a.key.length ≤ 100000) (hn : a.nonce.length ≤ 100000) (hd : a.digest.length ≤ 100000) : Y E0 (.call 76 [.agg (attX a)] []) = some (.ret (.sl .u8 (encA a)) []) := by
  obtain ⟨key, nonce, resets, restarts, clock, safe, updates, s0, s1, digest⟩ := a
  simp only at hk hn hd
  dsimp only [attX]
  cases safe
  · have hlp := fun b hb => ev_att_encode_loop b ⟨key, nonce, resets, restarts, clock, false, updates, s0, s1, digest⟩ s0 s1 hb
    dsimp only [attX] at hlp
    rw [Y_go]; conv => lhs; whnf
    rw [toReq_call]
    rw [ev_blob _ _ (by (simp only [uintB_l8, uintB_l4, uintB_l3, uintB_l2, uintB_l1, blobB_l, seedB_len, magicB_len, LL] at * <;> omega))]
    conv => lhs; whnf
    rw [toReq_call]
    rw [ev_blob _ _ (by (simp only [uintB_l8, uintB_l4, uintB_l3, uintB_l2, uintB_l1, blobB_l, seedB_len, magicB_len, LL] at * <;> omega))]
    conv => lhs; whnf
    rw [drw (by kernel_rfl)]; conv => lhs; whnf
    rw [toReq_call]
    rw [ev_uint _ _ _ (by (simp only [uintB_l8, uintB_l4, uintB_l3, uintB_l2, uintB_l1, blobB_l, seedB_len, magicB_len, LL] at * <;> omega))]
    conv => lhs; whnf
    rw [toReq_call]
    rw [ev_uint _ _ _ (by (simp only [uintB_l8, uintB_l4, uintB_l3, uintB_l2, uintB_l1, blobB_l, seedB_len, magicB_len, LL] at * <;> omega))]
    conv => lhs; whnf
    rw [toReq_call]
    rw [ev_uint _ _ _ (by (simp only [uintB_l8, uintB_l4, uintB_l3, uintB_l2, uintB_l1, blobB_l, seedB_len, magicB_len, LL] at * <;> omega))]
    conv => lhs; whnf
    rw [Y_go]; conv => lhs; whnf
    rw [toReq_call]
    rw [ev_uint _ _ _ (by (simp only [uintB_l8, uintB_l4, uintB_l3, uintB_l2, uintB_l1, blobB_l, seedB_len, magicB_len, LL] at * <;> omega))]
    conv => lhs; whnf
    rw [toReq_call]
    rw [ev_uint _ _ _ (by (simp only [uintB_l8, uintB_l4, uintB_l3, uintB_l2, uintB_l1, blobB_l, seedB_len, magicB_len, LL] at * <;> omega))]
    conv => lhs; whnf
    rw [toReq_loop]
    rw [hlp _ (by first | omega | decide | assumption | (simp only [uintB_l8, uintB_l4, uintB_l3, uintB_l2, uintB_l1, blobB_l, seedB_len, magicB_len, LL] at * <;> omega) | (simp; omega))]
    conv => lhs; whnf
    rw [fits_t (by (simp only [uintB_l8, uintB_l4, uintB_l3, uintB_l2, uintB_l1, blobB_l, seedB_len, magicB_len, LL] at * <;> omega))]
    conv => lhs; whnf
    rw [lapp_eq]; rfl
  · have hlp := fun b hb => ev_att_encode_loop b ⟨key, nonce, resets, restarts, clock, true, updates, s0, s1, digest⟩ s0 s1 hb
    dsimp only [attX] at hlp
    rw [Y_go]; conv => lhs; whnf
    rw [toReq_call]
    rw [ev_blob _ _ (by (simp only [uintB_l8, uintB_l4, uintB_l3, uintB_l2, uintB_l1, blobB_l, seedB_len, magicB_len, LL] at * <;> omega))]
    conv => lhs; whnf
    rw [toReq_call]
    rw [ev_blob _ _ (by (simp only [uintB_l8, uintB_l4, uintB_l3, uintB_l2, uintB_l1, blobB_l, seedB_len, magicB_len, LL] at * <;> omega))]
    conv => lhs; whnf
    rw [drw (by kernel_rfl)]; conv => lhs; whnf
    rw [toReq_call]
    rw [ev_uint _ _ _ (by (simp only [uintB_l8, uintB_l4, uintB_l3, uintB_l2, uintB_l1, blobB_l, seedB_len, magicB_len, LL] at * <;> omega))]
    conv => lhs; whnf
    rw [toReq_call]
    rw [ev_uint _ _ _ (by (simp only [uintB_l8, uintB_l4, uintB_l3, uintB_l2, uintB_l1, blobB_l, seedB_len, magicB_len, LL] at * <;> omega))]
    conv => lhs; whnf
    rw [toReq_call]
    rw [ev_uint _ _ _ (by (simp only [uintB_l8, uintB_l4, uintB_l3, uintB_l2, uintB_l1, blobB_l, seedB_len, magicB_len, LL] at * <;> omega))]
    conv => lhs; whnf
    rw [Y_go]; conv => lhs; whnf
    rw [toReq_call]
    rw [ev_uint _ _ _ (by (simp only [uintB_l8, uintB_l4, uintB_l3, uintB_l2, uintB_l1, blobB_l, seedB_len, magicB_len, LL] at * <;> omega))]
    conv => lhs; whnf
    rw [toReq_call]
    rw [ev_uint _ _ _ (by (simp only [uintB_l8, uintB_l4, uintB_l3, uintB_l2, uintB_l1, blobB_l, seedB_len, magicB_len, LL] at * <;> omega))]
    conv => lhs; whnf
    rw [toReq_loop]
    rw [hlp _ (by first | omega | decide | assumption | (simp only [uintB_l8, uintB_l4, uintB_l3, uintB_l2, uintB_l1, blobB_l, seedB_len, magicB_len, LL] at * <;> omega) | (simp; omega))]
    conv => lhs; whnf
    rw [fits_t (by (simp only [uintB_l8, uintB_l4, uintB_l3, uintB_l2, uintB_l1, blobB_l, seedB_len, magicB_len, LL] at * <;> omega))]
    conv => lhs; whnf
    rw [lapp_eq]; rfl
end Go.Proofs.YtfjcmolccckhhaaGreatDoor

namespace Go.Ax
open Go.Eng
theorem open_area {par : Sen} {p q : Pub} {b : List UInt8} (h : decP b = (q, 0)) : (openS par p b).2 = 4 := by
  obtain ⟨hb, hq⟩ := enc_decP h
  have hk := okP_of hq
  have hf := encP_flat (p := q) (by have := hk.policy; omega) (by have := hk.unique; omega)
  have hl := encP_len (p := q) (by have := hk.policy; omega) (by have := hk.unique; omega)
  rw [hb] at hf hl
  have h0 : b.getD 0 0 = UInt8.ofInt q.kind := by rw [hf, flatP, beB_one]; rfl
  have h1 : (UInt8.ofInt q.kind).toNat = q.kind.toNat := by
    have := hk.kind
    obtain ⟨n, hn⟩ : ∃ n : Nat, q.kind = n := ⟨q.kind.toNat, by omega⟩
    have hn3 : n ≤ 3 := by omega
    rw [hn]
    have hall : ∀ n ≤ 3, (UInt8.ofInt ((n : Nat) : Int)).toNat = ((n : Nat) : Int).toNat := by decide
    exact hall n hn3
  have h2 : (64 : Int) < lenAt b 0 := by
    have := hk.kind
    unfold lenAt
    rw [h0, h1]
    omega
  have r0 : rdB b 0 0 64 = ([], 0, 4) := by unfold rdB; rw [if_neg (by simp), if_neg (by omega), if_pos h2]
  have ho : ∀ key ad, openB key ad b = ([], 4) := by
    intro key ad
    unfold openB
    simp only [r0]
    simp [rdB, rdR, rdE]
  unfold openS
  rw [ho, if_pos (by simp)]
theorem loaR_same (ob : List (El objT)) (par : Sen) (hier : Int) (b : List UInt8) : (loaR ob par hier b b).2.err ≠ 0 := by
  unfold loaR
  by_cases h : (decP b).2 = 0
  · have ho := open_area (par := par) (p := (decP b).1) (b := b) (q := (decP b).1) (by rw [← h])
    rw [if_neg (by simp [h]), if_pos (by rw [ho]; decide)]
    show (openS par (decP b).1 b).2 ≠ 0
    rw [ho]; decide
  · rw [if_pos h]; exact h
end Go.Ax
namespace Go.Proofs.YtfjcmolccckhhaaGreatDoor
open Go Go.Ax Go.Eng
set_option linter.unusedVariables false
set_option linter.unusedSimpArgs false
attribute [local irreducible] iadd isub imul iquo irem ibit ineg ieq ine ilt ile ishl ishr beq' bnot and' seq' u8op u8rem u32op u64op u8shr u8shl u64shr u64shl u32shr u32shl i64w u8i u64i iu8 iu32 iu64 u8u64 u64u8 u32u8 u64cmp u8cmp u32cmp llen lget linb lset lcut lrep lapp lcpy lemp fits fitn ieqs sealed drawChk fpSame
attribute [local irreducible] derB seedB makeP nameB encP uniB frameB primS primR privB openS decP uintB putO sigK verK encA
set_option maxHeartbeats 4000000
set_option maxRecDepth 100000
theorem ev_ocreate_f (sd au : List (List UInt8)) (en : List UInt8) (ac re rs ck : Int) (od : Bool) (sb : List (List (List UInt8))) (su mc : Int) (ix : List (El idxT)) (l1 l2 l3 l4 l5 l6 : Int) (ks : List (El lvT)) (st sp : Bool) (rb : List (List (List UInt8))) (ru vc : Int) (sf : Bool) (dr : Int) (ss : List (El sesT)) (ob : List (El objT)) (rl wl : List Int) (c h : Int) (hs : List Int) (az : List (El authT)) (is : List Int) (m : List UInt8) (bs : List (List UInt8)) (p1 p2 p3 : Int) (p4 p5 s1 s2 s3 : List UInt8) (hr : Int) (hl : ob.length ≤ 1000) (hhs : hs.length ≤ 100) (hx : slotAt ob h = some ((p1, p2, p3, p4, p5), (s1, s2, s3), hr)) (h1 : p1 ≠ 1) :
    Y E0 (.call 29 [.agg [.sl (.sl .u8) sd, .sl (.sl .u8) au, .sl .u8 en, .i ac, .i re, .i rs, .i ck, .b od, .sl (.sl (.sl .u8)) sb, .i su, .i mc, .sl idxT ix, .i l1, .i l2, .i l3, .i l4, .i l5, .i l6, .sl lvT ks, .b st, .b sp, .sl (.sl (.sl .u8)) rb, .i ru, .i vc, .b sf, .i dr, .sl sesT ss, .sl objT ob, .sl .i64 rl, .sl .i64 wl], .agg [.i c, .sl .i64 (h :: hs), .sl authT az, .sl .i64 is, .sl (.sl .u8) (m :: bs)]] []) = some (.ret (.tup [.agg [.sl (.sl .u8) sd, .sl (.sl .u8) au, .sl .u8 en, .i ac, .i re, .i rs, .i ck, .b od, .sl (.sl (.sl .u8)) sb, .i su, .i mc, .sl idxT ix, .i l1, .i l2, .i l3, .i l4, .i l5, .i l6, .sl lvT ks, .b st, .b sp, .sl (.sl (.sl .u8)) rb, .i ru, .i vc, .b sf, .i dr, .sl sesT ss, .sl objT ob, .sl .i64 rl, .sl .i64 wl], .agg [.i 19, .sl .i64 [], .sl (.sl .u8) [], .sl (.sl .u8) []]]) []) := by
  rw [Y_go]; conv => lhs; whnf
  dsimp -iota -beta -eta -zeta only
  rw [toReq_call]
  rw [ev_parent_f _ _ _ _ _ _ _ _ _ _ _ _ _ _ _ _ _ _ _ _ _ _ _ _ _ _ _ _ _ _ _ _ _ _ _ _ _ _ _ _ _ _ _ _ _ hl hhs hx h1]
  conv => lhs; whnf
  rw [ine_t (by omega)]
  conv => lhs; whnf
  dsimp -iota -beta -eta -zeta only
  rw [toReq_call]
  rw [ev_ofail _ _ _ _ _ _ _ _ _ _ _ _ _ _ _ _ _ _ _ _ _ _ _ _ _ _ _ _ _ _ _]
  conv => lhs; whnf
theorem ev_oLoad_f (sd au : List (List UInt8)) (en : List UInt8) (ac re rs ck : Int) (od : Bool) (sb : List (List (List UInt8))) (su mc : Int) (ix : List (El idxT)) (l1 l2 l3 l4 l5 l6 : Int) (ks : List (El lvT)) (st sp : Bool) (rb : List (List (List UInt8))) (ru vc : Int) (sf : Bool) (dr : Int) (ss : List (El sesT)) (ob : List (El objT)) (rl wl : List Int) (c h : Int) (hs : List Int) (az : List (El authT)) (is : List Int) (m : List UInt8) (bs : List (List UInt8)) (p1 p2 p3 : Int) (p4 p5 s1 s2 s3 : List UInt8) (hr : Int) (hl : ob.length ≤ 1000) (hhs : hs.length ≤ 100) (hx : slotAt ob h = some ((p1, p2, p3, p4, p5), (s1, s2, s3), hr)) (h1 : p1 ≠ 1) :
    Y E0 (.call 30 [.agg [.sl (.sl .u8) sd, .sl (.sl .u8) au, .sl .u8 en, .i ac, .i re, .i rs, .i ck, .b od, .sl (.sl (.sl .u8)) sb, .i su, .i mc, .sl idxT ix, .i l1, .i l2, .i l3, .i l4, .i l5, .i l6, .sl lvT ks, .b st, .b sp, .sl (.sl (.sl .u8)) rb, .i ru, .i vc, .b sf, .i dr, .sl sesT ss, .sl objT ob, .sl .i64 rl, .sl .i64 wl], .agg [.i c, .sl .i64 (h :: hs), .sl authT az, .sl .i64 is, .sl (.sl .u8) (m :: bs)]] []) = some (.ret (.tup [.agg [.sl (.sl .u8) sd, .sl (.sl .u8) au, .sl .u8 en, .i ac, .i re, .i rs, .i ck, .b od, .sl (.sl (.sl .u8)) sb, .i su, .i mc, .sl idxT ix, .i l1, .i l2, .i l3, .i l4, .i l5, .i l6, .sl lvT ks, .b st, .b sp, .sl (.sl (.sl .u8)) rb, .i ru, .i vc, .b sf, .i dr, .sl sesT ss, .sl objT ob, .sl .i64 rl, .sl .i64 wl], .agg [.i 19, .sl .i64 [], .sl (.sl .u8) [], .sl (.sl .u8) []]]) []) := by
  rw [Y_go]; conv => lhs; whnf
  dsimp -iota -beta -eta -zeta only
  rw [toReq_call]
  rw [ev_parent_f _ _ _ _ _ _ _ _ _ _ _ _ _ _ _ _ _ _ _ _ _ _ _ _ _ _ _ _ _ _ _ _ _ _ _ _ _ _ _ _ _ _ _ _ _ hl hhs hx h1]
  conv => lhs; whnf
  rw [ine_t (by omega)]
  conv => lhs; whnf
  dsimp -iota -beta -eta -zeta only
  rw [toReq_call]
  rw [ev_ofail _ _ _ _ _ _ _ _ _ _ _ _ _ _ _ _ _ _ _ _ _ _ _ _ _ _ _ _ _ _ _]
  conv => lhs; whnf
theorem ev_oquote_k (sd au : List (List UInt8)) (en : List UInt8) (ac re rs ck : Int) (od : Bool) (sb : List (List (List UInt8))) (su mc : Int) (ix : List (El idxT)) (l1 l2 l3 l4 l5 l6 : Int) (ks : List (El lvT)) (st sp : Bool) (rb : List (List (List UInt8))) (ru vc : Int) (sf : Bool) (dr : Int) (ss : List (El sesT)) (ob : List (El objT)) (rl wl : List Int) (c h : Int) (hs : List Int) (az : List (El authT)) (is : List Int) (m : List UInt8) (bs : List (List UInt8)) (p1 p2 p3 : Int) (p4 p5 s1 s2 s3 : List UInt8) (hr : Int) (hl : ob.length ≤ 1000) (hhs : hs.length ≤ 100) (hx : slotAt ob h = some ((p1, p2, p3, p4, p5), (s1, s2, s3), hr)) (h1 : p1 ≠ 2) :
    Y E0 (.call 25 [.agg [.sl (.sl .u8) sd, .sl (.sl .u8) au, .sl .u8 en, .i ac, .i re, .i rs, .i ck, .b od, .sl (.sl (.sl .u8)) sb, .i su, .i mc, .sl idxT ix, .i l1, .i l2, .i l3, .i l4, .i l5, .i l6, .sl lvT ks, .b st, .b sp, .sl (.sl (.sl .u8)) rb, .i ru, .i vc, .b sf, .i dr, .sl sesT ss, .sl objT ob, .sl .i64 rl, .sl .i64 wl], .agg [.i c, .sl .i64 (h :: hs), .sl authT az, .sl .i64 is, .sl (.sl .u8) (m :: bs)]] []) = some (.ret (.tup [.agg [.sl (.sl .u8) sd, .sl (.sl .u8) au, .sl .u8 en, .i ac, .i re, .i rs, .i ck, .b od, .sl (.sl (.sl .u8)) sb, .i su, .i mc, .sl idxT ix, .i l1, .i l2, .i l3, .i l4, .i l5, .i l6, .sl lvT ks, .b st, .b sp, .sl (.sl (.sl .u8)) rb, .i ru, .i vc, .b sf, .i dr, .sl sesT ss, .sl objT ob, .sl .i64 rl, .sl .i64 wl], .agg [.i 19, .sl .i64 [], .sl (.sl .u8) [], .sl (.sl .u8) []]]) []) := by
  have e1 := ev_signing_k sd au en ac re rs ck od sb su mc ix l1 l2 l3 l4 l5 l6 ks st sp rb ru vc sf dr ss ob rl wl c h hs az is m bs p1 p2 p3 p4 p5 s1 s2 s3 hr true hl hhs hx h1
  rw [Y_go]; conv => lhs; whnf
  dsimp -iota -beta -eta -zeta only
  rw [toReq_call]
  rw [e1]
  conv => lhs; whnf
  rw [ine_t (by omega)]
  conv => lhs; whnf
  dsimp -iota -beta -eta -zeta only
  rw [toReq_call]
  rw [ev_ofail _ _ _ _ _ _ _ _ _ _ _ _ _ _ _ _ _ _ _ _ _ _ _ _ _ _ _ _ _ _ _]
  conv => lhs; whnf
theorem ev_oquote_a (sd au : List (List UInt8)) (en : List UInt8) (ac re rs ck : Int) (od : Bool) (sb : List (List (List UInt8))) (su mc : Int) (ix : List (El idxT)) (l1 l2 l3 l4 l5 l6 : Int) (ks : List (El lvT)) (st sp : Bool) (rb : List (List (List UInt8))) (ru vc : Int) (sf : Bool) (dr : Int) (ss : List (El sesT)) (ob : List (El objT)) (rl wl : List Int) (c h : Int) (hs : List Int) (az : List (El authT)) (is : List Int) (m : List UInt8) (bs : List (List UInt8)) (p1 p2 p3 : Int) (p4 p5 s1 s2 s3 : List UInt8) (hr : Int) (hl : ob.length ≤ 1000) (hhs : hs.length ≤ 100) (hx : slotAt ob h = some ((p1, p2, p3, p4, p5), (s1, s2, s3), hr)) (h1 : p1 = 2) (ha : ibit .and p2 4 = 0) :
    Y E0 (.call 25 [.agg [.sl (.sl .u8) sd, .sl (.sl .u8) au, .sl .u8 en, .i ac, .i re, .i rs, .i ck, .b od, .sl (.sl (.sl .u8)) sb, .i su, .i mc, .sl idxT ix, .i l1, .i l2, .i l3, .i l4, .i l5, .i l6, .sl lvT ks, .b st, .b sp, .sl (.sl (.sl .u8)) rb, .i ru, .i vc, .b sf, .i dr, .sl sesT ss, .sl objT ob, .sl .i64 rl, .sl .i64 wl], .agg [.i c, .sl .i64 (h :: hs), .sl authT az, .sl .i64 is, .sl (.sl .u8) (m :: bs)]] []) = some (.ret (.tup [.agg [.sl (.sl .u8) sd, .sl (.sl .u8) au, .sl .u8 en, .i ac, .i re, .i rs, .i ck, .b od, .sl (.sl (.sl .u8)) sb, .i su, .i mc, .sl idxT ix, .i l1, .i l2, .i l3, .i l4, .i l5, .i l6, .sl lvT ks, .b st, .b sp, .sl (.sl (.sl .u8)) rb, .i ru, .i vc, .b sf, .i dr, .sl sesT ss, .sl objT ob, .sl .i64 rl, .sl .i64 wl], .agg [.i 20, .sl .i64 [], .sl (.sl .u8) [], .sl (.sl .u8) []]]) []) := by
  have e1 := ev_signing_a sd au en ac re rs ck od sb su mc ix l1 l2 l3 l4 l5 l6 ks st sp rb ru vc sf dr ss ob rl wl c h hs az is m bs p1 p2 p3 p4 p5 s1 s2 s3 hr true hl hhs hx h1 (by rw [ha]; rfl)
  rw [Y_go]; conv => lhs; whnf
  dsimp -iota -beta -eta -zeta only
  rw [toReq_call]
  rw [e1]
  conv => lhs; whnf
  rw [ine_t (by omega)]
  conv => lhs; whnf
  dsimp -iota -beta -eta -zeta only
  rw [toReq_call]
  rw [ev_ofail _ _ _ _ _ _ _ _ _ _ _ _ _ _ _ _ _ _ _ _ _ _ _ _ _ _ _ _ _ _ _]
  conv => lhs; whnf
end Go.Proofs.YtfjcmolccckhhaaGreatDoor

namespace Go.Proofs.YtfjcmolccckhhaaGreatDoor
open Go Go.Ax Go.Eng
set_option linter.unusedVariables false
set_option linter.unusedSimpArgs false
attribute [local irreducible] iadd isub imul iquo irem ibit ineg ieq ine ilt ile ishl ishr beq' bnot and' seq' u8op u8rem u32op u64op u8shr u8shl u64shr u64shl u32shr u32shl i64w u8i u64i iu8 iu32 iu64 u8u64 u64u8 u32u8 u64cmp u8cmp u32cmp llen lget linb lset lcut lrep lapp lcpy lemp fits fitn ieqs sealed drawChk fpSame
attribute [local irreducible] derB seedB makeP nameB encP uniB frameB primS primR privB openS decP uintB putO sigK verK encA
set_option maxHeartbeats 4000000
set_option maxRecDepth 100000
theorem two_bits : ibit .or 0 (ishl 1 (iu64 (0 + 1)).toNat) = 2 ∧ ibit .and (ishr 2 (iu64 1).toNat) 1 = 1 := by
  have e : (iu64 1).toNat = 1 := by rw [iu64_eq]; rfl
  rw [show (0 : Int) + 1 = 1 from rfl, e, ibit_d, ishl_d, ishr_d]
  decide
theorem ev_gact (u : Int) : Y E0 (.call 190 [.agg [.sl (.sl (.sl .u8)) [[], bankB 32], .i u]] []) = some (.ret (.i 2) []) := by
  have hl : (bankB 32).length = 16 := bankJ_len 32 16
  have hg1 : lget [[], bankB 32] (0 + 1) = some (bankB 32) := lg1 _ _ _
  have hq : Y E0 (.loop 190 0 0 1 [(1, .pa 0 0), (3, .i 0), (7, .i (llen [[], bankB 32])), (8, .i 0)] [(0, some (.var [.sl (.sl (.sl .u8)) [[], bankB 32], .i u]))]) = some (.fin (.exit 0) 0 [(3, .i 2)] []) := by
    rw [Y_go]; conv => lhs; whnf
    rw [ilt_t (by (simp only [sha256_len, fr1_len, fr2_len, fr3_len, nameB_l32, wkey_32, uintB_l2, uintB_l1, uintB_l8, blobB_l, bankJ_len, LL] at * <;> omega))]
    conv => lhs; whnf
    rw [ilt_t (by omega)]
    conv => lhs; whnf
    rw [lg0]; conv => lhs; whnf
    rw [ieq_f (by (simp only [sha256_len, fr1_len, fr2_len, fr3_len, nameB_l32, wkey_32, uintB_l2, uintB_l1, uintB_l8, blobB_l, bankJ_len, LL] at * <;> omega))]
    conv => lhs; whnf
    rw [Y_go]; conv => lhs; whnf
    dsimp -iota -beta -eta -zeta only
    rw [iadd_eq (by omega)]
    rw [Y_go]; conv => lhs; whnf
    rw [ilt_t (by (simp only [sha256_len, fr1_len, fr2_len, fr3_len, nameB_l32, wkey_32, uintB_l2, uintB_l1, uintB_l8, blobB_l, bankJ_len, LL] at * <;> omega))]
    conv => lhs; whnf
    rw [ilt_t (by omega)]
    conv => lhs; whnf
    rw [hg1]; conv => lhs; whnf
    rw [ieq_t (by rw [llen_eq, hl]; rfl)]; conv => lhs; whnf
    rw [Y_go]; conv => lhs; whnf
    dsimp -iota -beta -eta -zeta only
    rw [iadd_eq (by omega)]
    rw [Y_go]; conv => lhs; whnf
    rw [ilt_f (by (simp only [sha256_len, fr1_len, fr2_len, fr3_len, nameB_l32, wkey_32, uintB_l2, uintB_l1, uintB_l8, blobB_l, bankJ_len, LL] at * <;> omega))]
    conv => lhs; whnf
    (rw [two_bits.1])
  rw [Y_go]; conv => lhs; whnf
  dsimp -iota -beta -eta -zeta only
  rw [toReq_loop]
  rw [hq]
  conv => lhs; whnf
theorem ev_gon (u : Int) : Y E0 (.call 140 [.agg [.sl (.sl (.sl .u8)) [[], bankB 32], .i u], .i 1] []) = some (.ret (.b true) []) := by
  rw [Y_go]; conv => lhs; whnf
  dsimp -iota -beta -eta -zeta only
  rw [toReq_call]
  rw [ev_gact _]
  conv => lhs; whnf
  rw [two_bits.2]
  (rw [ieq_t (by rfl)])
theorem ev_gdig0 (u : Int) : Y E0 (.loop 75 0 0 3 [(2, .pa 0 0), (3, .pa 1 0), (6, .nil), (7, .nm 2), (13, AV.agg [AV.i 0, AV.i 1]), (14, AV.i 0)] [(0, some (Rs.var [AV.sl Ty.u8.sl.sl [[], bankB 32], AV.i u])), (1, some (Rs.var [AV.i 0, AV.i 1])), (2, some (Rs.row 5 Ty.u8 []))]) = some (.fin (.exit 0) 3 [(2, AV.pa 0 0), (3, AV.pa 1 0), (6, AV.sl Ty.u8 (uintB (uintB [] 2 0) 2 1)), (7, AV.nm 2)]
        [(0, some (Rs.var [AV.sl Ty.u8.sl.sl [[], bankB 32], AV.i u])), (1, some (Rs.var [AV.i 0, AV.i 1])), (2, some (Rs.row 5 Ty.u8 []))]) := by
  rw [Y_go]; conv => lhs; whnf
  rw [ilt_t (by omega)]
  conv => lhs; whnf
  rw [ile_t (by omega)]
  conv => lhs; whnf
  rw [ilt_t (by omega)]
  conv => lhs; whnf
  rw [ilt_f (by omega)]
  conv => lhs; whnf
  rw [ilt_f (by omega)]
  conv => lhs; whnf
  dsimp -iota -beta -eta -zeta only
  rw [toReq_call]
  rw [ev_uint _ _ _ (by (simp only [sha256_len, fr1_len, fr2_len, fr3_len, nameB_l32, wkey_32, uintB_l2, uintB_l1, uintB_l8, blobB_l, bankJ_len, LL] at * <;> omega))]
  conv => lhs; whnf
  dsimp -iota -beta -eta -zeta only
  rw [iadd_eq (by omega)]
  rw [Y_go]; conv => lhs; whnf
  rw [ilt_t (by omega)]
  conv => lhs; whnf
  rw [ile_t (by omega)]
  conv => lhs; whnf
  rw [ilt_t (by omega)]
  conv => lhs; whnf
  rw [ilt_f (by omega)]
  conv => lhs; whnf
  rw [ilt_f (by omega)]
  conv => lhs; whnf
  dsimp -iota -beta -eta -zeta only
  rw [toReq_call]
  rw [ev_uint _ _ _ (by (simp only [sha256_len, fr1_len, fr2_len, fr3_len, nameB_l32, wkey_32, uintB_l2, uintB_l1, uintB_l8, blobB_l, bankJ_len, LL] at * <;> omega))]
  conv => lhs; whnf
  dsimp -iota -beta -eta -zeta only
  rw [iadd_eq (by omega)]
  rw [Y_go]; conv => lhs; whnf
  rw [ilt_f (by omega)]
  conv => lhs; whnf
theorem bits16 : (∀ i < 16, ibit .and (ishr 0 (iu64 ((i : Nat) : Int)).toNat) 1 = 0) ∧ (∀ i < 16, 1 ≤ i → ibit .and (ishr 1 (iu64 ((i : Nat) : Int)).toNat) 1 = 0) ∧ ibit .and (ishr 1 (iu64 0).toNat) 1 = 1 := by
  rw [ibit_d, ishr_d, iu64_d]
  refine ⟨?_, ?_, ?_⟩ <;> decide +kernel
theorem ev_gin (u a s : Int) (hd vs : List UInt8) (j0 : Nat) (hz : ∀ i < 16, j0 ≤ i → ibit .and (ishr s (iu64 ((i : Nat) : Int)).toNat) 1 = 0) : ∀ (k j : Nat), j0 ≤ j → j + k = 16 → Y E0 (.loop 75 2 0 2 [(2, .pa 0 0), (6, .sl .u8 hd), (7, .nm 1), (10, .i a), (11, .i s), (27, .agg [.i 0, .i 1]), (28, .i a), (40, .i (j : Int))] [(0, some (.var [.sl (.sl (.sl .u8)) [[], bankB 32], .i u])), (1, some (.row 5 .u8 vs))]) = some (.fin (.exit 4) 2 [(2, .pa 0 0), (6, .sl .u8 hd), (7, .nm 1), (27, .agg [.i 0, .i 1]), (28, .i a)] [(0, some (.var [.sl (.sl (.sl .u8)) [[], bankB 32], .i u])), (1, some (.row 5 .u8 vs))])
  | 0, j, hj, hk => by
    rw [Y_go]; conv => lhs; whnf
    rw [ilt_f (by omega)]
    conv => lhs; whnf
  | k + 1, j, hj, hk => by
    have ih := ev_gin u a s hd vs j0 hz k (j + 1) (by omega) (by omega)
    rw [show ((j + 1 : Nat) : Int) = (j : Int) + 1 from by omega] at ih
    have hb := hz j (by omega) hj
    rw [Y_go]; conv => lhs; whnf
    rw [ilt_t (by omega)]
    conv => lhs; whnf
    rw [hb]
    rw [ieq_f (by omega)]
    conv => lhs; whnf
    rw [Y_go]; conv => lhs; whnf
    dsimp -iota -beta -eta -zeta only
    rw [iadd_eq (by omega)]
    exact ih
theorem ev_gin1 (u : Int) (hd : List UInt8) : Y E0 (.loop 75 2 0 2 [(2, .pa 0 0), (6, .sl .u8 hd), (7, .nm 1), (10, .i 1), (11, .i 1), (27, .agg [.i 0, .i 1]), (28, .i 1), (40, .i 0)] [(0, some (.var [.sl (.sl (.sl .u8)) [[], bankB 32], .i u])), (1, some (.row 5 .u8 []))]) = some (.fin (.exit 4) 2 [(2, .pa 0 0), (6, .sl .u8 hd), (7, .nm 1), (27, .agg [.i 0, .i 1]), (28, .i 1)] [(0, some (.var [.sl (.sl (.sl .u8)) [[], bankB 32], .i u])), (1, some (.row 5 .u8 (List.replicate 32 0)))]) := by
  have hb := bits16.2.2
  have hl : (bankB 32).length = 16 := bankJ_len 32 16
  have hg : lget (bankB 32) 0 = some (List.replicate 32 0) := by rw [lget_d]; rfl
  have ha : lapp [] (List.replicate 32 (0 : UInt8)) = List.replicate 32 0 := by rw [lapp_eq]; rfl
  have hi := ev_gin u 1 1 hd (List.replicate 32 0) 1 (fun i h1 h2 => bits16.2.1 i h1 h2) 15 1 (by omega) (by omega)
  rw [show ((1 : Nat) : Int) = 0 + 1 from rfl] at hi
  rw [Y_go]; conv => lhs; whnf
  rw [ilt_t (by omega)]
  conv => lhs; whnf
  rw [hb]
  rw [ieq_t (by omega)]
  conv => lhs; whnf
  rw [lg1]; conv => lhs; whnf
  rw [hg]; conv => lhs; whnf
  rw [fits_t (by (simp only [sha256_len, fr1_len, fr2_len, fr3_len, nameB_l32, wkey_32, uintB_l2, uintB_l1, uintB_l8, blobB_l, bankJ_len, LL] at * <;> omega))]
  conv => lhs; whnf
  rw [Y_go]; conv => lhs; whnf
  dsimp -iota -beta -eta -zeta only
  rw [iadd_eq (by omega)]
  rw [ha]; exact hi
theorem ev_gdig1 (u : Int) (hd : List UInt8) : Y E0 (.loop 75 1 0 2 [(2, .pa 0 0), (6, .sl .u8 hd), (7, .nm 1), (27, AV.agg [AV.i 0, AV.i 1]), (28, AV.i 0)] [(0, some (Rs.var [AV.sl Ty.u8.sl.sl [[], bankB 32], AV.i u])), (1, some (Rs.row 5 Ty.u8 []))]) = some (.fin (.exit 2) 0 [(6, .sl .u8 hd), (7, .sl .u8 (List.replicate 32 0))] []) := by
  have h0 := ev_gin u 0 0 hd [] 0 (fun i h1 _ => bits16.1 i h1) 16 0 (by omega) (by omega)
  rw [show ((0 : Nat) : Int) = 0 from rfl] at h0
  have h1 := ev_gin1 u hd
  rw [Y_go]; conv => lhs; whnf
  rw [ilt_t (by omega)]
  conv => lhs; whnf
  rw [ile_t (by omega)]
  conv => lhs; whnf
  rw [ilt_t (by omega)]
  conv => lhs; whnf
  rw [ine_f (by omega)]
  conv => lhs; whnf
  dsimp -iota -beta -eta -zeta only
  rw [toReq_loop]
  rw [h0]
  conv => lhs; whnf
  dsimp -iota -beta -eta -zeta only
  rw [iadd_eq (by omega)]
  rw [Y_go]; conv => lhs; whnf
  rw [ilt_t (by omega)]
  conv => lhs; whnf
  rw [ile_t (by omega)]
  conv => lhs; whnf
  rw [ilt_t (by omega)]
  conv => lhs; whnf
  rw [ine_t (by omega)]
  conv => lhs; whnf
  dsimp -iota -beta -eta -zeta only
  rw [toReq_call]
  rw [show (0 : Int) + 1 = 1 from rfl, ev_gon]
  conv => lhs; whnf
  rw [bnot_eq]; conv => lhs; whnf
  dsimp -iota -beta -eta -zeta only
  rw [toReq_loop]
  rw [h1]
  conv => lhs; whnf
  dsimp -iota -beta -eta -zeta only
  rw [iadd_eq (by omega)]
  rw [Y_go]; conv => lhs; whnf
  rw [ilt_f (by omega)]
  conv => lhs; whnf
def dig01 : List UInt8 := sha256 (frameB 5 [uintB (uintB [] 2 0) 2 1, List.replicate 32 0])
theorem ev_gdig (u : Int) : Y E0 (.call 75 [.agg [.sl (.sl (.sl .u8)) [[], bankB 32], .i u], .agg [.i 0, .i 1]] []) = some (.ret (.tup [.sl .u8 dig01, .i 0]) []) := by
  have hf : (frameB 5 [uintB (uintB [] 2 0) 2 1, List.replicate 32 0]).length ≤ 4294967295 := by rw [fr2_len, uintB_l2, uintB_l2]; simp
  rw [Y_go]; conv => lhs; whnf
  dsimp -iota -beta -eta -zeta only
  rw [toReq_loop]
  rw [ev_gdig0]
  conv => lhs; whnf
  dsimp -iota -beta -eta -zeta only
  rw [toReq_loop]
  rw [ev_gdig1]
  conv => lhs; whnf
  dsimp -iota -beta -eta -zeta only
  rw [toReq_call]
  rw [ev_dig_hash _ _ hf (by simp)]
  conv => lhs; whnf
  rfl
end Go.Proofs.YtfjcmolccckhhaaGreatDoor

namespace Go.Ax
open Go.Eng
theorem encA_most (a : Att) (h1 : a.key.length ≤ 10000) (h2 : a.nonce.length ≤ 10000) (h3 : a.digest.length ≤ 10000) : (encA a).length ≤ 100000 := by
  unfold encA
  simp only [blobB_l, uintB_l8, uintB_l2, uintB_l1, List.length_append, List.length_cons, List.length_nil, magicB]
  omega
end Go.Ax
namespace Go.Proofs.YtfjcmolccckhhaaGreatDoor
open Go Go.Ax Go.Eng
set_option linter.unusedVariables false
set_option linter.unusedSimpArgs false
attribute [local irreducible] iadd isub imul iquo irem ibit ineg ieq ine ilt ile ishl ishr beq' bnot and' seq' u8op u8rem u32op u64op u8shr u8shl u64shr u64shl u32shr u32shl i64w u8i u64i iu8 iu32 iu64 u8u64 u64u8 u32u8 u64cmp u8cmp u32cmp llen lget linb lset lcut lrep lapp lcpy lemp fits fitn ieqs sealed drawChk fpSame
attribute [local irreducible] derB seedB makeP nameB encP uniB frameB primS primR privB openS decP uintB putO sigK verK encA creR loaR
set_option maxHeartbeats 4000000
set_option maxRecDepth 100000
theorem ev_oquote_ok (sd au : List (List UInt8)) (en : List UInt8) (ac re rs ck : Int) (od : Bool) (sb : List (List (List UInt8))) (su mc : Int) (ix : List (El idxT)) (l1 l2 l3 l4 l5 l6 : Int) (ks : List (El lvT)) (st sp : Bool) (rb : List (List (List UInt8))) (ru vc : Int) (sf : Bool) (dr : Int) (ss : List (El sesT)) (ob : List (El objT)) (rl wl : List Int) (c h q0 q1 : Int) (hs : List Int) (az : List (El authT)) (m : List UInt8) (bs : List (List UInt8)) (p1 p2 p3 : Int) (p4 p5 s1 s2 s3 : List UInt8) (hr : Int) (d : List UInt8) (hl : ob.length ≤ 1000) (hhs : hs.length ≤ 100) (hbs : bs.length ≤ 100) (hx : slotAt ob h = some ((p1, p2, p3, p4, p5), (s1, s2, s3), hr)) (h1 : p1 = 2) (ha : ibit .and p2 4 ≠ 0) (hm : m.length ≤ 128) (hkl : ks.length ≤ 100) (hh : 0 ≤ p3 ∧ p3 ≤ 3) (hu : ∀ x ∈ ks, 0 ≤ x.2 ∧ x.2 ≤ 1000) (h2 : s2.length ≤ 1000) (h4 : p4.length ≤ 1000) (h5 : p5.length ≤ 1000) (he : (useR ks p5 p3).2.2 = 0) (hd : d.length ≤ 1000)
    (hD : Y E0 (.call 75 [.agg [.sl (.sl (.sl .u8)) rb, .i ru], .agg [.i q0, .i q1]] []) = some (.ret (.tup [.sl .u8 d, .i 0]) [])) :
    Y E0 (.call 25 [.agg [.sl (.sl .u8) sd, .sl (.sl .u8) au, .sl .u8 en, .i ac, .i re, .i rs, .i ck, .b od, .sl (.sl (.sl .u8)) sb, .i su, .i mc, .sl idxT ix, .i l1, .i l2, .i l3, .i l4, .i l5, .i l6, .sl lvT ks, .b st, .b sp, .sl (.sl (.sl .u8)) rb, .i ru, .i vc, .b sf, .i dr, .sl sesT ss, .sl objT ob, .sl .i64 rl, .sl .i64 wl], .agg [.i c, .sl .i64 (h :: hs), .sl authT az, .sl .i64 [q0, q1], .sl (.sl .u8) (m :: bs)]] []) = some (.ret (.tup [.agg [.sl (.sl .u8) sd, .sl (.sl .u8) au, .sl .u8 en, .i ac, .i re, .i rs, .i ck, .b od, .sl (.sl (.sl .u8)) sb, .i su, .i mc, .sl idxT ix, .i l1, .i l2, .i l3, .i l4, .i l5, .i l6, .sl lvT ((useR ks p5 p3).1), .b st, .b sp, .sl (.sl (.sl .u8)) rb, .i ru, .i vc, .b sf, .i dr, .sl sesT ss, .sl objT ob, .sl .i64 rl, .sl .i64 wl], .agg [.i 0, .sl .i64 [], .sl (.sl .u8) [encA ⟨nameB ⟨p1, p2, p3, p4, p5⟩, m, re, rs, vc, sf, ru, q0, q1, d⟩, sigK s2 p3 (useR ks p5 p3).2.1 (encA ⟨nameB ⟨p1, p2, p3, p4, p5⟩, m, re, rs, vc, sf, ru, q0, q1, d⟩)], .sl (.sl .u8) []]]) []) := by
  have e1 := ev_signing_ok sd au en ac re rs ck od sb su mc ix l1 l2 l3 l4 l5 l6 ks st sp rb ru vc sf dr ss ob rl wl c h hs az [q0, q1] m bs p1 p2 p3 p4 p5 s1 s2 s3 hr true hl hhs hbs hx h1 (by rw [decide_eq_false ha]; rfl) hm
  have hn := nameB_l32 ⟨p1, p2, p3, p4, p5⟩
  have ea := ev_att_encode ⟨nameB ⟨p1, p2, p3, p4, p5⟩, m, re, rs, vc, sf, ru, q0, q1, d⟩ (by simp only; omega) (by simp only; omega) (by simp only; omega)
  have el := encA_most ⟨nameB ⟨p1, p2, p3, p4, p5⟩, m, re, rs, vc, sf, ru, q0, q1, d⟩ (by simp only; omega) (by simp only; omega) (by simp only; omega)
  dsimp only [attX] at ea
  generalize encA ⟨nameB ⟨p1, p2, p3, p4, p5⟩, m, re, rs, vc, sf, ru, q0, q1, d⟩ = Q at *
  have e2 := ev_osig_t sd au en ac re rs ck od sb su mc ix l1 l2 l3 l4 l5 l6 ks st sp rb ru vc sf dr ss ob rl wl p1 p2 p3 p4 p5 s1 s2 s3 hr Q hkl hh hu h2 (by omega) he
  rw [Y_go]; conv => lhs; whnf
  dsimp -iota -beta -eta -zeta only
  rw [toReq_call]
  rw [e1]
  conv => lhs; whnf
  rw [ine_f (by omega)]
  conv => lhs; whnf
  dsimp -iota -beta -eta -zeta only
  rw [toReq_call]
  rw [ev_onum0 _ _ _ _ _ _ (by (simp only [sha256_len, fr1_len, fr2_len, fr3_len, nameB_l32, wkey_32, uintB_l2, uintB_l1, uintB_l8, blobB_l, bankJ_len, LL] at * <;> omega))]
  conv => lhs; whnf
  dsimp -iota -beta -eta -zeta only
  rw [toReq_call]
  rw [ev_onum1 _ _ _ _ _ _ _ (by (simp only [sha256_len, fr1_len, fr2_len, fr3_len, nameB_l32, wkey_32, uintB_l2, uintB_l1, uintB_l8, blobB_l, bankJ_len, LL] at * <;> omega))]
  conv => lhs; whnf
  dsimp -iota -beta -eta -zeta only
  rw [drw (by kernel_rfl)]; conv => lhs; whnf
  dsimp -iota -beta -eta -zeta only
  rw [toReq_call]
  rw [hD]
  conv => lhs; whnf
  rw [ine_f (by omega)]
  conv => lhs; whnf
  dsimp -iota -beta -eta -zeta only
  rw [toReq_call]
  rw [ev_aname _ _ _ _ _ (by omega) (by omega)]
  conv => lhs; whnf
  dsimp -iota -beta -eta -zeta only
  rw [toReq_call]
  rw [ev_oblob0 _ _ _ _ _ _ (by omega)]
  conv => lhs; whnf
  dsimp -iota -beta -eta -zeta only
  rw [toReq_call]
  rw [ea]
  conv => lhs; whnf
  dsimp -iota -beta -eta -zeta only
  rw [drw (by kernel_rfl)]; conv => lhs; whnf
  dsimp -iota -beta -eta -zeta only
  rw [toReq_call]
  rw [e2]
  conv => lhs; whnf
  rw [ine_f (by omega)]
  conv => lhs; whnf
end Go.Proofs.YtfjcmolccckhhaaGreatDoor

namespace Go.Ax
open Go.Eng
theorem beqv_t {a b : Bool} (h : a = b) : beq' a b = true := by rw [beq_d, h]; simp [beq0]
theorem kind3 (x : UInt8) : ∃ k : Int, u8i (u8rem x (UInt8.ofNat 3)) = k ∧ (k = 0 ∨ k = 1 ∨ k = 2) := by
  refine ⟨_, rfl, ?_⟩
  rw [u8i_d, u8rem_d]
  unfold u8i0 u8rem0
  rw [UInt8.toNat_ofNat']
  have h3 : (UInt8.ofNat 3).toNat = 3 := rfl
  rw [h3]
  have := Nat.mod_lt x.toNat (show 0 < 3 by omega)
  omega
theorem makeP_un2 (secret : List UInt8) (k a h : Int) (o u u' auth data : List UInt8) : makeP secret ⟨k, a, h, o, u⟩ auth data = makeP secret ⟨k, a, h, o, u'⟩ auth data := rfl
theorem creR_ok (par : Sen) (en : List UInt8) : ∃ B, creR par en 1 0 0 1 1 0 [] [] [] = (1, ⟨0, [], B⟩) := by
  have hm := make_okP (secret := randB en 1 0 0 32) (auth := []) (data := []) (p := ⟨1, 1, 0, [], List.replicate (uniq 1).toNat 0⟩) (by decide) (by simp) (by simp) (by simp)
  unfold creR
  rw [makeP_un2 _ 1 1 0 [] [] (List.replicate (uniq 1).toNat 0), hm]
  exact ⟨_, rfl⟩
end Go.Ax
namespace Go.Proofs.YtfjcmolccckhhaaGreatDoor
open Go Go.Ax Go.Eng
set_option linter.unusedVariables false
set_option linter.unusedSimpArgs false
attribute [local irreducible] iadd isub imul iquo irem ibit ineg ieq ine ilt ile ishl ishr beq' bnot and' seq' u8op u8rem u32op u64op u8shr u8shl u64shr u64shl u32shr u32shl i64w u8i u64i iu8 iu32 iu64 u8u64 u64u8 u32u8 u64cmp u8cmp u32cmp llen lget linb lset lcut lrep lapp lcpy lemp fits fitn ieqs sealed drawChk fpSame
attribute [local irreducible] derB seedB makeP nameB encP uniB frameB primS primR privB openS decP uintB putO sigK verK encA creR loaR
set_option maxHeartbeats 4000000
set_option maxRecDepth 100000
theorem ev_okind_p (x y : UInt8) (b : List UInt8) (A : Int) (hA : ibit BinOp.or 1 (u8i (u8op BinOp.and y (UInt8.ofNat 2))) = A) (hA2 : A = 1 ∨ A = 3) (hg : b.length ≤ 60) (hk : u8i (u8rem x (UInt8.ofNat 3)) = 0) : Y E0 (.call 7 [.u8 x, .u8 y, .sl .u8 b] []) = some (.ret (.b true) []) := by
  have hRB : newRB (2 % 4) = [[], bankB 32] := rfl
  have hA0 : ibit .and A 4 = 0 := by rw [ibit_d]; rcases hA2 with rfl | rfl <;> decide
  have hA4 : ibit .or A 4 = A + 4 := by rw [ibit_d]; rcases hA2 with rfl | rfl <;> decide
  have hA5 : ibit .and (A + 4) 4 = 4 := by rw [ibit_d]; rcases hA2 with rfl | rfl <;> decide
  have hc : chkP ⟨1, A, 0, [], List.replicate (uniq 1).toNat 0⟩ = 0 := by rcases hA2 with rfl | rfl <;> decide
  obtain ⟨S1, -, hS1, hp⟩ := prim_ex (sd := seedsE ent0) (ob := List.replicate 3 obj0) (h := 1) (k := 1) (a := A) (t := 0) (o := []) (auth := []) (d := []) (by decide) (by decide) hc (by simp) (by simp) (by simp)
  rw [show freeAt (List.replicate 3 obj0) = 0 from rfl] at hp
  generalize encP ⟨1, A, 0, [], uniB 1 0 ⟨[], S1, []⟩⟩ = E1 at hp
  generalize nameB ⟨1, A, 0, [], uniB 1 0 ⟨[], S1, []⟩⟩ = N1 at hp
  generalize uniB 1 0 ⟨[], S1, []⟩ = U at hp
  have hx : slotAt ((List.replicate 3 obj0).set 0 ((1, A, 0, [], U), ([], S1, []), 1)) (512 + 0) = some ((1, A, 0, [], U), ([], S1, []), 1) := rfl
  obtain ⟨B, hcr⟩ := creR_ok ⟨[], S1, []⟩ (derB ent0 entrL [] 32)
  have hen : (derB ent0 entrL [] 32).length = 32 := by rw [derB_len (by omega)]; rfl
  have hlo := loaR_same ((List.replicate 3 obj0).set 0 ((1, A, 0, [], U), ([], S1, []), 1)) ⟨[], S1, []⟩ 1 b
  generalize hL : loaR ((List.replicate 3 obj0).set 0 ((1, A, 0, [], U), ([], S1, []), 1)) ⟨[], S1, []⟩ 1 b b = L at hlo
  obtain ⟨L1, ⟨L2, L3, L4⟩⟩ := L
  dsimp only at hlo
  rw [Y_go]; conv => lhs; whnf
  dsimp -iota -beta -eta -zeta only
  rw [toReq_call]
  rw [ev_awake21]
  conv => lhs; whnf
  rw [bnot_eq]; conv => lhs; whnf
  rw [ilt_f (by (simp only [sha256_len, fr1_len, fr2_len, fr3_len, nameB_l32, wkey_32, uintB_l2, uintB_l1, uintB_l8, blobB_l, bankJ_len, LL] at * <;> omega))]
  conv => lhs; whnf
  rw [hk]
  rw [hA]
  rw [iadd_eq (by omega)]
  rw [show (1 : Int) + 0 = 1 from rfl]
  rw [ieq_f (by omega)]
  conv => lhs; whnf
  rw [Y_go]; conv => lhs; whnf
  dsimp -iota -beta -eta -zeta only
  rw [toReq_call]
  rw [ev_state0]
  conv => lhs; whnf
  dsimp -iota -beta -eta -zeta only
  rw [toReq_call]
  rw [ev_p21 _ _ _ _ _ _ _]
  conv => lhs; whnf
  dsimp -iota -beta -eta -zeta only
  rw [toReq_call]
  rw [ev_oprim _ _ _ _ _ _ _ _ _ _ _ _ _ _ _ _ _ _ _ _ _ _ _ _ _ _ _ _ _ _ _ _ _ _ _ _ _ _ _ _ (by simp) (by decide) (seedsE_le _) (by simp) (by simp) (by simp), hp]
  conv => lhs; whnf
  dsimp -iota -beta -eta -zeta only
  rw [ine_f (by omega)]
  conv => lhs; whnf
  dsimp -iota -beta -eta -zeta only
  rw [toReq_call]
  rw [ev_on21 _ _ _ (by omega)]
  conv => lhs; whnf
  dsimp -iota -beta -eta -zeta only
  rw [toReq_call]
  rw [ev_on21 _ _ _ (by omega)]
  conv => lhs; whnf
  dsimp -iota -beta -eta -zeta only
  rw [toReq_call]
  rw [ev_ocreate _ _ _ _ _ _ _ _ _ _ _ _ _ _ _ _ _ _ _ _ _ _ _ _ _ _ _ _ _ _ _ _ _ _ _ _ _ _ _ _ _ _ _ _ _ _ _ _ _ (by simp) (by simp) hx rfl (by simp) (by simp) (by omega) (by omega) (by omega), hcr]
  conv => lhs; whnf
  dsimp -iota -beta -eta -zeta only
  rw [toReq_call]
  rw [ev_on21 _ _ _ (by omega)]
  conv => lhs; whnf
  dsimp -iota -beta -eta -zeta only
  rw [toReq_call]
  rw [ev_ounseal_f _ _ _ _ _ _ _ _ _ _ _ _ _ _ _ _ _ _ _ _ _ _ _ _ _ _ _ _ _ _ _ _ _ _ _ _ _ _ _ _ _ _ _ _ _ (by simp) (by simp) hx (by decide)]
  conv => lhs; whnf
  dsimp -iota -beta -eta -zeta only
  rw [drw (by kernel_rfl)]; conv => lhs; whnf
  dsimp -iota -beta -eta -zeta only
  rw [toReq_call]
  rw [ev_on21 _ _ _ (by omega)]
  conv => lhs; whnf
  dsimp -iota -beta -eta -zeta only
  rw [toReq_call]
  rw [ev_osign_k _ _ _ _ _ _ _ _ _ _ _ _ _ _ _ _ _ _ _ _ _ _ _ _ _ _ _ _ _ _ _ _ _ _ _ _ _ _ _ _ _ _ _ _ _ _ (by simp) (by simp) hx (by decide)]
  conv => lhs; whnf
  dsimp -iota -beta -eta -zeta only
  rw [drw (by kernel_rfl)]; conv => lhs; whnf
  dsimp -iota -beta -eta -zeta only
  rw [toReq_call]
  rw [ev_oquote_k _ _ _ _ _ _ _ _ _ _ _ _ _ _ _ _ _ _ _ _ _ _ _ _ _ _ _ _ _ _ _ _ _ _ _ _ _ _ _ _ _ _ _ _ _ _ (by simp) (by simp) hx (by decide)]
  conv => lhs; whnf
  dsimp -iota -beta -eta -zeta only
  rw [toReq_call]
  rw [ev_on21 _ _ _ (by omega)]
  conv => lhs; whnf
  dsimp -iota -beta -eta -zeta only
  rw [toReq_call]
  rw [ev_oLoad _ _ _ _ _ _ _ _ _ _ _ _ _ _ _ _ _ _ _ _ _ _ _ _ _ _ _ _ _ _ _ _ _ _ _ _ _ _ _ _ _ _ _ _ _ _ (by simp) (by simp) hx rfl (by omega) (by omega) (by omega), hL]
  conv => lhs; whnf
  dsimp -iota -beta -eta -zeta only
  rw [drw (by kernel_rfl)]; conv => lhs; whnf
  rw [hA0]
  rw [show ∀ a : Int, beq' (ieq 0 0) (ieq a a) = true from fun a => beqv_t (by rw [ieq_t rfl, ieq_t rfl])]; conv => lhs; whnf
  rw [Y_go]; conv => lhs; whnf
  rw [beqv_t (by simp [ieq_eq, ine_eq, bnot_eq])]; conv => lhs; whnf
  rw [beqv_t (by simp [ieq_eq, ine_eq, bnot_eq])]; conv => lhs; whnf
  rw [ieq_f (by omega)]
  conv => lhs; whnf
  rw [Y_go]; conv => lhs; whnf
  rw [beqv_t (by simp [ieq_eq, ine_eq, bnot_eq])]; conv => lhs; whnf
  rw [ieq_f (by omega)]
  conv => lhs; whnf
  rw [beqv_t (by simp [ieq_eq, ine_eq, bnot_eq])]; conv => lhs; whnf
  rw [ieq_f (by omega)]
  conv => lhs; whnf
  rw [beqv_t (by simp [ieq_eq, ine_eq, bnot_eq])]; conv => lhs; whnf
  rw [Y_go]; conv => lhs; whnf
  rw [ine_t (by omega)]
  conv => lhs; whnf
  rw [ieq_t (by omega)]
  conv => lhs; whnf
theorem ev_okind_r (x y : UInt8) (b : List UInt8) (A : Int) (hA : ibit BinOp.or 1 (u8i (u8op BinOp.and y (UInt8.ofNat 2))) = A) (hA2 : A = 1 ∨ A = 3) (hg : b.length ≤ 60) (hk : u8i (u8rem x (UInt8.ofNat 3)) = 1) (hR : u8cmp BinOp.eql (u8op BinOp.and y (UInt8.ofNat 1)) (UInt8.ofNat 1) = true) : Y E0 (.call 7 [.u8 x, .u8 y, .sl .u8 b] []) = some (.ret (.b true) []) := by
  have hRB : newRB (2 % 4) = [[], bankB 32] := rfl
  have hA0 : ibit .and A 4 = 0 := by rw [ibit_d]; rcases hA2 with rfl | rfl <;> decide
  have hA4 : ibit .or A 4 = A + 4 := by rw [ibit_d]; rcases hA2 with rfl | rfl <;> decide
  have hA5 : ibit .and (A + 4) 4 = 4 := by rw [ibit_d]; rcases hA2 with rfl | rfl <;> decide
  have hc : chkP ⟨2, A + 4, 0, [], List.replicate (uniq 2).toNat 0⟩ = 0 := by rcases hA2 with rfl | rfl <;> decide
  obtain ⟨S1, -, hS1, hp⟩ := prim_ex (sd := seedsE ent0) (ob := List.replicate 3 obj0) (h := 1) (k := 2) (a := A + 4) (t := 0) (o := []) (auth := []) (d := []) (by decide) (by decide) hc (by simp) (by simp) (by simp)
  rw [show freeAt (List.replicate 3 obj0) = 0 from rfl] at hp
  generalize encP ⟨2, A + 4, 0, [], uniB 2 0 ⟨[], S1, []⟩⟩ = E1 at hp
  generalize nameB ⟨2, A + 4, 0, [], uniB 2 0 ⟨[], S1, []⟩⟩ = N1 at hp
  have hU := uniB_le 2 0 ⟨[], S1, []⟩
  generalize uniB 2 0 ⟨[], S1, []⟩ = U at hp hU
  have hx : slotAt ((List.replicate 3 obj0).set 0 ((2, A + 4, 0, [], U), ([], S1, []), 1)) (512 + 0) = some ((2, A + 4, 0, [], U), ([], S1, []), 1) := rfl
  rw [Y_go]; conv => lhs; whnf
  dsimp -iota -beta -eta -zeta only
  rw [toReq_call]
  rw [ev_awake21]
  conv => lhs; whnf
  rw [bnot_eq]; conv => lhs; whnf
  rw [ilt_f (by (simp only [sha256_len, fr1_len, fr2_len, fr3_len, nameB_l32, wkey_32, uintB_l2, uintB_l1, uintB_l8, blobB_l, bankJ_len, LL] at * <;> omega))]
  conv => lhs; whnf
  rw [hk]
  rw [hA]
  rw [iadd_eq (by omega)]
  rw [show (1 : Int) + 1 = 2 from rfl]
  rw [ieq_t (by omega)]
  conv => lhs; whnf
  rw [hR]; conv => lhs; whnf
  rw [hA4]
  rw [Y_go]; conv => lhs; whnf
  dsimp -iota -beta -eta -zeta only
  rw [toReq_call]
  rw [ev_state0]
  conv => lhs; whnf
  dsimp -iota -beta -eta -zeta only
  rw [hRB]
  rw [toReq_call]
  rw [ev_p21 _ _ _ _ _ _ _]
  conv => lhs; whnf
  dsimp -iota -beta -eta -zeta only
  rw [toReq_call]
  rw [ev_oprim _ _ _ _ _ _ _ _ _ _ _ _ _ _ _ _ _ _ _ _ _ _ _ _ _ _ _ _ _ _ _ _ _ _ _ _ _ _ _ _ (by simp) (by decide) (seedsE_le _) (by simp) (by simp) (by simp), hp]
  conv => lhs; whnf
  dsimp -iota -beta -eta -zeta only
  rw [ine_f (by omega)]
  conv => lhs; whnf
  dsimp -iota -beta -eta -zeta only
  rw [toReq_call]
  rw [ev_on21 _ _ _ (by omega)]
  conv => lhs; whnf
  dsimp -iota -beta -eta -zeta only
  rw [toReq_call]
  rw [ev_on21 _ _ _ (by omega)]
  conv => lhs; whnf
  dsimp -iota -beta -eta -zeta only
  rw [toReq_call]
  rw [ev_ocreate_f _ _ _ _ _ _ _ _ _ _ _ _ _ _ _ _ _ _ _ _ _ _ _ _ _ _ _ _ _ _ _ _ _ _ _ _ _ _ _ _ _ _ _ _ _ _ (by simp) (by simp) hx (by decide)]
  conv => lhs; whnf
  dsimp -iota -beta -eta -zeta only
  rw [toReq_call]
  rw [ev_on21 _ _ _ (by omega)]
  conv => lhs; whnf
  dsimp -iota -beta -eta -zeta only
  rw [toReq_call]
  rw [ev_ounseal_f _ _ _ _ _ _ _ _ _ _ _ _ _ _ _ _ _ _ _ _ _ _ _ _ _ _ _ _ _ _ _ _ _ _ _ _ _ _ _ _ _ _ _ _ _ (by simp) (by simp) hx (by decide)]
  conv => lhs; whnf
  dsimp -iota -beta -eta -zeta only
  rw [drw (by kernel_rfl)]; conv => lhs; whnf
  dsimp -iota -beta -eta -zeta only
  rw [toReq_call]
  rw [ev_on21 _ _ _ (by omega)]
  conv => lhs; whnf
  dsimp -iota -beta -eta -zeta only
  rw [toReq_call]
  rw [ev_osign_a _ _ _ _ _ _ _ _ _ _ _ _ _ _ _ _ _ _ _ _ _ _ _ _ _ _ _ _ _ _ _ _ _ _ _ _ _ _ _ _ _ _ _ _ _ _ (by simp) (by simp) hx rfl (by rw [hA5]; decide)]
  conv => lhs; whnf
  dsimp -iota -beta -eta -zeta only
  rw [drw (by kernel_rfl)]; conv => lhs; whnf
  dsimp -iota -beta -eta -zeta only
  rw [toReq_call]
  rw [ev_oquote_ok _ _ _ _ _ _ _ _ _ _ _ _ _ _ _ _ _ _ _ _ _ _ _ _ _ _ _ _ _ _ _ _ _ _ _ _ _ _ _ _ _ _ _ _ _ _ _ dig01 (by simp) (by simp) (by simp) hx rfl (by rw [hA5]; decide) (by omega) (by simp) (by decide) (by simp) (by omega) (by simp) (by omega) rfl (by rw [dig01, sha256_len]; decide) (ev_gdig 0)]
  conv => lhs; whnf
  dsimp -iota -beta -eta -zeta only
  rw [toReq_call]
  rw [ev_on21 _ _ _ (by omega)]
  conv => lhs; whnf
  dsimp -iota -beta -eta -zeta only
  rw [toReq_call]
  rw [ev_oLoad_f _ _ _ _ _ _ _ _ _ _ _ _ _ _ _ _ _ _ _ _ _ _ _ _ _ _ _ _ _ _ _ _ _ _ _ _ _ _ _ _ _ _ _ _ _ _ (by simp) (by simp) hx (by decide)]
  conv => lhs; whnf
  dsimp -iota -beta -eta -zeta only
  rw [drw (by kernel_rfl)]; conv => lhs; whnf
  rw [hA5]
  rw [beqv_t (by simp [ieq_eq, ine_eq, bnot_eq])]; conv => lhs; whnf
  rw [Y_go]; conv => lhs; whnf
  rw [beqv_t (by simp [ieq_eq, ine_eq, bnot_eq])]; conv => lhs; whnf
  rw [beqv_t (by simp [ieq_eq, ine_eq, bnot_eq])]; conv => lhs; whnf
  rw [ieq_t (by omega)]
  conv => lhs; whnf
  rw [Y_go]; conv => lhs; whnf
  rw [beqv_t (by simp [ieq_eq, ine_eq, bnot_eq])]; conv => lhs; whnf
  rw [ieq_t (by omega)]
  conv => lhs; whnf
  rw [beqv_t (by simp [ieq_eq, ine_eq, bnot_eq])]; conv => lhs; whnf
  rw [ieq_t (by omega)]
  conv => lhs; whnf
  rw [Y_go]; conv => lhs; whnf
  rw [beqv_t (by simp [ieq_eq, ine_eq, bnot_eq])]; conv => lhs; whnf
  rw [ine_t (by omega)]
  conv => lhs; whnf
  rw [ieq_f (by omega)]
  conv => lhs; whnf
  (congr 3; simp only [ieq_eq, ine_eq, ilt_eq, ile_eq, bnot_eq, and_eq, llen_eq]; first | rfl | (rw [decide_eq_decide]; omega) | (simp; omega))
theorem ev_okind_s (x y : UInt8) (b : List UInt8) (A : Int) (hA : ibit BinOp.or 1 (u8i (u8op BinOp.and y (UInt8.ofNat 2))) = A) (hA2 : A = 1 ∨ A = 3) (hg : b.length ≤ 60) (hk : u8i (u8rem x (UInt8.ofNat 3)) = 1) (hR : u8cmp BinOp.eql (u8op BinOp.and y (UInt8.ofNat 1)) (UInt8.ofNat 1) = false) : Y E0 (.call 7 [.u8 x, .u8 y, .sl .u8 b] []) = some (.ret (.b true) []) := by
  have hRB : newRB (2 % 4) = [[], bankB 32] := rfl
  have hA0 : ibit .and A 4 = 0 := by rw [ibit_d]; rcases hA2 with rfl | rfl <;> decide
  have hA4 : ibit .or A 4 = A + 4 := by rw [ibit_d]; rcases hA2 with rfl | rfl <;> decide
  have hA5 : ibit .and (A + 4) 4 = 4 := by rw [ibit_d]; rcases hA2 with rfl | rfl <;> decide
  have hc : chkP ⟨2, A, 0, [], List.replicate (uniq 2).toNat 0⟩ = 0 := by rcases hA2 with rfl | rfl <;> decide
  obtain ⟨S1, -, hS1, hp⟩ := prim_ex (sd := seedsE ent0) (ob := List.replicate 3 obj0) (h := 1) (k := 2) (a := A) (t := 0) (o := []) (auth := []) (d := []) (by decide) (by decide) hc (by simp) (by simp) (by simp)
  rw [show freeAt (List.replicate 3 obj0) = 0 from rfl] at hp
  generalize encP ⟨2, A, 0, [], uniB 2 0 ⟨[], S1, []⟩⟩ = E1 at hp
  generalize nameB ⟨2, A, 0, [], uniB 2 0 ⟨[], S1, []⟩⟩ = N1 at hp
  have hU := uniB_le 2 0 ⟨[], S1, []⟩
  generalize uniB 2 0 ⟨[], S1, []⟩ = U at hp hU
  have hx : slotAt ((List.replicate 3 obj0).set 0 ((2, A, 0, [], U), ([], S1, []), 1)) (512 + 0) = some ((2, A, 0, [], U), ([], S1, []), 1) := rfl
  rw [Y_go]; conv => lhs; whnf
  dsimp -iota -beta -eta -zeta only
  rw [toReq_call]
  rw [ev_awake21]
  conv => lhs; whnf
  rw [bnot_eq]; conv => lhs; whnf
  rw [ilt_f (by (simp only [sha256_len, fr1_len, fr2_len, fr3_len, nameB_l32, wkey_32, uintB_l2, uintB_l1, uintB_l8, blobB_l, bankJ_len, LL] at * <;> omega))]
  conv => lhs; whnf
  rw [hk]
  rw [hA]
  rw [iadd_eq (by omega)]
  rw [show (1 : Int) + 1 = 2 from rfl]
  rw [ieq_t (by omega)]
  conv => lhs; whnf
  rw [hR]; conv => lhs; whnf
  rw [Y_go]; conv => lhs; whnf
  dsimp -iota -beta -eta -zeta only
  rw [toReq_call]
  rw [ev_state0]
  conv => lhs; whnf
  dsimp -iota -beta -eta -zeta only
  rw [hRB]
  rw [toReq_call]
  rw [ev_p21 _ _ _ _ _ _ _]
  conv => lhs; whnf
  dsimp -iota -beta -eta -zeta only
  rw [toReq_call]
  rw [ev_oprim _ _ _ _ _ _ _ _ _ _ _ _ _ _ _ _ _ _ _ _ _ _ _ _ _ _ _ _ _ _ _ _ _ _ _ _ _ _ _ _ (by simp) (by decide) (seedsE_le _) (by simp) (by simp) (by simp), hp]
  conv => lhs; whnf
  dsimp -iota -beta -eta -zeta only
  rw [ine_f (by omega)]
  conv => lhs; whnf
  dsimp -iota -beta -eta -zeta only
  rw [toReq_call]
  rw [ev_on21 _ _ _ (by omega)]
  conv => lhs; whnf
  dsimp -iota -beta -eta -zeta only
  rw [toReq_call]
  rw [ev_on21 _ _ _ (by omega)]
  conv => lhs; whnf
  dsimp -iota -beta -eta -zeta only
  rw [toReq_call]
  rw [ev_ocreate_f _ _ _ _ _ _ _ _ _ _ _ _ _ _ _ _ _ _ _ _ _ _ _ _ _ _ _ _ _ _ _ _ _ _ _ _ _ _ _ _ _ _ _ _ _ _ (by simp) (by simp) hx (by decide)]
  conv => lhs; whnf
  dsimp -iota -beta -eta -zeta only
  rw [toReq_call]
  rw [ev_on21 _ _ _ (by omega)]
  conv => lhs; whnf
  dsimp -iota -beta -eta -zeta only
  rw [toReq_call]
  rw [ev_ounseal_f _ _ _ _ _ _ _ _ _ _ _ _ _ _ _ _ _ _ _ _ _ _ _ _ _ _ _ _ _ _ _ _ _ _ _ _ _ _ _ _ _ _ _ _ _ (by simp) (by simp) hx (by decide)]
  conv => lhs; whnf
  dsimp -iota -beta -eta -zeta only
  rw [drw (by kernel_rfl)]; conv => lhs; whnf
  dsimp -iota -beta -eta -zeta only
  rw [toReq_call]
  rw [ev_on21 _ _ _ (by omega)]
  conv => lhs; whnf
  dsimp -iota -beta -eta -zeta only
  rw [toReq_call]
  rw [ev_osign_ok _ _ _ _ _ _ _ _ _ _ _ _ _ _ _ _ _ _ _ _ _ _ _ _ _ _ _ _ _ _ _ _ _ _ _ _ _ _ _ _ _ _ _ _ _ _ (by simp) (by simp) (by simp) hx rfl hA0 (by omega) (by simp) (by decide) (by simp) (by omega) rfl]
  conv => lhs; whnf
  dsimp -iota -beta -eta -zeta only
  rw [drw (by kernel_rfl)]; conv => lhs; whnf
  dsimp -iota -beta -eta -zeta only
  rw [toReq_call]
  rw [ev_oquote_a _ _ _ _ _ _ _ _ _ _ _ _ _ _ _ _ _ _ _ _ _ _ _ _ _ _ _ _ _ _ _ _ _ _ _ _ _ _ _ _ _ _ _ _ _ _ (by simp) (by simp) hx rfl hA0]
  conv => lhs; whnf
  dsimp -iota -beta -eta -zeta only
  rw [toReq_call]
  rw [ev_on21 _ _ _ (by omega)]
  conv => lhs; whnf
  dsimp -iota -beta -eta -zeta only
  rw [toReq_call]
  rw [ev_oLoad_f _ _ _ _ _ _ _ _ _ _ _ _ _ _ _ _ _ _ _ _ _ _ _ _ _ _ _ _ _ _ _ _ _ _ _ _ _ _ _ _ _ _ _ _ _ _ (by simp) (by simp) hx (by decide)]
  conv => lhs; whnf
  dsimp -iota -beta -eta -zeta only
  rw [drw (by kernel_rfl)]; conv => lhs; whnf
  rw [hA0]
  rw [beqv_t (by simp [ieq_eq, ine_eq, bnot_eq])]; conv => lhs; whnf
  rw [Y_go]; conv => lhs; whnf
  rw [beqv_t (by simp [ieq_eq, ine_eq, bnot_eq])]; conv => lhs; whnf
  rw [beqv_t (by simp [ieq_eq, ine_eq, bnot_eq])]; conv => lhs; whnf
  rw [ieq_t (by omega)]
  conv => lhs; whnf
  rw [Y_go]; conv => lhs; whnf
  rw [beqv_t (by simp [ieq_eq, ine_eq, bnot_eq])]; conv => lhs; whnf
  rw [ieq_t (by omega)]
  conv => lhs; whnf
  rw [beqv_t (by simp [ieq_eq, ine_eq, bnot_eq])]; conv => lhs; whnf
  rw [ieq_t (by omega)]
  conv => lhs; whnf
  rw [Y_go]; conv => lhs; whnf
  rw [beqv_t (by simp [ieq_eq, ine_eq, bnot_eq])]; conv => lhs; whnf
  rw [ine_t (by omega)]
  conv => lhs; whnf
  rw [ieq_f (by omega)]
  conv => lhs; whnf
  (congr 3; simp only [ieq_eq, ine_eq, ilt_eq, ile_eq, bnot_eq, and_eq, llen_eq]; first | rfl | (rw [decide_eq_decide]; omega) | (simp; omega))
theorem ev_okind_d (x y : UInt8) (b : List UInt8) (A : Int) (hA : ibit BinOp.or 1 (u8i (u8op BinOp.and y (UInt8.ofNat 2))) = A) (hA2 : A = 1 ∨ A = 3) (hg : b.length ≤ 60) (hk : u8i (u8rem x (UInt8.ofNat 3)) = 2) : Y E0 (.call 7 [.u8 x, .u8 y, .sl .u8 b] []) = some (.ret (.b true) []) := by
  have hRB : newRB (2 % 4) = [[], bankB 32] := rfl
  have hA0 : ibit .and A 4 = 0 := by rw [ibit_d]; rcases hA2 with rfl | rfl <;> decide
  have hA4 : ibit .or A 4 = A + 4 := by rw [ibit_d]; rcases hA2 with rfl | rfl <;> decide
  have hA5 : ibit .and (A + 4) 4 = 4 := by rw [ibit_d]; rcases hA2 with rfl | rfl <;> decide
  have hc : chkP ⟨3, A, 0, [], List.replicate (uniq 3).toNat 0⟩ = 0 := by rcases hA2 with rfl | rfl <;> decide
  obtain ⟨S1, -, hS1, hp⟩ := prim_ex (sd := seedsE ent0) (ob := List.replicate 3 obj0) (h := 1) (k := 3) (a := A) (t := 0) (o := []) (auth := []) (d := []) (by decide) (by decide) hc (by simp) (by simp) (by simp)
  rw [show freeAt (List.replicate 3 obj0) = 0 from rfl] at hp
  generalize encP ⟨3, A, 0, [], uniB 3 0 ⟨[], S1, []⟩⟩ = E1 at hp
  generalize nameB ⟨3, A, 0, [], uniB 3 0 ⟨[], S1, []⟩⟩ = N1 at hp
  generalize uniB 3 0 ⟨[], S1, []⟩ = U at hp
  have hx : slotAt ((List.replicate 3 obj0).set 0 ((3, A, 0, [], U), ([], S1, []), 1)) (512 + 0) = some ((3, A, 0, [], U), ([], S1, []), 1) := rfl
  clear hc
  rw [Y_go]; conv => lhs; whnf
  dsimp -iota -beta -eta -zeta only
  rw [toReq_call]
  rw [ev_awake21]
  conv => lhs; whnf
  rw [bnot_eq]; conv => lhs; whnf
  rw [ilt_f (by (simp only [sha256_len, fr1_len, fr2_len, fr3_len, nameB_l32, wkey_32, uintB_l2, uintB_l1, uintB_l8, blobB_l, bankJ_len, LL] at * <;> omega))]
  conv => lhs; whnf
  rw [hk]
  rw [hA]
  rw [iadd_eq (by omega)]
  rw [show (1 : Int) + 2 = 3 from rfl]
  rw [ieq_f (by omega)]
  conv => lhs; whnf
  rw [Y_go]; conv => lhs; whnf
  dsimp -iota -beta -eta -zeta only
  rw [toReq_call]
  rw [ev_state0]
  conv => lhs; whnf
  dsimp -iota -beta -eta -zeta only
  rw [toReq_call]
  rw [ev_p21 _ _ _ _ _ _ _]
  conv => lhs; whnf
  dsimp -iota -beta -eta -zeta only
  rw [toReq_call]
  rw [ev_oprim _ _ _ _ _ _ _ _ _ _ _ _ _ _ _ _ _ _ _ _ _ _ _ _ _ _ _ _ _ _ _ _ _ _ _ _ _ _ _ _ (by simp) (by decide) (seedsE_le _) (by simp) (by simp) (by simp), hp]
  conv => lhs; whnf
  dsimp -iota -beta -eta -zeta only
  rw [ine_f (by omega)]
  conv => lhs; whnf
  dsimp -iota -beta -eta -zeta only
  rw [toReq_call]
  rw [ev_on21 _ _ _ (by omega)]
  conv => lhs; whnf
  dsimp -iota -beta -eta -zeta only
  rw [toReq_call]
  rw [ev_on21 _ _ _ (by omega)]
  conv => lhs; whnf
  dsimp -iota -beta -eta -zeta only
  rw [toReq_call]
  rw [ev_ocreate_f _ _ _ _ _ _ _ _ _ _ _ _ _ _ _ _ _ _ _ _ _ _ _ _ _ _ _ _ _ _ _ _ _ _ _ _ _ _ _ _ _ _ _ _ _ _ (by simp) (by simp) hx (by decide)]
  conv => lhs; whnf
  dsimp -iota -beta -eta -zeta only
  rw [toReq_call]
  rw [ev_on21 _ _ _ (by omega)]
  conv => lhs; whnf
  dsimp -iota -beta -eta -zeta only
  rw [toReq_call]
  rw [ev_ounseal_t _ _ _ _ _ _ _ _ _ _ _ _ _ _ _ _ _ _ _ _ _ _ _ _ _ _ _ _ _ _ _ _ _ _ _ _ _ _ _ _ _ _ _ _ _ (by simp) (by simp) hx rfl]
  conv => lhs; whnf
  dsimp -iota -beta -eta -zeta only
  rw [drw (by kernel_rfl)]; conv => lhs; whnf
  dsimp -iota -beta -eta -zeta only
  rw [toReq_call]
  rw [ev_on21 _ _ _ (by omega)]
  conv => lhs; whnf
  dsimp -iota -beta -eta -zeta only
  rw [toReq_call]
  rw [ev_osign_k _ _ _ _ _ _ _ _ _ _ _ _ _ _ _ _ _ _ _ _ _ _ _ _ _ _ _ _ _ _ _ _ _ _ _ _ _ _ _ _ _ _ _ _ _ _ (by simp) (by simp) hx (by decide)]
  conv => lhs; whnf
  dsimp -iota -beta -eta -zeta only
  rw [drw (by kernel_rfl)]; conv => lhs; whnf
  dsimp -iota -beta -eta -zeta only
  rw [toReq_call]
  rw [ev_oquote_k _ _ _ _ _ _ _ _ _ _ _ _ _ _ _ _ _ _ _ _ _ _ _ _ _ _ _ _ _ _ _ _ _ _ _ _ _ _ _ _ _ _ _ _ _ _ (by simp) (by simp) hx (by decide)]
  conv => lhs; whnf
  dsimp -iota -beta -eta -zeta only
  rw [toReq_call]
  rw [ev_on21 _ _ _ (by omega)]
  conv => lhs; whnf
  dsimp -iota -beta -eta -zeta only
  rw [toReq_call]
  rw [ev_oLoad_f _ _ _ _ _ _ _ _ _ _ _ _ _ _ _ _ _ _ _ _ _ _ _ _ _ _ _ _ _ _ _ _ _ _ _ _ _ _ _ _ _ _ _ _ _ _ (by simp) (by simp) hx (by decide)]
  conv => lhs; whnf
  dsimp -iota -beta -eta -zeta only
  rw [drw (by kernel_rfl)]; conv => lhs; whnf
  rw [hA0]
  rw [beqv_t (by simp [ieq_eq, ine_eq, bnot_eq])]; conv => lhs; whnf
  rw [Y_go]; conv => lhs; whnf
  rw [beqv_t (by simp [ieq_eq, ine_eq, bnot_eq])]; conv => lhs; whnf
  rw [show ∀ a : Int, beq' (ieq 0 0) (ieq a a) = true from fun a => beqv_t (by rw [ieq_t rfl, ieq_t rfl])]; conv => lhs; whnf
  rw [ieq_f (by omega)]
  conv => lhs; whnf
  rw [Y_go]; conv => lhs; whnf
  rw [beqv_t (by simp [ieq_eq, ine_eq, bnot_eq])]; conv => lhs; whnf
  rw [ieq_f (by omega)]
  conv => lhs; whnf
  rw [beqv_t (by simp [ieq_eq, ine_eq, bnot_eq])]; conv => lhs; whnf
  rw [ieq_f (by omega)]
  conv => lhs; whnf
  rw [beqv_t (by simp [ieq_eq, ine_eq, bnot_eq])]; conv => lhs; whnf
  rw [Y_go]; conv => lhs; whnf
  rw [ine_t (by omega)]
  conv => lhs; whnf
  rw [ieq_f (by omega)]
  conv => lhs; whnf
  (congr 3; simp only [ieq_eq, ine_eq, ilt_eq, ile_eq, bnot_eq, and_eq, llen_eq]; first | rfl | (rw [decide_eq_decide]; omega) | (simp; omega))
theorem ev_ObjectKinds (x y : UInt8) (b : List UInt8) : Y E0 (.call 7 [.u8 x, .u8 y, .sl .u8 b] []) = some (.ret (.b true) []) := by
  obtain ⟨k, hk, hk3⟩ := kind3 x
  obtain ⟨A, hA, hA2⟩ := attr2 y
  by_cases hg : b.length ≤ 60
  · rcases hk3 with rfl | rfl | rfl
    · exact ev_okind_p x y b A hA hA2 hg hk
    · rcases Bool.eq_false_or_eq_true (u8cmp BinOp.eql (u8op BinOp.and y (UInt8.ofNat 1)) (UInt8.ofNat 1)) with hR | hR
      · exact ev_okind_r x y b A hA hA2 hg hk hR
      · exact ev_okind_s x y b A hA hA2 hg hk hR
    · exact ev_okind_d x y b A hA hA2 hg hk
  · rw [Y_go]; conv => lhs; whnf
    dsimp -iota -beta -eta -zeta only
    rw [toReq_call]
    rw [ev_awake21]
    conv => lhs; whnf
    rw [bnot_eq]; conv => lhs; whnf
    rw [ilt_t (by (simp only [sha256_len, fr1_len, fr2_len, fr3_len, nameB_l32, wkey_32, uintB_l2, uintB_l1, uintB_l8, blobB_l, bankJ_len, LL] at * <;> omega))]
    conv => lhs; whnf
end Go.Proofs.YtfjcmolccckhhaaGreatDoor
