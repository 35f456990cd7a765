/-
  Own texts, laid together for this claim: contracts of functions of the program and its references, used by the statements of this seat.
-/
import Derived.Test.YtfjcmolccckhhaaGreatDoorMsb
set_option linter.all false

namespace Go.Proofs.YtfjcmolccckhhaaGreatDoor
open Go Go.Ax Go.Eng
set_option linter.unusedVariables false
set_option linter.unusedSimpArgs false
attribute [local irreducible] iadd isub imul iquo irem ibit ineg ieq ine ilt ile ishl ishr beq' bnot and' seq' u8op u8rem u32op u64op u8shr u8shl u64shr u64shl u32shr u32shl i64w u8i u64i iu8 iu32 iu64 u8u64 u64u8 u32u8 u64cmp u8cmp u32cmp llen lget linb lset lcut lrep lapp lcpy lemp fits fitn ieqs sealed drawChk fpSame
attribute [local irreducible] derB seedB makeP nameB encP uniB frameB primS
set_option maxHeartbeats 4000000
set_option maxRecDepth 100000
theorem ev_p21 (h k a t : Int) (o u d : List UInt8) : Y E0 (.call 16 [.i h, .i k, .i a, .i t, .sl .u8 o, .sl .u8 u, .sl .u8 d] []) = some (.ret (.agg [.i 9, .sl .i64 [h], .sl authT [], .sl .i64 [k, a, t], .sl (.sl .u8) [o, u, d]]) []) := by
  rw [Y_go]; conv => lhs; whnf
theorem ev_on21 (c s : Int) (bs : List (List UInt8)) (hs : 0 ≤ s ∧ s ≤ 100000) : Y E0 (.call 20 [.i c, .i s, .sl (.sl .u8) bs] []) = some (.ret (.agg [.i c, .sl .i64 [512 + s], .sl authT [], .sl .i64 [], .sl (.sl .u8) bs]) []) := by
  rw [Y_go]; conv => lhs; whnf
  dsimp -iota -beta -eta -zeta only
  rw [iadd_eq (by omega)]
theorem ev_ofail (sd au : List (List UInt8)) (en : List UInt8) (ac re rs ck : Int) (od : Bool) (sb : List (List (List UInt8))) (su mc : Int) (ix : List (El idxT)) (l1 l2 l3 l4 l5 l6 : Int) (ks : List (El lvT)) (st sp : Bool) (rb : List (List (List UInt8))) (ru vc : Int) (sf : Bool) (dr : Int) (ss : List (El sesT)) (ob : List (El objT)) (rl wl : List Int) (e : Int) : Y E0 (.call 41 [.agg [.sl (.sl .u8) sd, .sl (.sl .u8) au, .sl .u8 en, .i ac, .i re, .i rs, .i ck, .b od, .sl (.sl (.sl .u8)) sb, .i su, .i mc, .sl idxT ix, .i l1, .i l2, .i l3, .i l4, .i l5, .i l6, .sl lvT ks, .b st, .b sp, .sl (.sl (.sl .u8)) rb, .i ru, .i vc, .b sf, .i dr, .sl sesT ss, .sl objT ob, .sl .i64 rl, .sl .i64 wl], .i e] []) = some (.ret (.tup [.agg [.sl (.sl .u8) sd, .sl (.sl .u8) au, .sl .u8 en, .i ac, .i re, .i rs, .i ck, .b od, .sl (.sl (.sl .u8)) sb, .i su, .i mc, .sl idxT ix, .i l1, .i l2, .i l3, .i l4, .i l5, .i l6, .sl lvT ks, .b st, .b sp, .sl (.sl (.sl .u8)) rb, .i ru, .i vc, .b sf, .i dr, .sl sesT ss, .sl objT ob, .sl .i64 rl, .sl .i64 wl], .agg [.i e, .sl .i64 [], .sl (.sl .u8) [], .sl (.sl .u8) []]]) []) := by
  rw [Y_go]; conv => lhs; whnf
theorem ev_ofirst (c h : Int) (hs : List Int) (az : List (El authT)) (is : List Int) (bs : List (List UInt8)) (hl : hs.length ≤ 1000) : Y E0 (.call 40 [.agg [.i c, .sl .i64 (h :: hs), .sl authT az, .sl .i64 is, .sl (.sl .u8) bs]] []) = some (.ret (.i h) []) := by
  rw [Y_go]; conv => lhs; whnf
  rw [ieq_f (by (simp only [sha256_len, fr1_len, fr2_len, fr3_len, nameB_l32, wkey_32, uintB_l2, uintB_l1, blobB_l, bankJ_len, LL] at * <;> omega))]
  conv => lhs; whnf
  rw [lg0]; conv => lhs; whnf
theorem ev_onum0 (c x : Int) (hs : List Int) (az : List (El authT)) (is : List Int) (bs : List (List UInt8)) (hl : is.length ≤ 1000) : Y E0 (.call 74 [.agg [.i c, .sl .i64 hs, .sl authT az, .sl .i64 (x :: is), .sl (.sl .u8) bs], .i 0] []) = some (.ret (.i x) []) := by
  rw [Y_go]; conv => lhs; whnf
  rw [ile_f (by (simp only [sha256_len, fr1_len, fr2_len, fr3_len, nameB_l32, wkey_32, uintB_l2, uintB_l1, blobB_l, bankJ_len, LL] at * <;> omega))]
  conv => lhs; whnf
  rw [lg0]; conv => lhs; whnf
theorem ev_onum1 (c x y : Int) (hs : List Int) (az : List (El authT)) (is : List Int) (bs : List (List UInt8)) (hl : is.length ≤ 1000) : Y E0 (.call 74 [.agg [.i c, .sl .i64 hs, .sl authT az, .sl .i64 (x :: y :: is), .sl (.sl .u8) bs], .i 1] []) = some (.ret (.i y) []) := by
  rw [Y_go]; conv => lhs; whnf
  rw [ile_f (by (simp only [sha256_len, fr1_len, fr2_len, fr3_len, nameB_l32, wkey_32, uintB_l2, uintB_l1, blobB_l, bankJ_len, LL] at * <;> omega))]
  conv => lhs; whnf
  rw [lg1]; conv => lhs; whnf
theorem ev_onum2 (c x y z : Int) (hs : List Int) (az : List (El authT)) (is : List Int) (bs : List (List UInt8)) (hl : is.length ≤ 1000) : Y E0 (.call 74 [.agg [.i c, .sl .i64 hs, .sl authT az, .sl .i64 (x :: y :: z :: is), .sl (.sl .u8) bs], .i 2] []) = some (.ret (.i z) []) := by
  rw [Y_go]; conv => lhs; whnf
  rw [ile_f (by (simp only [sha256_len, fr1_len, fr2_len, fr3_len, nameB_l32, wkey_32, uintB_l2, uintB_l1, blobB_l, bankJ_len, LL] at * <;> omega))]
  conv => lhs; whnf
  rw [lg2]; conv => lhs; whnf
theorem ev_oblob0 (c : Int) (x : List UInt8) (hs : List Int) (az : List (El authT)) (is : List Int) (bs : List (List UInt8)) (hl : bs.length ≤ 1000) : Y E0 (.call 43 [.agg [.i c, .sl .i64 hs, .sl authT az, .sl .i64 is, .sl (.sl .u8) (x :: bs)], .i 0] []) = some (.ret (.sl .u8 x) []) := by
  rw [Y_go]; conv => lhs; whnf
  rw [ile_f (by (simp only [sha256_len, fr1_len, fr2_len, fr3_len, nameB_l32, wkey_32, uintB_l2, uintB_l1, blobB_l, bankJ_len, LL] at * <;> omega))]
  conv => lhs; whnf
  rw [lg0]; conv => lhs; whnf
theorem ev_oblob1 (c : Int) (x y : List UInt8) (hs : List Int) (az : List (El authT)) (is : List Int) (bs : List (List UInt8)) (hl : bs.length ≤ 1000) : Y E0 (.call 43 [.agg [.i c, .sl .i64 hs, .sl authT az, .sl .i64 is, .sl (.sl .u8) (x :: y :: bs)], .i 1] []) = some (.ret (.sl .u8 y) []) := by
  rw [Y_go]; conv => lhs; whnf
  rw [ile_f (by (simp only [sha256_len, fr1_len, fr2_len, fr3_len, nameB_l32, wkey_32, uintB_l2, uintB_l1, blobB_l, bankJ_len, LL] at * <;> omega))]
  conv => lhs; whnf
  rw [lg1]; conv => lhs; whnf
theorem ev_oblob2 (c : Int) (x y z : List UInt8) (hs : List Int) (az : List (El authT)) (is : List Int) (bs : List (List UInt8)) (hl : bs.length ≤ 1000) : Y E0 (.call 43 [.agg [.i c, .sl .i64 hs, .sl authT az, .sl .i64 is, .sl (.sl .u8) (x :: y :: z :: bs)], .i 2] []) = some (.ret (.sl .u8 z) []) := by
  rw [Y_go]; conv => lhs; whnf
  rw [ile_f (by (simp only [sha256_len, fr1_len, fr2_len, fr3_len, nameB_l32, wkey_32, uintB_l2, uintB_l1, blobB_l, bankJ_len, LL] at * <;> omega))]
  conv => lhs; whnf
  rw [lg2]; conv => lhs; whnf
theorem ev_otempl (c k a t : Int) (hs : List Int) (az : List (El authT)) (o : List UInt8) (bs : List (List UInt8)) (hl : bs.length ≤ 1000) : Y E0 (.call 42 [.agg [.i c, .sl .i64 hs, .sl authT az, .sl .i64 [k, a, t], .sl (.sl .u8) (o :: bs)]] []) = some (.ret (.agg [.i k, .i a, .i t, .sl .u8 o, .sl .u8 []]) []) := by
  rw [Y_go]; conv => lhs; whnf
  dsimp -iota -beta -eta -zeta only
  rw [toReq_call]
  rw [ev_onum0 _ _ _ _ _ _ (by (simp only [sha256_len, fr1_len, fr2_len, fr3_len, nameB_l32, wkey_32, uintB_l2, uintB_l1, blobB_l, bankJ_len, LL] at * <;> omega))]
  conv => lhs; whnf
  dsimp -iota -beta -eta -zeta only
  rw [toReq_call]
  rw [ev_onum1 _ _ _ _ _ _ _ (by (simp only [sha256_len, fr1_len, fr2_len, fr3_len, nameB_l32, wkey_32, uintB_l2, uintB_l1, blobB_l, bankJ_len, LL] at * <;> omega))]
  conv => lhs; whnf
  dsimp -iota -beta -eta -zeta only
  rw [toReq_call]
  rw [ev_onum2 _ _ _ _ _ _ _ _ (by (simp only [sha256_len, fr1_len, fr2_len, fr3_len, nameB_l32, wkey_32, uintB_l2, uintB_l1, blobB_l, bankJ_len, LL] at * <;> omega))]
  conv => lhs; whnf
  dsimp -iota -beta -eta -zeta only
  rw [toReq_call]
  rw [ev_oblob0 _ _ _ _ _ _ (by omega)]
  conv => lhs; whnf
  dsimp -iota -beta -eta -zeta only
  rw [drw (by kernel_rfl)]; conv => lhs; whnf
theorem ev_oload_loop (sd au : List (List UInt8)) (en : List UInt8) (ac re rs ck : Int) (od : Bool) (sb : List (List (List UInt8))) (su mc : Int) (ix : List (El idxT)) (l1 l2 l3 l4 l5 l6 : Int) (ks : List (El lvT)) (st sp : Bool) (rb : List (List (List UInt8))) (ru vc : Int) (sf : Bool) (dr : Int) (ss : List (El sesT)) (ob : List (El objT)) (rl wl : List Int) (p1 p2 p3 : Int) (p4 p5 s1 s2 s3 : List UInt8) (hr : Int) (hl : ob.length ≤ 1000) : ∀ (n j : Nat), j + n = ob.length → freeAt ob = j + freeAt (ob.drop j) → Y E0 (.loop 47 0 0 3 [(2, .pa 0 0), (3, .pa 1 0), (4, .pa 2 0), (11, .sl objT ob), (12, .i (llen ob)), (13, .i (j : Int))] [(0, some (.var [.sl (.sl .u8) sd, .sl (.sl .u8) au, .sl .u8 en, .i ac, .i re, .i rs, .i ck, .b od, .sl (.sl (.sl .u8)) sb, .i su, .i mc, .sl idxT ix, .i l1, .i l2, .i l3, .i l4, .i l5, .i l6, .sl lvT ks, .b st, .b sp, .sl (.sl (.sl .u8)) rb, .i ru, .i vc, .b sf, .i dr, .sl sesT ss, .sl objT ob, .sl .i64 rl, .sl .i64 wl])), (1, some (.var [.i p1, .i p2, .i p3, .sl .u8 p4, .sl .u8 p5, .sl .u8 s1, .sl .u8 s2, .sl .u8 s3, .i hr])), (2, some (.var [.nil, .nil, .nil, .i 0, .i 0, .i 0, .i 0, .b false, .nil, .i 0, .i 0, .nil, .i 0, .i 0, .i 0, .i 0, .i 0, .i 0, .nil, .b false, .b false, .nil, .i 0, .i 0, .b false, .i 0, .nil, .nil, .nil, .nil]))]) =
    if freeAt ob < ob.length then some (.fin .ret 3 [(2, .pa 0 0), (4, .pa 1 0), (5, .i (512 + (freeAt ob : Int))), (6, .i 0)] [(0, some (.var [.sl (.sl .u8) sd, .sl (.sl .u8) au, .sl .u8 en, .i ac, .i re, .i rs, .i ck, .b od, .sl (.sl (.sl .u8)) sb, .i su, .i mc, .sl idxT ix, .i l1, .i l2, .i l3, .i l4, .i l5, .i l6, .sl lvT ks, .b st, .b sp, .sl (.sl (.sl .u8)) rb, .i ru, .i vc, .b sf, .i dr, .sl sesT ss, .nm 2, .sl .i64 rl, .sl .i64 wl])), (1, some (.var [.sl (.sl .u8) sd, .sl (.sl .u8) au, .sl .u8 en, .i ac, .i re, .i rs, .i ck, .b od, .sl (.sl (.sl .u8)) sb, .i su, .i mc, .sl idxT ix, .i l1, .i l2, .i l3, .i l4, .i l5, .i l6, .sl lvT ks, .b st, .b sp, .sl (.sl (.sl .u8)) rb, .i ru, .i vc, .b sf, .i dr, .sl sesT ss, .nm 2, .sl .i64 rl, .sl .i64 wl])), (2, some (.row 61 objT (ob.set (freeAt ob) ((p1, p2, p3, p4, p5), (s1, s2, s3), hr))))])
    else some (.fin (.exit 0) 2 [(2, .pa 0 0), (4, .pa 1 0)] [(0, some (.var [.sl (.sl .u8) sd, .sl (.sl .u8) au, .sl .u8 en, .i ac, .i re, .i rs, .i ck, .b od, .sl (.sl (.sl .u8)) sb, .i su, .i mc, .sl idxT ix, .i l1, .i l2, .i l3, .i l4, .i l5, .i l6, .sl lvT ks, .b st, .b sp, .sl (.sl (.sl .u8)) rb, .i ru, .i vc, .b sf, .i dr, .sl sesT ss, .sl objT ob, .sl .i64 rl, .sl .i64 wl])), (1, some (.var [.nil, .nil, .nil, .i 0, .i 0, .i 0, .i 0, .b false, .nil, .i 0, .i 0, .nil, .i 0, .i 0, .i 0, .i 0, .i 0, .i 0, .nil, .b false, .b false, .nil, .i 0, .i 0, .b false, .i 0, .nil, .nil, .nil, .nil]))])
  | 0, j, hj, hf => by
    rw [if_neg (by rw [List.drop_eq_nil_of_le (by omega), freeAt] at hf; omega)]
    rw [Y_go]; conv => lhs; whnf
    rw [ilt_f (by (simp only [sha256_len, fr1_len, fr2_len, fr3_len, nameB_l32, wkey_32, uintB_l2, uintB_l1, blobB_l, bankJ_len, LL] at * <;> omega))]
    conv => lhs; whnf
  | n + 1, j, hj, hf => by
    have hd := List.drop_eq_getElem_cons (l := ob) (i := j) (by omega)
    rw [hd] at hf
    have hg : lget ob (j : Int) = some (ob[j]'(by omega)) := lget_n (by omega)
    generalize ob[j]'(by omega) = x at *
    obtain ⟨⟨k, a, t, o, u⟩, ⟨y1, y2, y3⟩, h⟩ := x
    by_cases hk : k = 0
    · subst hk
      rw [freeAt, if_pos rfl] at hf
      rw [if_pos (by omega), show freeAt ob = j from hf]
      have hs : ∀ x, lset ob (j : Int) x = ob.set j x := fun x => by rw [lset_eq]; simp
      rw [Y_go]; conv => lhs; whnf
      rw [ilt_t (by (simp only [sha256_len, fr1_len, fr2_len, fr3_len, nameB_l32, wkey_32, uintB_l2, uintB_l1, blobB_l, bankJ_len, LL] at * <;> omega))]
      conv => lhs; whnf
      rw [hg]; conv => lhs; whnf
      dsimp -iota -beta -eta -zeta only
      rw [ieq_t (by omega)]
      conv => lhs; whnf
      dsimp -iota -beta -eta -zeta only
      rw [toReq_call]
      rw [ev_clo _ (by omega)]
      conv => lhs; whnf
      rw [linb_t (by omega)]
      conv => lhs; whnf
      rw [hg]; conv => lhs; whnf
      rw [iadd_eq (by omega)]
      (rw [hs])
    · have ih := ev_oload_loop sd au en ac re rs ck od sb su mc ix l1 l2 l3 l4 l5 l6 ks st sp rb ru vc sf dr ss ob rl wl p1 p2 p3 p4 p5 s1 s2 s3 hr hl n (j + 1) (by omega) (by rw [hf, freeAt, if_neg hk]; omega)
      rw [show ((j + 1 : Nat) : Int) = (j : Int) + 1 from by omega] at ih
      rw [Y_go]; conv => lhs; whnf
      rw [ilt_t (by (simp only [sha256_len, fr1_len, fr2_len, fr3_len, nameB_l32, wkey_32, uintB_l2, uintB_l1, blobB_l, bankJ_len, LL] at * <;> omega))]
      conv => lhs; whnf
      rw [hg]; conv => lhs; whnf
      dsimp -iota -beta -eta -zeta only
      rw [ieq_f (by omega)]
      conv => lhs; whnf
      dsimp -iota -beta -eta -zeta only
      rw [iadd_eq (by omega)]
      exact ih
theorem ev_oload (sd au : List (List UInt8)) (en : List UInt8) (ac re rs ck : Int) (od : Bool) (sb : List (List (List UInt8))) (su mc : Int) (ix : List (El idxT)) (l1 l2 l3 l4 l5 l6 : Int) (ks : List (El lvT)) (st sp : Bool) (rb : List (List (List UInt8))) (ru vc : Int) (sf : Bool) (dr : Int) (ss : List (El sesT)) (ob : List (El objT)) (rl wl : List Int) (p1 p2 p3 : Int) (p4 p5 s1 s2 s3 : List UInt8) (hr : Int) (hl : ob.length ≤ 1000) : Y E0 (.call 47 [.agg [.sl (.sl .u8) sd, .sl (.sl .u8) au, .sl .u8 en, .i ac, .i re, .i rs, .i ck, .b od, .sl (.sl (.sl .u8)) sb, .i su, .i mc, .sl idxT ix, .i l1, .i l2, .i l3, .i l4, .i l5, .i l6, .sl lvT ks, .b st, .b sp, .sl (.sl (.sl .u8)) rb, .i ru, .i vc, .b sf, .i dr, .sl sesT ss, .sl objT ob, .sl .i64 rl, .sl .i64 wl], .agg [.i p1, .i p2, .i p3, .sl .u8 p4, .sl .u8 p5, .sl .u8 s1, .sl .u8 s2, .sl .u8 s3, .i hr]] []) =
    if freeAt ob < ob.length then some (.ret (.tup [.agg [.sl (.sl .u8) sd, .sl (.sl .u8) au, .sl .u8 en, .i ac, .i re, .i rs, .i ck, .b od, .sl (.sl (.sl .u8)) sb, .i su, .i mc, .sl idxT ix, .i l1, .i l2, .i l3, .i l4, .i l5, .i l6, .sl lvT ks, .b st, .b sp, .sl (.sl (.sl .u8)) rb, .i ru, .i vc, .b sf, .i dr, .sl sesT ss, .sl objT (ob.set (freeAt ob) ((p1, p2, p3, p4, p5), (s1, s2, s3), hr)), .sl .i64 rl, .sl .i64 wl], .i (512 + (freeAt ob : Int)), .i 0]) []) else some (.ret (.tup [.agg [.sl (.sl .u8) sd, .sl (.sl .u8) au, .sl .u8 en, .i ac, .i re, .i rs, .i ck, .b od, .sl (.sl (.sl .u8)) sb, .i su, .i mc, .sl idxT ix, .i l1, .i l2, .i l3, .i l4, .i l5, .i l6, .sl lvT ks, .b st, .b sp, .sl (.sl (.sl .u8)) rb, .i ru, .i vc, .b sf, .i dr, .sl sesT ss, .sl objT ob, .sl .i64 rl, .sl .i64 wl], .i 0, .i 25]) []) := by
  have hq := ev_oload_loop sd au en ac re rs ck od sb su mc ix l1 l2 l3 l4 l5 l6 ks st sp rb ru vc sf dr ss ob rl wl p1 p2 p3 p4 p5 s1 s2 s3 hr hl ob.length 0 (by omega) (by simp)
  rw [show ((0 : Nat) : Int) = 0 from rfl] at hq
  by_cases hc : freeAt ob < ob.length
  · rw [if_pos hc] at hq ⊢
    rw [Y_go]; conv => lhs; whnf
    dsimp -iota -beta -eta -zeta only
    rw [toReq_loop]
    rw [hq]
    conv => lhs; whnf
  · rw [if_neg hc] at hq ⊢
    rw [Y_go]; conv => lhs; whnf
    dsimp -iota -beta -eta -zeta only
    rw [toReq_loop]
    rw [hq]
    conv => lhs; whnf
theorem ev_rfree_loop (sd au : List (List UInt8)) (en : List UInt8) (ac re rs ck : Int) (od : Bool) (sb : List (List (List UInt8))) (su mc : Int) (ix : List (El idxT)) (l1 l2 l3 l4 l5 l6 : Int) (ks : List (El lvT)) (st sp : Bool) (rb : List (List (List UInt8))) (ru vc : Int) (sf : Bool) (dr : Int) (ss : List (El sesT)) (ob : List (El objT)) (rl wl : List Int) (hl : ob.length ≤ 1000) : ∀ (n j : Nat), j + n = ob.length → freeAt ob = j + freeAt (ob.drop j) → Y E0 (.loop 55 0 0 1 [(1, .pa 0 0), (3, .i (j : Int))] [(0, some (.var [.sl (.sl .u8) sd, .sl (.sl .u8) au, .sl .u8 en, .i ac, .i re, .i rs, .i ck, .b od, .sl (.sl (.sl .u8)) sb, .i su, .i mc, .sl idxT ix, .i l1, .i l2, .i l3, .i l4, .i l5, .i l6, .sl lvT ks, .b st, .b sp, .sl (.sl (.sl .u8)) rb, .i ru, .i vc, .b sf, .i dr, .sl sesT ss, .sl objT ob, .sl .i64 rl, .sl .i64 wl]))]) =
    if freeAt ob < ob.length then some (.fin .ret 0 [(2, .i (freeAt ob : Int))] []) else some (.fin (.exit 0) 0 [] [])
  | 0, j, hj, hf => by
    rw [if_neg (by rw [List.drop_eq_nil_of_le (by omega), freeAt] at hf; omega)]
    rw [Y_go]; conv => lhs; whnf
    rw [ilt_f (by (simp only [sha256_len, fr1_len, fr2_len, fr3_len, nameB_l32, wkey_32, uintB_l2, uintB_l1, blobB_l, bankJ_len, LL] at * <;> omega))]
    conv => lhs; whnf
  | n + 1, j, hj, hf => by
    have hd := List.drop_eq_getElem_cons (l := ob) (i := j) (by omega)
    rw [hd] at hf
    have hg : lget ob (j : Int) = some (ob[j]'(by omega)) := lget_n (by omega)
    generalize ob[j]'(by omega) = x at *
    obtain ⟨⟨k, a, t, o, u⟩, ⟨y1, y2, y3⟩, h⟩ := x
    by_cases hk : k = 0
    · subst hk
      rw [freeAt, if_pos rfl] at hf
      rw [if_pos (by omega), show freeAt ob = j from hf]
      rw [Y_go]; conv => lhs; whnf
      rw [ilt_t (by (simp only [sha256_len, fr1_len, fr2_len, fr3_len, nameB_l32, wkey_32, uintB_l2, uintB_l1, blobB_l, bankJ_len, LL] at * <;> omega))]
      conv => lhs; whnf
      rw [hg]; conv => lhs; whnf
      dsimp -iota -beta -eta -zeta only
      rw [ieq_t (by omega)]
      conv => lhs; whnf
    · have ih := ev_rfree_loop sd au en ac re rs ck od sb su mc ix l1 l2 l3 l4 l5 l6 ks st sp rb ru vc sf dr ss ob rl wl hl n (j + 1) (by omega) (by rw [hf, freeAt, if_neg hk]; omega)
      rw [show ((j + 1 : Nat) : Int) = (j : Int) + 1 from by omega] at ih
      rw [Y_go]; conv => lhs; whnf
      rw [ilt_t (by (simp only [sha256_len, fr1_len, fr2_len, fr3_len, nameB_l32, wkey_32, uintB_l2, uintB_l1, blobB_l, bankJ_len, LL] at * <;> omega))]
      conv => lhs; whnf
      rw [hg]; conv => lhs; whnf
      dsimp -iota -beta -eta -zeta only
      rw [ieq_f (by omega)]
      conv => lhs; whnf
      dsimp -iota -beta -eta -zeta only
      rw [iadd_eq (by omega)]
      exact ih
theorem ev_rfree (sd au : List (List UInt8)) (en : List UInt8) (ac re rs ck : Int) (od : Bool) (sb : List (List (List UInt8))) (su mc : Int) (ix : List (El idxT)) (l1 l2 l3 l4 l5 l6 : Int) (ks : List (El lvT)) (st sp : Bool) (rb : List (List (List UInt8))) (ru vc : Int) (sf : Bool) (dr : Int) (ss : List (El sesT)) (ob : List (El objT)) (rl wl : List Int) (hl : ob.length ≤ 1000) : Y E0 (.call 55 [.agg [.sl (.sl .u8) sd, .sl (.sl .u8) au, .sl .u8 en, .i ac, .i re, .i rs, .i ck, .b od, .sl (.sl (.sl .u8)) sb, .i su, .i mc, .sl idxT ix, .i l1, .i l2, .i l3, .i l4, .i l5, .i l6, .sl lvT ks, .b st, .b sp, .sl (.sl (.sl .u8)) rb, .i ru, .i vc, .b sf, .i dr, .sl sesT ss, .sl objT ob, .sl .i64 rl, .sl .i64 wl]] []) = some (.ret (.i (if freeAt ob < ob.length then (freeAt ob : Int) else -1)) []) := by
  have hq := ev_rfree_loop sd au en ac re rs ck od sb su mc ix l1 l2 l3 l4 l5 l6 ks st sp rb ru vc sf dr ss ob rl wl hl ob.length 0 (by omega) (by simp)
  rw [show ((0 : Nat) : Int) = 0 from rfl] at hq
  by_cases hc : freeAt ob < ob.length
  · rw [if_pos hc] at hq ⊢
    rw [Y_go]; conv => lhs; whnf
    dsimp -iota -beta -eta -zeta only
    rw [toReq_loop]
    rw [hq]
    conv => lhs; whnf
  · rw [if_neg hc] at hq ⊢
    rw [Y_go]; conv => lhs; whnf
    dsimp -iota -beta -eta -zeta only
    rw [toReq_loop]
    rw [hq]
    conv => lhs; whnf
theorem ev_rput (sd au : List (List UInt8)) (en : List UInt8) (ac re rs ck : Int) (od : Bool) (sb : List (List (List UInt8))) (su mc : Int) (ix : List (El idxT)) (l1 l2 l3 l4 l5 l6 : Int) (ks : List (El lvT)) (st sp : Bool) (rb : List (List (List UInt8))) (ru vc : Int) (sf : Bool) (dr : Int) (ss : List (El sesT)) (ob : List (El objT)) (rl wl : List Int) (k : Int) (p1 p2 p3 : Int) (p4 p5 s1 s2 s3 : List UInt8) (hr : Int) (hl : ob.length ≤ 1000) (hk : 0 ≤ k ∧ k < ob.length) : Y E0 (.call 56 [.agg [.sl (.sl .u8) sd, .sl (.sl .u8) au, .sl .u8 en, .i ac, .i re, .i rs, .i ck, .b od, .sl (.sl (.sl .u8)) sb, .i su, .i mc, .sl idxT ix, .i l1, .i l2, .i l3, .i l4, .i l5, .i l6, .sl lvT ks, .b st, .b sp, .sl (.sl (.sl .u8)) rb, .i ru, .i vc, .b sf, .i dr, .sl sesT ss, .sl objT ob, .sl .i64 rl, .sl .i64 wl], .i k, .agg [.i p1, .i p2, .i p3, .sl .u8 p4, .sl .u8 p5, .sl .u8 s1, .sl .u8 s2, .sl .u8 s3, .i hr]] []) = some (.ret (.agg [.sl (.sl .u8) sd, .sl (.sl .u8) au, .sl .u8 en, .i ac, .i re, .i rs, .i ck, .b od, .sl (.sl (.sl .u8)) sb, .i su, .i mc, .sl idxT ix, .i l1, .i l2, .i l3, .i l4, .i l5, .i l6, .sl lvT ks, .b st, .b sp, .sl (.sl (.sl .u8)) rb, .i ru, .i vc, .b sf, .i dr, .sl sesT ss, .sl objT (ob.set k.toNat ((p1, p2, p3, p4, p5), (s1, s2, s3), hr)), .sl .i64 rl, .sl .i64 wl]) []) := by
  have hs : ∀ x, lset (lapp [] ob) k x = ob.set k.toNat x := fun x => by rw [lset_eq, lapp_eq]; rfl
  rw [Y_go]; conv => lhs; whnf
  rw [fits_t (by (simp only [sha256_len, fr1_len, fr2_len, fr3_len, nameB_l32, wkey_32, uintB_l2, uintB_l1, blobB_l, bankJ_len, LL] at * <;> omega))]
  conv => lhs; whnf
  rw [linb_t (by (simp only [sha256_len, fr1_len, fr2_len, fr3_len, nameB_l32, wkey_32, uintB_l2, uintB_l1, blobB_l, bankJ_len, LL] at * <;> omega))]
  conv => lhs; whnf
  rw [lget_i (by (simp only [sha256_len, fr1_len, fr2_len, fr3_len, nameB_l32, wkey_32, uintB_l2, uintB_l1, blobB_l, bankJ_len, LL] at * <;> omega))]
  conv => lhs; whnf
  dsimp -iota -beta -eta -zeta only
  simp only [NO]; try with_reducible rfl
theorem ev_eobj_t (sd au : List (List UInt8)) (en : List UInt8) (ac re rs ck : Int) (od : Bool) (sb : List (List (List UInt8))) (su mc : Int) (ix : List (El idxT)) (l1 l2 l3 l4 l5 l6 : Int) (ks : List (El lvT)) (st sp : Bool) (rb : List (List (List UInt8))) (ru vc : Int) (sf : Bool) (dr : Int) (ss : List (El sesT)) (ob : List (El objT)) (rl wl : List Int) (h : Int) (p1 p2 p3 : Int) (p4 p5 s1 s2 s3 : List UInt8) (hr : Int) (hl : ob.length ≤ 1000) (hx : slotAt ob h = some ((p1, p2, p3, p4, p5), (s1, s2, s3), hr)) : Y E0 (.call 87 [.agg [.sl (.sl .u8) sd, .sl (.sl .u8) au, .sl .u8 en, .i ac, .i re, .i rs, .i ck, .b od, .sl (.sl (.sl .u8)) sb, .i su, .i mc, .sl idxT ix, .i l1, .i l2, .i l3, .i l4, .i l5, .i l6, .sl lvT ks, .b st, .b sp, .sl (.sl (.sl .u8)) rb, .i ru, .i vc, .b sf, .i dr, .sl sesT ss, .sl objT ob, .sl .i64 rl, .sl .i64 wl], .i h] []) = some (.ret (.tup [.agg [.i p1, .i p2, .i p3, .sl .u8 p4, .sl .u8 p5, .sl .u8 s1, .sl .u8 s2, .sl .u8 s3, .i hr], .i 0]) []) := by
  have hh : 512 ≤ h := by
    unfold slotAt at hx; split at hx
    · assumption
    · cases hx
  rw [slotAt, if_pos hh] at hx
  split at hx
  · rename_i x hq
    split at hx
    · cases hx
    · rename_i hk
      obtain rfl := Option.some.inj hx
      have hlt := (List.getElem?_eq_some_iff.1 hq).1
      have hg : lget ob (h - 512) = some ((p1, p2, p3, p4, p5), (s1, s2, s3), hr) := by rw [lget_d]; unfold lget0; rw [if_pos (by omega)]; exact hq
      simp only at hk
      rw [Y_go]; conv => lhs; whnf
      rw [ilt_f (by omega)]
      conv => lhs; whnf
      rw [isub_eq (by omega)]
      rw [ile_f (by (simp only [sha256_len, fr1_len, fr2_len, fr3_len, nameB_l32, wkey_32, uintB_l2, uintB_l1, blobB_l, bankJ_len, LL] at * <;> omega))]
      conv => lhs; whnf
      rw [hg]; conv => lhs; whnf
      dsimp -iota -beta -eta -zeta only
      rw [ieq_f (by omega)]
      conv => lhs; whnf
      rw [hg]; conv => lhs; whnf
      dsimp -iota -beta -eta -zeta only
      rw [Y_go]; conv => lhs; whnf
  · cases hx
theorem ev_oprim (sd au : List (List UInt8)) (en : List UInt8) (ac re rs ck : Int) (od : Bool) (sb : List (List (List UInt8))) (su mc : Int) (ix : List (El idxT)) (l1 l2 l3 l4 l5 l6 : Int) (ks : List (El lvT)) (st sp : Bool) (rb : List (List (List UInt8))) (ru vc : Int) (sf : Bool) (dr : Int) (ss : List (El sesT)) (ob : List (El objT)) (rl wl : List Int) (c h k a t : Int) (hs : List Int) (az : List (El authT)) (o u d : List UInt8) (hl : ob.length ≤ 1000) (hsd : sd.length ≤ 1000) (hsl : ∀ l ∈ sd, l.length ≤ 1000) (hhs : hs.length ≤ 100) (ho : o.length ≤ 50000) (hd : d.length ≤ 50000) :
    Y E0 (.call 15 [.agg [.sl (.sl .u8) sd, .sl (.sl .u8) au, .sl .u8 en, .i ac, .i re, .i rs, .i ck, .b od, .sl (.sl (.sl .u8)) sb, .i su, .i mc, .sl idxT ix, .i l1, .i l2, .i l3, .i l4, .i l5, .i l6, .sl lvT ks, .b st, .b sp, .sl (.sl (.sl .u8)) rb, .i ru, .i vc, .b sf, .i dr, .sl sesT ss, .sl objT ob, .sl .i64 rl, .sl .i64 wl], .agg [.i c, .sl .i64 (h :: hs), .sl authT az, .sl .i64 [k, a, t], .sl (.sl .u8) [o, u, d]]] []) = some (.ret (.tup [.agg [.sl (.sl .u8) sd, .sl (.sl .u8) au, .sl .u8 en, .i ac, .i re, .i rs, .i ck, .b od, .sl (.sl (.sl .u8)) sb, .i su, .i mc, .sl idxT ix, .i l1, .i l2, .i l3, .i l4, .i l5, .i l6, .sl lvT ks, .b st, .b sp, .sl (.sl (.sl .u8)) rb, .i ru, .i vc, .b sf, .i dr, .sl sesT ss, .sl objT ((primR sd ob h k a t o u d).1), .sl .i64 rl, .sl .i64 wl], .agg (ansX (primR sd ob h k a t o u d).2)]) []) := by
  unfold primR
  by_cases hc : 0 ≤ h ∧ h < sd.length
  · rw [if_pos hc]
    have hg : lget sd h = some (sd.getD h.toNat []) := by rw [lget_i (by omega)]; simp [List.getD, List.getElem?_eq_getElem (show h.toNat < sd.length by omega)]
    have hm : (sd.getD h.toNat []).length ≤ 1000 := by
      have := hsl (sd[h.toNat]'(by omega)) (List.getElem_mem _)
      simpa [List.getD, List.getElem?_eq_getElem (show h.toNat < sd.length by omega)] using this
    unfold primS
    generalize sd.getD h.toNat [] = seed at *
    have hlen := make_len (secret := derB seed primL (frameB 0 [[iu8 k, iu8 a, iu8 t], o, d]) 32) (auth := u) (data := d) (p := ⟨k, a, t, o, []⟩)
    have hdl := derB_len (key := seed) (label := primL) (ctx := frameB 0 [[iu8 k, iu8 a, iu8 t], o, d]) (n := 32) (by omega)
    have em := ev_wmake (derB seed primL (frameB 0 [[iu8 k, iu8 a, iu8 t], o, d]) 32) k a t o [] u d (by omega)
    generalize makeP (derB seed primL (frameB 0 [[iu8 k, iu8 a, iu8 t], o, d]) 32) ⟨k, a, t, o, []⟩ u d = M at *
    obtain ⟨⟨qk, qa, qt, qo, qu⟩, ⟨qx, qy, qz⟩, e⟩ := M
    dsimp only [pubX, senX] at *
    by_cases he : e = 0
    · subst he
      rw [if_neg (by simp)]
      unfold putO
      by_cases hf : freeAt ob < ob.length
      · rw [if_pos hf]
        rw [Y_go]; conv => lhs; whnf
        dsimp -iota -beta -eta -zeta only
        rw [toReq_call]
        rw [ev_ofirst _ _ _ _ _ _ (by omega)]
        conv => lhs; whnf
        rw [ilt_f (by omega)]
        conv => lhs; whnf
        rw [ile_f (by (simp only [sha256_len, fr1_len, fr2_len, fr3_len, nameB_l32, wkey_32, uintB_l2, uintB_l1, blobB_l, bankJ_len, LL] at * <;> omega))]
        conv => lhs; whnf
        dsimp -iota -beta -eta -zeta only
        rw [toReq_call]
        rw [ev_otempl _ _ _ _ _ _ _ _ (by (simp only [sha256_len, fr1_len, fr2_len, fr3_len, nameB_l32, wkey_32, uintB_l2, uintB_l1, blobB_l, bankJ_len, LL] at * <;> omega))]
        conv => lhs; whnf
        dsimp -iota -beta -eta -zeta only
        rw [toReq_call]
        rw [ev_oblob2 _ _ _ _ _ _ _ _ (by (simp only [sha256_len, fr1_len, fr2_len, fr3_len, nameB_l32, wkey_32, uintB_l2, uintB_l1, blobB_l, bankJ_len, LL] at * <;> omega))]
        conv => lhs; whnf
        dsimp -iota -beta -eta -zeta only
        rw [toReq_call]
        rw [ev_dig_frame _ _ (by (simp only [sha256_len, fr1_len, fr2_len, fr3_len, nameB_l32, wkey_32, uintB_l2, uintB_l1, blobB_l, bankJ_len, LL] at * <;> omega)) (by (simp only [sha256_len, fr1_len, fr2_len, fr3_len, nameB_l32, wkey_32, uintB_l2, uintB_l1, blobB_l, bankJ_len, LL] at * <;> omega))]
        conv => lhs; whnf
        rw [hg]; conv => lhs; whnf
        dsimp -iota -beta -eta -zeta only
        rw [toReq_call]
        rw [show strOf { data := #[112, 114, 105, 109, 97, 114, 121] } = primL from rfl, ev_derive _ _ _ _ (by omega) (by decide) (by simp only [LL, fr3_len]; omega)]
        conv => lhs; whnf
        dsimp -iota -beta -eta -zeta only
        rw [toReq_call]
        rw [ev_oblob1 _ _ _ _ _ _ _ (by (simp only [sha256_len, fr1_len, fr2_len, fr3_len, nameB_l32, wkey_32, uintB_l2, uintB_l1, blobB_l, bankJ_len, LL] at * <;> omega))]
        conv => lhs; whnf
        dsimp -iota -beta -eta -zeta only
        rw [toReq_call]
        rw [em]
        conv => lhs; whnf
        dsimp -iota -beta -eta -zeta only
        rw [drw (by kernel_rfl)]; conv => lhs; whnf
        rw [ine_f (by omega)]
        conv => lhs; whnf
        dsimp -iota -beta -eta -zeta only
        rw [toReq_call]
        rw [ev_oload _ _ _ _ _ _ _ _ _ _ _ _ _ _ _ _ _ _ _ _ _ _ _ _ _ _ _ _ _ _ _ _ _ _ _ _ _ _ _ hl, if_pos hf]
        conv => lhs; whnf
        rw [Y_go]; conv => lhs; whnf
        rw [ine_f (by omega)]
        conv => lhs; whnf
        dsimp -iota -beta -eta -zeta only
        rw [toReq_call]
        rw [ev_aenc _ _ _ _ _ (by omega) (by omega)]
        conv => lhs; whnf
        dsimp -iota -beta -eta -zeta only
        rw [toReq_call]
        rw [ev_aname _ _ _ _ _ (by omega) (by omega)]
        conv => lhs; whnf
        dsimp -iota -beta -eta -zeta only
        rw [drw (by kernel_rfl)]; conv => lhs; whnf
      · rw [if_neg hf]
        rw [Y_go]; conv => lhs; whnf
        dsimp -iota -beta -eta -zeta only
        rw [toReq_call]
        rw [ev_ofirst _ _ _ _ _ _ (by omega)]
        conv => lhs; whnf
        rw [ilt_f (by omega)]
        conv => lhs; whnf
        rw [ile_f (by (simp only [sha256_len, fr1_len, fr2_len, fr3_len, nameB_l32, wkey_32, uintB_l2, uintB_l1, blobB_l, bankJ_len, LL] at * <;> omega))]
        conv => lhs; whnf
        dsimp -iota -beta -eta -zeta only
        rw [toReq_call]
        rw [ev_otempl _ _ _ _ _ _ _ _ (by (simp only [sha256_len, fr1_len, fr2_len, fr3_len, nameB_l32, wkey_32, uintB_l2, uintB_l1, blobB_l, bankJ_len, LL] at * <;> omega))]
        conv => lhs; whnf
        dsimp -iota -beta -eta -zeta only
        rw [toReq_call]
        rw [ev_oblob2 _ _ _ _ _ _ _ _ (by (simp only [sha256_len, fr1_len, fr2_len, fr3_len, nameB_l32, wkey_32, uintB_l2, uintB_l1, blobB_l, bankJ_len, LL] at * <;> omega))]
        conv => lhs; whnf
        dsimp -iota -beta -eta -zeta only
        rw [toReq_call]
        rw [ev_dig_frame _ _ (by (simp only [sha256_len, fr1_len, fr2_len, fr3_len, nameB_l32, wkey_32, uintB_l2, uintB_l1, blobB_l, bankJ_len, LL] at * <;> omega)) (by (simp only [sha256_len, fr1_len, fr2_len, fr3_len, nameB_l32, wkey_32, uintB_l2, uintB_l1, blobB_l, bankJ_len, LL] at * <;> omega))]
        conv => lhs; whnf
        rw [hg]; conv => lhs; whnf
        dsimp -iota -beta -eta -zeta only
        rw [toReq_call]
        rw [show strOf { data := #[112, 114, 105, 109, 97, 114, 121] } = primL from rfl, ev_derive _ _ _ _ (by omega) (by decide) (by simp only [LL, fr3_len]; omega)]
        conv => lhs; whnf
        dsimp -iota -beta -eta -zeta only
        rw [toReq_call]
        rw [ev_oblob1 _ _ _ _ _ _ _ (by (simp only [sha256_len, fr1_len, fr2_len, fr3_len, nameB_l32, wkey_32, uintB_l2, uintB_l1, blobB_l, bankJ_len, LL] at * <;> omega))]
        conv => lhs; whnf
        dsimp -iota -beta -eta -zeta only
        rw [toReq_call]
        rw [em]
        conv => lhs; whnf
        dsimp -iota -beta -eta -zeta only
        rw [drw (by kernel_rfl)]; conv => lhs; whnf
        rw [ine_f (by omega)]
        conv => lhs; whnf
        dsimp -iota -beta -eta -zeta only
        rw [toReq_call]
        rw [ev_oload _ _ _ _ _ _ _ _ _ _ _ _ _ _ _ _ _ _ _ _ _ _ _ _ _ _ _ _ _ _ _ _ _ _ _ _ _ _ _ hl, if_neg hf]
        conv => lhs; whnf
        rw [Y_go]; conv => lhs; whnf
        rw [ine_t (by omega)]
        conv => lhs; whnf
        dsimp -iota -beta -eta -zeta only
        rw [toReq_call]
        rw [ev_ofail _ _ _ _ _ _ _ _ _ _ _ _ _ _ _ _ _ _ _ _ _ _ _ _ _ _ _ _ _ _ _]
        conv => lhs; whnf
    · rw [if_pos he]
      rw [Y_go]; conv => lhs; whnf
      dsimp -iota -beta -eta -zeta only
      rw [toReq_call]
      rw [ev_ofirst _ _ _ _ _ _ (by omega)]
      conv => lhs; whnf
      rw [ilt_f (by omega)]
      conv => lhs; whnf
      rw [ile_f (by (simp only [sha256_len, fr1_len, fr2_len, fr3_len, nameB_l32, wkey_32, uintB_l2, uintB_l1, blobB_l, bankJ_len, LL] at * <;> omega))]
      conv => lhs; whnf
      dsimp -iota -beta -eta -zeta only
      rw [toReq_call]
      rw [ev_otempl _ _ _ _ _ _ _ _ (by (simp only [sha256_len, fr1_len, fr2_len, fr3_len, nameB_l32, wkey_32, uintB_l2, uintB_l1, blobB_l, bankJ_len, LL] at * <;> omega))]
      conv => lhs; whnf
      dsimp -iota -beta -eta -zeta only
      rw [toReq_call]
      rw [ev_oblob2 _ _ _ _ _ _ _ _ (by (simp only [sha256_len, fr1_len, fr2_len, fr3_len, nameB_l32, wkey_32, uintB_l2, uintB_l1, blobB_l, bankJ_len, LL] at * <;> omega))]
      conv => lhs; whnf
      dsimp -iota -beta -eta -zeta only
      rw [toReq_call]
      rw [ev_dig_frame _ _ (by (simp only [sha256_len, fr1_len, fr2_len, fr3_len, nameB_l32, wkey_32, uintB_l2, uintB_l1, blobB_l, bankJ_len, LL] at * <;> omega)) (by (simp only [sha256_len, fr1_len, fr2_len, fr3_len, nameB_l32, wkey_32, uintB_l2, uintB_l1, blobB_l, bankJ_len, LL] at * <;> omega))]
      conv => lhs; whnf
      rw [hg]; conv => lhs; whnf
      dsimp -iota -beta -eta -zeta only
      rw [toReq_call]
      rw [show strOf { data := #[112, 114, 105, 109, 97, 114, 121] } = primL from rfl, ev_derive _ _ _ _ (by omega) (by decide) (by simp only [LL, fr3_len]; omega)]
      conv => lhs; whnf
      dsimp -iota -beta -eta -zeta only
      rw [toReq_call]
      rw [ev_oblob1 _ _ _ _ _ _ _ (by (simp only [sha256_len, fr1_len, fr2_len, fr3_len, nameB_l32, wkey_32, uintB_l2, uintB_l1, blobB_l, bankJ_len, LL] at * <;> omega))]
      conv => lhs; whnf
      dsimp -iota -beta -eta -zeta only
      rw [toReq_call]
      rw [em]
      conv => lhs; whnf
      dsimp -iota -beta -eta -zeta only
      rw [drw (by kernel_rfl)]; conv => lhs; whnf
      rw [ine_t (by omega)]
      conv => lhs; whnf
      dsimp -iota -beta -eta -zeta only
      rw [toReq_call]
      rw [ev_ofail _ _ _ _ _ _ _ _ _ _ _ _ _ _ _ _ _ _ _ _ _ _ _ _ _ _ _ _ _ _ _]
      conv => lhs; whnf
  · rw [if_neg hc]
    rw [Y_go]; conv => lhs; whnf
    dsimp -iota -beta -eta -zeta only
    rw [toReq_call]
    rw [ev_ofirst _ _ _ _ _ _ (by omega)]
    conv => lhs; whnf
    rcases Bool.eq_false_or_eq_true (ilt h 0) with hc0 | hc0
    · rw [hc0]; replace hc0 := of_ilt_t hc0; try simp only [llen_eq] at hc0
      conv => lhs; whnf
      dsimp -iota -beta -eta -zeta only
      rw [toReq_call]
      rw [ev_ofail _ _ _ _ _ _ _ _ _ _ _ _ _ _ _ _ _ _ _ _ _ _ _ _ _ _ _ _ _ _ _]
      conv => lhs; whnf
    · rw [hc0]; replace hc0 := of_ilt_f hc0; try simp only [llen_eq] at hc0
      conv => lhs; whnf
      rw [ile_t (by (simp only [sha256_len, fr1_len, fr2_len, fr3_len, nameB_l32, wkey_32, uintB_l2, uintB_l1, blobB_l, bankJ_len, LL] at * <;> omega))]
      conv => lhs; whnf
      dsimp -iota -beta -eta -zeta only
      rw [toReq_call]
      rw [ev_ofail _ _ _ _ _ _ _ _ _ _ _ _ _ _ _ _ _ _ _ _ _ _ _ _ _ _ _ _ _ _ _]
      conv => lhs; whnf
end Go.Proofs.YtfjcmolccckhhaaGreatDoor

namespace Go.Proofs.YtfjcmolccckhhaaGreatDoor
open Go Go.Ax Go.Eng
set_option linter.unusedVariables false
set_option linter.unusedSimpArgs false
attribute [local irreducible] iadd isub imul iquo irem ibit ineg ieq ine ilt ile ishl ishr beq' bnot and' seq' u8op u8rem u32op u64op u8shr u8shl u64shr u64shl u32shr u32shl i64w u8i u64i iu8 iu32 iu64 u8u64 u64u8 u32u8 u64cmp u8cmp u32cmp llen lget linb lset lcut lrep lapp lcpy lemp fits fitn ieqs sealed drawChk fpSame
attribute [local irreducible] derB seedB makeP nameB encP uniB frameB primS primR
set_option maxHeartbeats 4000000
set_option maxRecDepth 100000
theorem ev_rrefuse (sd au : List (List UInt8)) (en : List UInt8) (ac re rs ck : Int) (od : Bool) (sb : List (List (List UInt8))) (su mc : Int) (ix : List (El idxT)) (l1 l2 l3 l4 l5 l6 : Int) (ks : List (El lvT)) (st sp : Bool) (rb : List (List (List UInt8))) (ru vc : Int) (sf : Bool) (dr : Int) (ss : List (El sesT)) (ob : List (El objT)) (rl wl : List Int) (e : Int) : Y E0 (.call 54 [.agg [.sl (.sl .u8) sd, .sl (.sl .u8) au, .sl .u8 en, .i ac, .i re, .i rs, .i ck, .b od, .sl (.sl (.sl .u8)) sb, .i su, .i mc, .sl idxT ix, .i l1, .i l2, .i l3, .i l4, .i l5, .i l6, .sl lvT ks, .b st, .b sp, .sl (.sl (.sl .u8)) rb, .i ru, .i vc, .b sf, .i dr, .sl sesT ss, .sl objT ob, .sl .i64 rl, .sl .i64 wl], .i e] []) = some (.ret (.tup [.agg [.sl (.sl .u8) sd, .sl (.sl .u8) au, .sl .u8 en, .i ac, .i re, .i rs, .i ck, .b od, .sl (.sl (.sl .u8)) sb, .i su, .i mc, .sl idxT ix, .i l1, .i l2, .i l3, .i l4, .i l5, .i l6, .sl lvT ks, .b st, .b sp, .sl (.sl (.sl .u8)) rb, .i ru, .i vc, .b sf, .i dr, .sl sesT ss, .sl objT ob, .sl .i64 rl, .sl .i64 wl], .agg [.i e, .sl .i64 [], .sl (.sl .u8) [], .sl (.sl .u8) []]]) []) := by
  rw [Y_go]; conv => lhs; whnf
theorem ev_rtempl (c k a t : Int) (hs : List Int) (az : List (El authT)) (o : List UInt8) (bs : List (List UInt8)) (hl : bs.length ≤ 1000) : Y E0 (.call 50 [.agg [.i c, .sl .i64 hs, .sl authT az, .sl .i64 [k, a, t], .sl (.sl .u8) (o :: bs)]] []) = some (.ret (.agg [.i k, .i a, .i t, .sl .u8 o, .sl .u8 []]) []) := by
  rw [Y_go]; conv => lhs; whnf
  rw [lg0]; conv => lhs; whnf
  rw [lg1]; conv => lhs; whnf
  rw [lg2]; conv => lhs; whnf
  rw [lg0]; conv => lhs; whnf
  dsimp -iota -beta -eta -zeta only
  rw [drw (by kernel_rfl)]; conv => lhs; whnf
theorem ev_rprim (sd au : List (List UInt8)) (en : List UInt8) (ac re rs ck : Int) (od : Bool) (sb : List (List (List UInt8))) (su mc : Int) (ix : List (El idxT)) (l1 l2 l3 l4 l5 l6 : Int) (ks : List (El lvT)) (st sp : Bool) (rb : List (List (List UInt8))) (ru vc : Int) (sf : Bool) (dr : Int) (ss : List (El sesT)) (ob : List (El objT)) (rl wl : List Int) (c h k a t : Int) (hs : List Int) (az : List (El authT)) (o u d : List UInt8) (hl : ob.length ≤ 1000) (hsd : sd.length ≤ 1000) (hsl : ∀ l ∈ sd, l.length ≤ 1000) (hhs : hs.length ≤ 100) (ho : o.length ≤ 50000) (hd : d.length ≤ 50000) (hc : 0 ≤ h ∧ h < sd.length) :
    Y E0 (.call 17 [.agg [.sl (.sl .u8) sd, .sl (.sl .u8) au, .sl .u8 en, .i ac, .i re, .i rs, .i ck, .b od, .sl (.sl (.sl .u8)) sb, .i su, .i mc, .sl idxT ix, .i l1, .i l2, .i l3, .i l4, .i l5, .i l6, .sl lvT ks, .b st, .b sp, .sl (.sl (.sl .u8)) rb, .i ru, .i vc, .b sf, .i dr, .sl sesT ss, .sl objT ob, .sl .i64 rl, .sl .i64 wl], .agg [.i c, .sl .i64 (h :: hs), .sl authT az, .sl .i64 [k, a, t], .sl (.sl .u8) [o, u, d]]] []) = some (.ret (.tup [.agg [.sl (.sl .u8) sd, .sl (.sl .u8) au, .sl .u8 en, .i ac, .i re, .i rs, .i ck, .b od, .sl (.sl (.sl .u8)) sb, .i su, .i mc, .sl idxT ix, .i l1, .i l2, .i l3, .i l4, .i l5, .i l6, .sl lvT ks, .b st, .b sp, .sl (.sl (.sl .u8)) rb, .i ru, .i vc, .b sf, .i dr, .sl sesT ss, .sl objT ((primR sd ob h k a t o u d).1), .sl .i64 rl, .sl .i64 wl], .agg (ansX (primR sd ob h k a t o u d).2)]) []) := by
  unfold primR
  rw [if_pos hc]
  have hg : lget sd h = some (sd.getD h.toNat []) := by rw [lget_i (by omega)]; simp [List.getD, List.getElem?_eq_getElem (show h.toNat < sd.length by omega)]
  have hm : (sd.getD h.toNat []).length ≤ 1000 := by
    have := hsl (sd[h.toNat]'(by omega)) (List.getElem_mem _)
    simpa [List.getD, List.getElem?_eq_getElem (show h.toNat < sd.length by omega)] using this
  unfold primS
  generalize sd.getD h.toNat [] = seed at *
  have hlen := make_len (secret := derB seed primL (frameB 0 [[iu8 k, iu8 a, iu8 t], o, d]) 32) (auth := u) (data := d) (p := ⟨k, a, t, o, []⟩)
  have hdl := derB_len (key := seed) (label := primL) (ctx := frameB 0 [[iu8 k, iu8 a, iu8 t], o, d]) (n := 32) (by omega)
  have em := ev_r11make (derB seed primL (frameB 0 [[iu8 k, iu8 a, iu8 t], o, d]) 32) k a t o [] u d (by omega)
  generalize makeP (derB seed primL (frameB 0 [[iu8 k, iu8 a, iu8 t], o, d]) 32) ⟨k, a, t, o, []⟩ u d = M at *
  obtain ⟨⟨qk, qa, qt, qo, qu⟩, ⟨qx, qy, qz⟩, e⟩ := M
  dsimp only [pubX, senX] at *
  by_cases he : e = 0
  · subst he
    rw [if_neg (by simp)]
    unfold putO
    have hfl := freeAt_le ob
    by_cases hf : freeAt ob < ob.length
    · rw [if_pos hf]
      rw [Y_go]; conv => lhs; whnf
      dsimp -iota -beta -eta -zeta only
      rw [toReq_call]
      rw [ev_rtempl _ _ _ _ _ _ _ _ (by (simp only [sha256_len, fr1_len, fr2_len, fr3_len, nameB_l32, wkey_32, uintB_l2, uintB_l1, blobB_l, bankJ_len, LL] at * <;> omega))]
      conv => lhs; whnf
      rw [lg2]; conv => lhs; whnf
      dsimp -iota -beta -eta -zeta only
      rw [toReq_call]
      rw [ev_ref_frame _ _ (by (simp only [sha256_len, fr1_len, fr2_len, fr3_len, nameB_l32, wkey_32, uintB_l2, uintB_l1, blobB_l, bankJ_len, LL] at * <;> omega)) (by (simp only [sha256_len, fr1_len, fr2_len, fr3_len, nameB_l32, wkey_32, uintB_l2, uintB_l1, blobB_l, bankJ_len, LL] at * <;> omega))]
      conv => lhs; whnf
      dsimp -iota -beta -eta -zeta only
      rw [drw (by kernel_rfl)]; conv => lhs; whnf
      rw [lg0]; conv => lhs; whnf
      rw [hg]; conv => lhs; whnf
      dsimp -iota -beta -eta -zeta only
      rw [toReq_call]
      rw [show strOf { data := #[112, 114, 105, 109, 97, 114, 121] } = primL from rfl, ev_rderive _ _ _ _ (by omega) (by decide) (by simp only [LL, fr3_len]; omega)]
      conv => lhs; whnf
      dsimp -iota -beta -eta -zeta only
      rw [lg1]; conv => lhs; whnf
      rw [lg2]; conv => lhs; whnf
      dsimp -iota -beta -eta -zeta only
      rw [toReq_call]
      rw [em]
      conv => lhs; whnf
      dsimp -iota -beta -eta -zeta only
      rw [drw (by kernel_rfl)]; conv => lhs; whnf
      rw [ine_f (by omega)]
      conv => lhs; whnf
      dsimp -iota -beta -eta -zeta only
      rw [toReq_call]
      rw [ev_rfree _ _ _ _ _ _ _ _ _ _ _ _ _ _ _ _ _ _ _ _ _ _ _ _ _ _ _ _ _ _ hl, if_pos hf]
      conv => lhs; whnf
      rw [ilt_f (by omega)]
      conv => lhs; whnf
      dsimp -iota -beta -eta -zeta only
      rw [lg0]; conv => lhs; whnf
      dsimp -iota -beta -eta -zeta only
      rw [toReq_call]
      rw [ev_rput _ _ _ _ _ _ _ _ _ _ _ _ _ _ _ _ _ _ _ _ _ _ _ _ _ _ _ _ _ _ _ _ _ _ _ _ _ _ _ _ (by omega) (by omega)]
      conv => lhs; whnf
      dsimp -iota -beta -eta -zeta only
      rw [drw (by kernel_rfl)]; conv => lhs; whnf
      dsimp -iota -beta -eta -zeta only
      rw [toReq_call]
      rw [ev_r10enc _ _ _ _ _ (by omega) (by omega)]
      conv => lhs; whnf
      dsimp -iota -beta -eta -zeta only
      rw [toReq_call]
      rw [ev_r10name _ _ _ _ _ (by omega) (by omega)]
      conv => lhs; whnf
      dsimp -iota -beta -eta -zeta only
      rw [iadd_eq (by omega)]
      rw [drw (by kernel_rfl)]; conv => lhs; whnf
      dsimp -iota -beta -eta -zeta only
      rfl
    · rw [if_neg hf]
      rw [Y_go]; conv => lhs; whnf
      dsimp -iota -beta -eta -zeta only
      rw [toReq_call]
      rw [ev_rtempl _ _ _ _ _ _ _ _ (by (simp only [sha256_len, fr1_len, fr2_len, fr3_len, nameB_l32, wkey_32, uintB_l2, uintB_l1, blobB_l, bankJ_len, LL] at * <;> omega))]
      conv => lhs; whnf
      rw [lg2]; conv => lhs; whnf
      dsimp -iota -beta -eta -zeta only
      rw [toReq_call]
      rw [ev_ref_frame _ _ (by (simp only [sha256_len, fr1_len, fr2_len, fr3_len, nameB_l32, wkey_32, uintB_l2, uintB_l1, blobB_l, bankJ_len, LL] at * <;> omega)) (by (simp only [sha256_len, fr1_len, fr2_len, fr3_len, nameB_l32, wkey_32, uintB_l2, uintB_l1, blobB_l, bankJ_len, LL] at * <;> omega))]
      conv => lhs; whnf
      dsimp -iota -beta -eta -zeta only
      rw [drw (by kernel_rfl)]; conv => lhs; whnf
      rw [lg0]; conv => lhs; whnf
      rw [hg]; conv => lhs; whnf
      dsimp -iota -beta -eta -zeta only
      rw [toReq_call]
      rw [show strOf { data := #[112, 114, 105, 109, 97, 114, 121] } = primL from rfl, ev_rderive _ _ _ _ (by omega) (by decide) (by simp only [LL, fr3_len]; omega)]
      conv => lhs; whnf
      dsimp -iota -beta -eta -zeta only
      rw [lg1]; conv => lhs; whnf
      rw [lg2]; conv => lhs; whnf
      dsimp -iota -beta -eta -zeta only
      rw [toReq_call]
      rw [em]
      conv => lhs; whnf
      dsimp -iota -beta -eta -zeta only
      rw [drw (by kernel_rfl)]; conv => lhs; whnf
      rw [ine_f (by omega)]
      conv => lhs; whnf
      dsimp -iota -beta -eta -zeta only
      rw [toReq_call]
      rw [ev_rfree _ _ _ _ _ _ _ _ _ _ _ _ _ _ _ _ _ _ _ _ _ _ _ _ _ _ _ _ _ _ hl, if_neg hf]
      conv => lhs; whnf
      rw [ilt_t (by omega)]
      conv => lhs; whnf
      dsimp -iota -beta -eta -zeta only
      rw [toReq_call]
      rw [ev_rrefuse _ _ _ _ _ _ _ _ _ _ _ _ _ _ _ _ _ _ _ _ _ _ _ _ _ _ _ _ _ _ _]
      conv => lhs; whnf
  · rw [if_pos he]
    rw [Y_go]; conv => lhs; whnf
    dsimp -iota -beta -eta -zeta only
    rw [toReq_call]
    rw [ev_rtempl _ _ _ _ _ _ _ _ (by (simp only [sha256_len, fr1_len, fr2_len, fr3_len, nameB_l32, wkey_32, uintB_l2, uintB_l1, blobB_l, bankJ_len, LL] at * <;> omega))]
    conv => lhs; whnf
    rw [lg2]; conv => lhs; whnf
    dsimp -iota -beta -eta -zeta only
    rw [toReq_call]
    rw [ev_ref_frame _ _ (by (simp only [sha256_len, fr1_len, fr2_len, fr3_len, nameB_l32, wkey_32, uintB_l2, uintB_l1, blobB_l, bankJ_len, LL] at * <;> omega)) (by (simp only [sha256_len, fr1_len, fr2_len, fr3_len, nameB_l32, wkey_32, uintB_l2, uintB_l1, blobB_l, bankJ_len, LL] at * <;> omega))]
    conv => lhs; whnf
    dsimp -iota -beta -eta -zeta only
    rw [drw (by kernel_rfl)]; conv => lhs; whnf
    rw [lg0]; conv => lhs; whnf
    rw [hg]; conv => lhs; whnf
    dsimp -iota -beta -eta -zeta only
    rw [toReq_call]
    rw [show strOf { data := #[112, 114, 105, 109, 97, 114, 121] } = primL from rfl, ev_rderive _ _ _ _ (by omega) (by decide) (by simp only [LL, fr3_len]; omega)]
    conv => lhs; whnf
    dsimp -iota -beta -eta -zeta only
    rw [lg1]; conv => lhs; whnf
    rw [lg2]; conv => lhs; whnf
    dsimp -iota -beta -eta -zeta only
    rw [toReq_call]
    rw [em]
    conv => lhs; whnf
    dsimp -iota -beta -eta -zeta only
    rw [drw (by kernel_rfl)]; conv => lhs; whnf
    rw [ine_t (by omega)]
    conv => lhs; whnf
    dsimp -iota -beta -eta -zeta only
    rw [toReq_call]
    rw [ev_rrefuse _ _ _ _ _ _ _ _ _ _ _ _ _ _ _ _ _ _ _ _ _ _ _ _ _ _ _ _ _ _ _]
    conv => lhs; whnf
theorem ev_ounseal_t (sd au : List (List UInt8)) (en : List UInt8) (ac re rs ck : Int) (od : Bool) (sb : List (List (List UInt8))) (su mc : Int) (ix : List (El idxT)) (l1 l2 l3 l4 l5 l6 : Int) (ks : List (El lvT)) (st sp : Bool) (rb : List (List (List UInt8))) (ru vc : Int) (sf : Bool) (dr : Int) (ss : List (El sesT)) (ob : List (El objT)) (rl wl : List Int) (c h : Int) (hs : List Int) (az : List (El authT)) (is : List Int) (bs : List (List UInt8)) (p1 p2 p3 : Int) (p4 p5 s1 s2 s3 : List UInt8) (hr : Int) (hl : ob.length ≤ 1000) (hhs : hs.length ≤ 100) (hx : slotAt ob h = some ((p1, p2, p3, p4, p5), (s1, s2, s3), hr)) (h3 : p1 = 3) :
    Y E0 (.call 31 [.agg [.sl (.sl .u8) sd, .sl (.sl .u8) au, .sl .u8 en, .i ac, .i re, .i rs, .i ck, .b od, .sl (.sl (.sl .u8)) sb, .i su, .i mc, .sl idxT ix, .i l1, .i l2, .i l3, .i l4, .i l5, .i l6, .sl lvT ks, .b st, .b sp, .sl (.sl (.sl .u8)) rb, .i ru, .i vc, .b sf, .i dr, .sl sesT ss, .sl objT ob, .sl .i64 rl, .sl .i64 wl], .agg [.i c, .sl .i64 (h :: hs), .sl authT az, .sl .i64 is, .sl (.sl .u8) bs]] []) = some (.ret (.tup [.agg [.sl (.sl .u8) sd, .sl (.sl .u8) au, .sl .u8 en, .i ac, .i re, .i rs, .i ck, .b od, .sl (.sl (.sl .u8)) sb, .i su, .i mc, .sl idxT ix, .i l1, .i l2, .i l3, .i l4, .i l5, .i l6, .sl lvT ks, .b st, .b sp, .sl (.sl (.sl .u8)) rb, .i ru, .i vc, .b sf, .i dr, .sl sesT ss, .sl objT ob, .sl .i64 rl, .sl .i64 wl], .agg [.i 0, .sl .i64 [], .sl (.sl .u8) [s3], .sl (.sl .u8) []]]) []) := by
  rw [Y_go]; conv => lhs; whnf
  dsimp -iota -beta -eta -zeta only
  rw [toReq_call]
  rw [ev_ofirst _ _ _ _ _ _ (by omega)]
  conv => lhs; whnf
  dsimp -iota -beta -eta -zeta only
  rw [toReq_call]
  rw [ev_eobj_t _ _ _ _ _ _ _ _ _ _ _ _ _ _ _ _ _ _ _ _ _ _ _ _ _ _ _ _ _ _ _ _ _ _ _ _ _ _ _ _ hl hx]
  conv => lhs; whnf
  dsimp -iota -beta -eta -zeta only
  rw [drw (by kernel_rfl)]; conv => lhs; whnf
  rw [ine_f (by omega)]
  conv => lhs; whnf
  rw [ine_f (by omega)]
  conv => lhs; whnf
  dsimp -iota -beta -eta -zeta only
  rw [drw (by kernel_rfl)]; conv => lhs; whnf
theorem ev_awake21 : Y E0 (.call 10 [] []) = some (.ret (.b true) []) := by
  obtain ⟨S, -, hS, hp⟩ := prim_ex (sd := seedsE ent0) (ob := List.replicate 3 obj0) (h := 0) (k := 3) (a := 1) (t := 0) (o := []) (auth := []) (d := [UInt8.ofNat 5]) (by decide) (by decide) (by decide) (by simp) (by simp) (fun _ => rfl)
  rw [show freeAt (List.replicate 3 obj0) = 0 from rfl] at hp
  generalize encP ⟨3, 1, 0, [], uniB 3 0 ⟨[], S, [UInt8.ofNat 5]⟩⟩ = B1 at hp
  generalize nameB ⟨3, 1, 0, [], uniB 3 0 ⟨[], S, [UInt8.ofNat 5]⟩⟩ = B2 at hp
  generalize uniB 3 0 ⟨[], S, [UInt8.ofNat 5]⟩ = U at hp
  have hx : slotAt ((List.replicate 3 obj0).set 0 ((3, 1, 0, [], U), ([], S, [UInt8.ofNat 5]), 0)) 512 = some ((3, 1, 0, [], U), ([], S, [UInt8.ofNat 5]), 0) := rfl
  have hl3 : ((List.replicate 3 obj0).set 0 ((3, 1, 0, [], U), ([], S, [UInt8.ofNat 5]), 0)).length = 3 := by simp
  rw [Y_go]; conv => lhs; whnf
  dsimp -iota -beta -eta -zeta only
  rw [toReq_call]
  rw [ev_state0]
  conv => lhs; whnf
  dsimp -iota -beta -eta -zeta only
  rw [toReq_call]
  rw [ev_p21 _ _ _ _ _ _ _]
  conv => lhs; whnf
  dsimp -iota -beta -eta -zeta only
  rw [toReq_call]
  rw [ev_oprim _ _ _ _ _ _ _ _ _ _ _ _ _ _ _ _ _ _ _ _ _ _ _ _ _ _ _ _ _ _ _ _ _ _ _ _ _ _ _ _ (by simp) (by decide) (seedsE_le _) (by simp) (by simp) (by simp), hp]
  conv => lhs; whnf
  dsimp -iota -beta -eta -zeta only
  rw [ine_f (by omega)]
  conv => lhs; whnf
  rw [ine_f (by (simp only [sha256_len, fr1_len, fr2_len, fr3_len, nameB_l32, wkey_32, uintB_l2, uintB_l1, blobB_l, bankJ_len, LL] at * <;> omega))]
  conv => lhs; whnf
  rw [lg0]; conv => lhs; whnf
  rw [ine_f (by omega)]
  conv => lhs; whnf
  rw [ine_f (by rw [llen_eq, hl3]; rfl)]; conv => lhs; whnf
  rw [Y_go]; conv => lhs; whnf
  dsimp -iota -beta -eta -zeta only
  rw [toReq_call]
  rw [ev_on21 _ _ _ (by omega)]
  conv => lhs; whnf
  dsimp -iota -beta -eta -zeta only
  rw [toReq_call]
  rw [ev_ounseal_t _ _ _ _ _ _ _ _ _ _ _ _ _ _ _ _ _ _ _ _ _ _ _ _ _ _ _ _ _ _ _ _ _ _ _ _ _ _ _ _ _ _ _ _ _ (by omega) (by (simp only [sha256_len, fr1_len, fr2_len, fr3_len, nameB_l32, wkey_32, uintB_l2, uintB_l1, blobB_l, bankJ_len, LL] at * <;> omega)) (by assumption) (by omega)]
  conv => lhs; whnf
  dsimp -iota -beta -eta -zeta only
  rw [drw (by kernel_rfl)]; conv => lhs; whnf
  rw [ieq_t (by omega)]
  conv => lhs; whnf
  rw [ieq_t (by (simp only [sha256_len, fr1_len, fr2_len, fr3_len, nameB_l32, wkey_32, uintB_l2, uintB_l1, blobB_l, bankJ_len, LL] at * <;> omega))]
  conv => lhs; whnf
  rw [lg0]; conv => lhs; whnf
  rw [ieq_t (by (simp only [sha256_len, fr1_len, fr2_len, fr3_len, nameB_l32, wkey_32, uintB_l2, uintB_l1, blobB_l, bankJ_len, LL] at * <;> omega))]
  conv => lhs; whnf
  rw [lg0]; conv => lhs; whnf
  rw [lg0]; conv => lhs; whnf
  rw [Y_go]; conv => lhs; whnf
  rw [u8cmp_eql, ieq_t (by rfl)]
end Go.Proofs.YtfjcmolccckhhaaGreatDoor

namespace Go.Proofs.YtfjcmolccckhhaaGreatDoor
open Go Go.Ax Go.Eng
set_option linter.unusedVariables false
set_option linter.unusedSimpArgs false
attribute [local irreducible] iadd isub imul iquo irem ibit ineg ieq ine ilt ile ishl ishr beq' bnot and' seq' u8op u8rem u32op u64op u8shr u8shl u64shr u64shl u32shr u32shl i64w u8i u64i iu8 iu32 iu64 u8u64 u64u8 u32u8 u64cmp u8cmp u32cmp llen lget linb lset lcut lrep lapp lcpy lemp fits fitn ieqs sealed drawChk fpSame
attribute [local irreducible] derB seedB makeP nameB encP uniB frameB primS primR fewPub validP
set_option maxHeartbeats 4000000
set_option maxRecDepth 100000
theorem ev_ObjectSame (ac : Int) (codes : List UInt8) (h g k a t : Int) (o u auth data other : List UInt8) : Y E0 (.call 3 [.i ac, .sl .u8 codes, .i h, .i g, .agg [.i k, .i a, .i t, .sl .u8 o, .sl .u8 u], .sl .u8 auth, .sl .u8 data, .sl .u8 other] []) = some (.ret (.b true) []) := by
  have hfew := fun h => fewPub_t (p := ⟨k, a, t, o, u⟩) h
  have hpub := ev_pubP k a t o u
  have hc := validP_chk ⟨k, a, t, o, u⟩
  have hp := validP_policy ⟨k, a, t, o, u⟩
  generalize validP ⟨k, a, t, o, u⟩ = Q at *
  obtain ⟨qk, qa, qt, qo, qu⟩ := Q
  dsimp only [pubX] at *
  have hk := chk_sealed hc
  have e4 : ibit .andNot qa 4 = bits .andNot .i64 qa 4 := by rw [ibit_d]; rfl
  dsimp only at hk
  generalize bits .andNot .i64 qa 4 = A at *
  by_cases hg : auth.length ≤ 32 ∧ data.length ≤ 60 ∧ other.length ≤ 60
  · obtain ⟨g1, g2, g3⟩ := hg
    have r1 : 0 ≤ h % 3 ∧ h % 3 < (seedsE ent0).length := by rw [seedsE_len]; omega
    have r2 : 0 ≤ g % 3 ∧ g % 3 < (seedsE ent0).length := by rw [seedsE_len]; omega
    obtain ⟨Sx, hSx, -, hx⟩ := prim_ex (sd := seedsE ent0) (ob := List.replicate 3 obj0) (h := h % 3) (k := 3) (a := A) (t := 0) (o := qo) (auth := auth) (d := data) r1 (by decide) hk (by omega) (by omega) (fun _ => rfl)
    obtain ⟨S1, -, -, ht⟩ := prim_ex (sd := seedsE ent0) (ob := List.replicate 3 obj0) (h := 2) (k := 1) (a := 1) (t := 0) (o := []) (auth := []) (d := []) (by decide) (by decide) (by decide) (by simp) (by simp) (by simp)
    rw [show freeAt (List.replicate 3 obj0) = 0 from rfl] at hx ht
    generalize uniB 1 0 ⟨[], S1, []⟩ = U1 at ht
    obtain ⟨Sy, hSy, -, hy⟩ := prim_ex (sd := seedsE ent0) (ob := (List.replicate 3 obj0).set 0 ((1, 1, 0, [], U1), ([], S1, []), 2)) (h := h % 3) (k := 3) (a := A) (t := 0) (o := qo) (auth := []) (d := data) r1 (by show 1 < 3; decide) hk (by simp) (by omega) (fun _ => rfl)
    obtain ⟨Sz, hSz, -, hz⟩ := prim_ex (sd := seedsE ent0) (ob := (List.replicate 3 obj0).set 0 ((1, 1, 0, [], U1), ([], S1, []), 2)) (h := g % 3) (k := 3) (a := A) (t := 0) (o := qo) (auth := auth) (d := other) r2 (by show 1 < 3; decide) hk (by omega) (by omega) (fun _ => rfl)
    obtain ⟨Sw, hSw, -, hw⟩ := prim_ex (sd := seedsE ent0) (ob := List.replicate 3 obj0) (h := g % 3) (k := 3) (a := A) (t := 0) (o := qo) (auth := auth) (d := other) r2 (by decide) hk (by omega) (by omega) (fun _ => rfl)
    rw [show freeAt (List.replicate 3 obj0) = 0 from rfl] at hw
    rw [show freeAt ((List.replicate 3 obj0).set 0 ((1, 1, 0, [], U1), ([], S1, []), 2)) = 1 from rfl] at hy hz
    obtain rfl : Sy = Sx := hSy.trans hSx.symm
    obtain rfl : Sw = Sz := hSw.trans hSz.symm
    rw [uniB_auth (k := 3) (a := []) (a' := auth) (by decide)] at hy
    have q1 := uniB_le 3 0 ⟨auth, Sy, data⟩
    have q2 := uniB_le 3 0 ⟨auth, Sw, other⟩
    generalize uniB 3 0 ⟨auth, Sy, data⟩ = Ux at *
    generalize uniB 3 0 ⟨auth, Sw, other⟩ = Uz at *
    have l1 : (encP ⟨3, A, 0, qo, Ux⟩).length ≤ 100000 := by rw [encP_len (by simp only; omega) (by simp only; omega)]; simp only; omega
    have l2 : (encP ⟨3, A, 0, qo, Uz⟩).length ≤ 100000 := by rw [encP_len (by simp only; omega) (by simp only; omega)]; simp only; omega
    have n1 := nameB_l32 ⟨3, A, 0, qo, Ux⟩
    have n2 := nameB_l32 ⟨3, A, 0, qo, Uz⟩
    generalize encP ⟨3, A, 0, qo, Ux⟩ = E1 at *
    generalize encP ⟨3, A, 0, qo, Uz⟩ = E2 at *
    generalize nameB ⟨3, A, 0, qo, Ux⟩ = N1 at *
    generalize nameB ⟨3, A, 0, qo, Uz⟩ = N2 at *
    clear hSx hSy hSz hSw
    rw [Y_go]; conv => lhs; whnf
    dsimp -iota -beta -eta -zeta only
    rw [toReq_call]
    rw [ev_awake21]
    conv => lhs; whnf
    rw [bnot_eq]; conv => lhs; whnf
    rw [ilt_f (by (simp only [sha256_len, fr1_len, fr2_len, fr3_len, nameB_l32, wkey_32, uintB_l2, uintB_l1, blobB_l, bankJ_len, LL] at * <;> omega))]
    conv => lhs; whnf
    rw [ilt_f (by (simp only [sha256_len, fr1_len, fr2_len, fr3_len, nameB_l32, wkey_32, uintB_l2, uintB_l1, blobB_l, bankJ_len, LL] at * <;> omega))]
    conv => lhs; whnf
    rw [ilt_f (by (simp only [sha256_len, fr1_len, fr2_len, fr3_len, nameB_l32, wkey_32, uintB_l2, uintB_l1, blobB_l, bankJ_len, LL] at * <;> omega))]
    conv => lhs; whnf
    dsimp -iota -beta -eta -zeta only
    rw [toReq_call]
    rw [ev_fewp _ _ _ _ _]
    conv => lhs; whnf
    rw [bnot_eq]; conv => lhs; whnf
    rcases Bool.eq_false_or_eq_true (fewPub { kind := k, attr := a, height := t, policy := o, unique := u }) with hc0 | hc0
    · rw [hc0]
      conv => lhs; whnf
      dsimp -iota -beta -eta -zeta only
      rw [toReq_call]
      rw [hpub]
      conv => lhs; whnf
      dsimp -iota -beta -eta -zeta only
      rw [e4]
      rw [toReq_call]
      rw [ev_mod _ _ (by omega)]
      conv => lhs; whnf
      dsimp -iota -beta -eta -zeta only
      rw [toReq_call]
      rw [ev_mod _ _ (by omega)]
      conv => lhs; whnf
      dsimp -iota -beta -eta -zeta only
      rw [toReq_call]
      rw [ev_state0]
      conv => lhs; whnf
      dsimp -iota -beta -eta -zeta only
      rw [toReq_call]
      rw [ev_p21 _ _ _ _ _ _ _]
      conv => lhs; whnf
      dsimp -iota -beta -eta -zeta only
      rw [toReq_call]
      rw [ev_oprim _ _ _ _ _ _ _ _ _ _ _ _ _ _ _ _ _ _ _ _ _ _ _ _ _ _ _ _ _ _ _ _ _ _ _ _ _ _ _ _ (by simp) (by decide) (seedsE_le _) (by simp) (by first | omega | simp) (by first | omega | simp), hx]
      conv => lhs; whnf
      dsimp -iota -beta -eta -zeta only
      rw [Y_go]; conv => lhs; whnf
      dsimp -iota -beta -eta -zeta only
      rw [drw (by kernel_rfl)]; conv => lhs; whnf
      dsimp -iota -beta -eta -zeta only
      rw [toReq_call]
      rw [ev_p21 _ _ _ _ _ _ _]
      conv => lhs; whnf
      dsimp -iota -beta -eta -zeta only
      rw [toReq_call]
      rw [ev_oprim _ _ _ _ _ _ _ _ _ _ _ _ _ _ _ _ _ _ _ _ _ _ _ _ _ _ _ _ _ _ _ _ _ _ _ _ _ _ _ _ (by simp) (by decide) (seedsE_le _) (by simp) (by first | omega | simp) (by first | omega | simp), ht]
      conv => lhs; whnf
      dsimp -iota -beta -eta -zeta only
      rw [drw (by kernel_rfl)]; conv => lhs; whnf
      dsimp -iota -beta -eta -zeta only
      rw [toReq_call]
      rw [ev_p21 _ _ _ _ _ _ _]
      conv => lhs; whnf
      dsimp -iota -beta -eta -zeta only
      rw [toReq_call]
      rw [ev_oprim _ _ _ _ _ _ _ _ _ _ _ _ _ _ _ _ _ _ _ _ _ _ _ _ _ _ _ _ _ _ _ _ _ _ _ _ _ _ _ _ (by simp) (by decide) (seedsE_le _) (by simp) (by first | omega | simp) (by first | omega | simp), hy]
      conv => lhs; whnf
      dsimp -iota -beta -eta -zeta only
      rw [drw (by kernel_rfl)]; conv => lhs; whnf
      dsimp -iota -beta -eta -zeta only
      rw [toReq_call]
      rw [ev_p21 _ _ _ _ _ _ _]
      conv => lhs; whnf
      dsimp -iota -beta -eta -zeta only
      rw [toReq_call]
      rw [ev_oprim _ _ _ _ _ _ _ _ _ _ _ _ _ _ _ _ _ _ _ _ _ _ _ _ _ _ _ _ _ _ _ _ _ _ _ _ _ _ _ _ (by simp) (by decide) (seedsE_le _) (by simp) (by first | omega | simp) (by first | omega | simp), hz]
      conv => lhs; whnf
      dsimp -iota -beta -eta -zeta only
      rw [drw (by kernel_rfl)]; conv => lhs; whnf
      dsimp -iota -beta -eta -zeta only
      rw [toReq_call]
      rw [ev_p21 _ _ _ _ _ _ _]
      conv => lhs; whnf
      dsimp -iota -beta -eta -zeta only
      rw [toReq_call]
      rw [ev_rprim _ _ _ _ _ _ _ _ _ _ _ _ _ _ _ _ _ _ _ _ _ _ _ _ _ _ _ _ _ _ _ _ _ _ _ _ _ _ _ _ (by simp) (by decide) (seedsE_le _) (by simp) (by first | omega | simp) (by first | omega | simp) r2, hw]
      conv => lhs; whnf
      dsimp -iota -beta -eta -zeta only
      rw [drw (by kernel_rfl)]; conv => lhs; whnf
      rw [ieq_t (by omega)]
      conv => lhs; whnf
      rw [ieq_t (by omega)]
      conv => lhs; whnf
      rw [ieq_t (by omega)]
      conv => lhs; whnf
      rw [Y_go]; conv => lhs; whnf
      dsimp -iota -beta -eta -zeta only
      rw [toReq_call]
      rw [ev_lists _ _ (by simp) (by intro l hl; simp only [List.mem_cons, List.not_mem_nil, or_false] at hl; rcases hl with rfl | rfl <;> omega), decide_eq_true rfl]
      conv => lhs; whnf
      dsimp -iota -beta -eta -zeta only
      rw [toReq_call]
      rw [ev_lists _ _ (by simp) (by intro l hl; simp only [List.mem_cons, List.not_mem_nil, or_false] at hl; rcases hl with rfl | rfl <;> omega), decide_eq_true rfl]
      conv => lhs; whnf
      (congr 3; simp only [ieq_eq, ine_eq, ilt_eq, ile_eq, bnot_eq, and_eq, llen_eq]; first | rfl | (rw [decide_eq_decide]; omega) | (simp; omega))
    · rw [hc0]
      conv => lhs; whnf
  · rw [Y_go]; conv => lhs; whnf
    dsimp -iota -beta -eta -zeta only
    rw [toReq_call]
    rw [ev_awake21]
    conv => lhs; whnf
    rw [bnot_eq]; conv => lhs; whnf
    rcases Bool.eq_false_or_eq_true (ilt 32 (llen auth)) with hc0 | hc0
    · rw [hc0]; replace hc0 := of_ilt_t hc0; try simp only [llen_eq] at hc0
      conv => lhs; whnf
    · rw [hc0]; replace hc0 := of_ilt_f hc0; try simp only [llen_eq] at hc0
      conv => lhs; whnf
      rcases Bool.eq_false_or_eq_true (ilt 60 (llen data)) with hc1 | hc1
      · rw [hc1]; replace hc1 := of_ilt_t hc1; try simp only [llen_eq] at hc1
        conv => lhs; whnf
      · rw [hc1]; replace hc1 := of_ilt_f hc1; try simp only [llen_eq] at hc1
        conv => lhs; whnf
        rw [ilt_t (by (simp only [sha256_len, fr1_len, fr2_len, fr3_len, nameB_l32, wkey_32, uintB_l2, uintB_l1, blobB_l, bankJ_len, LL] at * <;> omega))]
        conv => lhs; whnf
end Go.Proofs.YtfjcmolccckhhaaGreatDoor
