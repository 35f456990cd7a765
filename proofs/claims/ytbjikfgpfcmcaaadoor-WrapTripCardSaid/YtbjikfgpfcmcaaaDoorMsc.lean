/-
  Own texts, laid together for this claim: contracts of functions of the program and its references, used by the statements of this seat.
-/
import Derived.Test.YtbjikfgpfcmcaaaDoorMsb

namespace Go.Ax
open Go Go.Eng Go.RowKit
set_option linter.unusedVariables false
set_option linter.unusedSimpArgs false
def xorB (a b : List UInt8) : List UInt8 := List.zipWith (· ^^^ ·) a b
def encryptL : List UInt8 := [101, 110, 99, 114, 121, 112, 116]
def authL : List UInt8 := [97, 117, 116, 104, 101, 110, 116, 105, 99, 97, 116, 101]
def strB (key nonce b : List UInt8) : List UInt8 := xorB b (derB key encryptL nonce (b.length : Int))
def tagB (key nonce ad c : List UInt8) : List UInt8 := macB (derB key authL nonce 32) (frameB 0 [ad, nonce, c])
def formB (nonce c t : List UInt8) : List UInt8 := blobB (blobB [] nonce) c ++ t
def sealB (key nonce ad plain : List UInt8) : List UInt8 :=
  if 64 < nonce.length ∨ 1024 < plain.length then [] else formB nonce (strB key nonce plain) (tagB key nonce ad (strB key nonce plain))
def openB (key ad b : List UInt8) : List UInt8 × Int :=
  let n := rdB b 0 0 64
  let c := rdB b n.2.1 n.2.2 1024
  let t := rdR b c.2.1 c.2.2 32
  let e := rdE b t.2.1 t.2.2
  if e ≠ 0 then ([], e) else if t.1 ≠ tagB key n.1 ad c.1 then ([], 18) else (strB key n.1 c.1, 0)
theorem xorB_xorB : ∀ (a b : List UInt8), a.length ≤ b.length → xorB (xorB a b) b = a
  | [], _, _ => by simp [xorB]
  | x :: a, [], h => by simp at h
  | x :: a, y :: b, h => by
    have := xorB_xorB a b (by simpa using h)
    simp only [xorB, List.zipWith_cons_cons] at this ⊢
    rw [this, UInt8.xor_assoc, UInt8.xor_self, UInt8.xor_zero]
theorem derB_len0 {key label ctx : List UInt8} {n : Nat} (h : n ≤ 1024) : (derB key label ctx (n : Int)).length = n := by
  rcases Nat.eq_zero_or_pos n with rfl | hp
  · rfl
  · rw [derB_len (by omega)]; simp
theorem strB_len {key nonce b : List UInt8} (h : b.length ≤ 1024) : (strB key nonce b).length = b.length := by
  rw [strB, xorB, List.length_zipWith, derB_len0 h, Nat.min_self]
theorem strB_strB {key nonce b : List UInt8} (h : b.length ≤ 1024) : strB key nonce (strB key nonce b) = b := by
  have hl := strB_len (key := key) (nonce := nonce) h
  unfold strB at hl ⊢
  rw [hl]
  exact xorB_xorB _ _ (by rw [derB_len0 h]; exact Nat.le_refl _)
theorem tagB_len (key nonce ad c : List UInt8) : (tagB key nonce ad c).length = 32 := macB_len _ _
theorem formB_eq {nonce c t : List UInt8} (hn : nonce.length ≤ 65535) (hc : c.length ≤ 65535) : formB nonce c t = len2 nonce.length ++ nonce ++ (len2 c.length ++ c ++ (t ++ [])) := by
  rw [formB, blobB_eq hn, blobB_eq hc]
  simp only [List.append_assoc, List.append_nil, List.nil_append]
theorem formB_len {nonce c t : List UInt8} (hn : nonce.length ≤ 65535) (hc : c.length ≤ 65535) : (formB nonce c t).length = 4 + nonce.length + c.length + t.length := by
  rw [formB_eq hn hc]
  simp only [List.length_append, len2_len, List.length_nil]; omega
theorem sealB_len {key nonce ad plain : List UInt8} (hn : nonce.length ≤ 64) (hp : plain.length ≤ 1024) : (sealB key nonce ad plain).length = 36 + nonce.length + plain.length := by
  have hs := strB_len (key := key) (nonce := nonce) hp
  rw [sealB, if_neg (by omega), formB_len (by omega) (by omega), tagB_len, hs]; omega
theorem open_form {key ad nonce c t : List UInt8} (hn : nonce.length ≤ 64) (hc : c.length ≤ 1024) (ht : t.length = 32) :
    openB key ad (formB nonce c t) = if t = tagB key nonce ad c then (strB key nonce c, 0) else ([], 18) := by
  rw [formB_eq (by omega) (by omega)]
  generalize hb : len2 nonce.length ++ nonce ++ (len2 c.length ++ c ++ (t ++ [])) = b
  obtain ⟨q0, l0, d0⟩ := rdB_app (b := b) (p := 0) (most := 64) (x := nonce) (Nat.zero_le _) (by rw [← hb]; exact rfl) (by omega) (by omega)
  obtain ⟨q1, l1, d1⟩ := rdB_app (most := 1024) l0 d0 (by omega) (by omega)
  obtain ⟨q2, l2, d2⟩ := rdR_app l1 d1 ht
  have qe := rdE_ok l2 d2
  replace q2 : rdR b _ 0 32 = _ := q2
  unfold openB
  simp only [q0, q1, q2, qe, ne_eq, not_true_eq_false, if_false]
  by_cases h : t = tagB key nonce ad c
  · rw [if_neg (by simpa using h), if_pos h]
  · rw [if_pos h, if_neg h]
theorem open_seal {key nonce ad plain : List UInt8} (hn : nonce.length ≤ 64) (hp : plain.length ≤ 1024) : openB key ad (sealB key nonce ad plain) = (plain, 0) := by
  have hs := strB_len (key := key) (nonce := nonce) hp
  rw [sealB, if_neg (by omega), open_form hn (by omega) (tagB_len _ _ _ _), if_pos rfl, strB_strB hp]
theorem openB_of {b key ad v0 v1 v2 : List UInt8} {er0 er1 er2 : Int} {p0 p1 p2 : Nat}
    (g0 : rdB b 0 0 64 = (v0, p0, er0)) (g1 : rdB b p0 er0 1024 = (v1, p1, er1)) (g2 : rdR b p1 er1 32 = (v2, p2, er2)) :
    openB key ad b = if rdE b p2 er2 ≠ 0 then ([], rdE b p2 er2) else if v2 ≠ tagB key v0 ad v1 then ([], 18) else (strB key v0 v1, 0) := by
  simp only [openB, g0, g1, g2]
theorem openB_len {key ad b : List UInt8} : (openB key ad b).1.length ≤ b.length := by
  unfold openB; dsimp only
  split
  · simp
  · split
    · simp
    · simp only [strB, xorB, List.length_zipWith]
      have := rdB_len (b := b) (at' := (rdB b 0 0 64).2.1) (e := (rdB b 0 0 64).2.2) (most := 1024)
      omega
end Go.Ax

namespace Go.Ax
def orx (d : UInt8) : List UInt8 → List UInt8 → UInt8
  | a :: x, b :: y => orx (d ||| (a ^^^ b)) x y
  | _, _ => d
theorem orx_zero : ∀ (a b : List UInt8) (d : UInt8), a.length = b.length → (orx d a b = 0 ↔ d = 0 ∧ a = b)
  | [], [], d, _ => by simp [orx]
  | x :: a, y :: b, d, h => by
    rw [orx, orx_zero a b _ (by simpa using h), UInt8.or_eq_zero_iff, UInt8.xor_eq_zero_iff, List.cons.injEq, and_assoc]
  | [], y :: b, d, h => by simp at h
  | x :: a, [], d, h => by simp at h
theorem orx_drop (d : UInt8) (a b : List UInt8) (h : a.length = b.length) (j : Nat) (hj : j < a.length) : orx d (a.drop j) (b.drop j) = orx (d ||| (a[j] ^^^ b[j])) (a.drop (j + 1)) (b.drop (j + 1)) := by
  rw [List.drop_eq_getElem_cons hj, List.drop_eq_getElem_cons (show j < b.length by omega), orx]
theorem xorB_len (b k : List UInt8) (h : k.length = b.length) : (xorB b k).length = b.length := by rw [xorB, List.length_zipWith, h, Nat.min_self]
theorem fill_set (b k : List UInt8) (h : k.length = b.length) (j : Nat) (hj : j < b.length) :
    ((xorB b k).take j ++ List.replicate (b.length - j) 0).set j (b[j] ^^^ k[j]) = (xorB b k).take (j + 1) ++ List.replicate (b.length - (j + 1)) 0 := by
  have hl := xorB_len b k h
  have hx : (xorB b k)[j]'(by omega) = b[j] ^^^ k[j] := by simp [xorB]
  rw [List.take_succ_eq_append_getElem (by omega), hx, List.set_append, if_neg (by rw [List.length_take]; omega), List.length_take, show j - min j (xorB b k).length = 0 from by omega,
    show b.length - j = (b.length - (j + 1)) + 1 from by omega, List.replicate_succ, List.set_cons_zero, List.append_assoc]
  rfl
theorem fill_len (b k : List UInt8) (h : k.length = b.length) (j : Nat) (hj : j ≤ b.length) : ((xorB b k).take j ++ List.replicate (b.length - j) (0 : UInt8)).length = b.length := by
  have hl := xorB_len b k h
  simp; omega
end Go.Ax
namespace Go.Proofs.YtbjikfgpfcmcaaaDoor
open Go Go.Ax Go.Eng
set_option linter.unusedVariables false
set_option linter.unusedSimpArgs false
attribute [local irreducible] iadd isub imul iquo irem ibit ineg ieq ine ilt ile ishl ishr beq' bnot and' seq' u8op u8rem u32op u64op u8shr u8shl u64shr u64shl u32shr u32shl i64w u8i u64i iu8 iu32 iu64 u8u64 u64u8 u32u8 u64cmp u8cmp u32cmp llen lget linb lset lcut lrep lapp lcpy lemp fits fitn sealed drawChk fpSame
set_option maxHeartbeats 4000000
set_option maxRecDepth 100000
theorem ev_equal_loop (a b : List UInt8) (h : a.length = b.length) (ha : a.length ≤ 4294967296) : ∀ (n j : Nat) (d : UInt8), j + n = a.length → Y E0 (.loop 90 0 0 0 [(0, .sl .u8 a), (1, .sl .u8 b), (5, .u8 d), (13, .i a.length), (14, .i (j : Int))] []) = some (.fin (.exit 0) 0 [(5, .u8 (orx d (a.drop j) (b.drop j)))] [])
  | 0, j, d, hj => by
    rw [List.drop_eq_nil_of_le (by omega), List.drop_eq_nil_of_le (by omega), orx]
    rw [Y_go]; conv => lhs; whnf
    rw [ilt_f (by omega)]
    conv => lhs; whnf
    all_goals intros; simp_all
  | n + 1, j, d, hj => by
    have ih := ev_equal_loop a b h ha n (j + 1) (d ||| (a[j]'(by omega) ^^^ b[j]'(by omega))) (by omega)
    rw [← orx_drop d a b h j (by omega)] at ih
    rw [Y_go]; conv => lhs; whnf
    rw [ilt_t (by omega)]
    conv => lhs; whnf
    rw [lget_n (by omega)]
    conv => lhs; whnf
    rw [lget_n (by omega)]
    conv => lhs; whnf
    rw [drw (by kernel_rfl)]; conv => lhs; whnf
    rw [iadd_eq (by omega)]
    refine (congrArg (Y E0) ?_).trans ih; (try simp only [Rq.loop.injEq, Rq.call.injEq, Rq.ops.injEq, List.cons.injEq, Prod.mk.injEq, AV.i.injEq, AV.sl.injEq, AV.st.injEq, AV.b.injEq, AV.u8.injEq, AV.nm.injEq, Option.some.injEq, Rs.row.injEq, Rs.var.injEq, heq_eq_eq, true_and, and_true]); (try (repeat' apply And.intro)); all_goals first | (with_reducible rfl) | omega | (rw [iadd_eq (by omega)]; omega) | (rw [isub_eq (by omega)]; omega) | (rw [u8xor_eq, u8or_eq])
theorem ev_equal (a b : List UInt8) (ha : a.length ≤ 4294967296) : Y E0 (.call 90 [.sl .u8 a, .sl .u8 b] []) = some (.ret (.b (decide (a = b))) []) := by
  by_cases hab : a.length = b.length
  · have hl := ev_equal_loop a b hab ha a.length 0 (UInt8.ofNat 0) (by omega)
    rw [List.drop_zero, List.drop_zero, show ((0 : Nat) : Int) = 0 from rfl] at hl
    have hz := orx_zero a b (UInt8.ofNat 0) hab
    rw [Y_go]; conv => lhs; whnf
    rw [ine_f (by (simp only [uintB_l2, uintB_l1, blobB_l, tagB_len, macB_len, fr1_len, fr2_len, fr3_len, LL] at * <;> omega))]
    conv => lhs; whnf
    rw [toReq_loop]
    rw [llen_eq, hl]
    conv => lhs; whnf
    exact congrArg (fun b => some (Rsp.ret (AV.b b) [])) (by rw [u8cmp_eql, ieq_eq]; apply decide_eq_decide.2; rw [Int.ofNat_inj, UInt8.toNat_inj]; exact hz.trans (by simp))
  · rw [decide_eq_false (fun e => hab (by rw [e]))]
    rw [Y_go]; conv => lhs; whnf
    rw [ine_t (by (simp only [uintB_l2, uintB_l1, blobB_l, tagB_len, macB_len, fr1_len, fr2_len, fr3_len, LL] at * <;> omega))]
    conv => lhs; whnf
theorem ev_bmask1 (b k : List UInt8) (j : Nat) (h : k.length = b.length) (hj : j < b.length) : Y E0 (.call 154 [.i (j : Int), .pa 0 0, .pa 1 0] [.var [.sl .u8 b], .var [.sl .u8 k]]) = some (.ret (.u8 (b[j] ^^^ k[j])) [some (.var [.sl .u8 b]), some (.var [.sl .u8 k])]) := by
  rw [Y_go]; conv => lhs; whnf
  rw [lget_n (by omega)]
  conv => lhs; whnf
  rw [lget_n (by omega)]
  conv => lhs; whnf
  rw [drw (by kernel_rfl)]; conv => lhs; whnf
  rw [u8xor_eq]
theorem ev_bmask_loop (b k : List UInt8) (h : k.length = b.length) (hb : b.length ≤ 1024) : ∀ (n j : Nat), j + n = b.length → Y E0 (.loop 134 0 0 3 [(8, .fn 154 [] [.pa 0 0, .pa 1 0]), (9, .nm 2), (21, .i b.length), (22, .i (j : Int))] [(0, some (.var [.sl .u8 b])), (1, some (.var [.sl .u8 k])), (2, some (.row 5 .u8 ((xorB b k).take j ++ List.replicate (b.length - j) 0)))]) = some (.fin (.exit 0) 0 [(9, .sl .u8 (xorB b k))] [])
  | 0, j, hj => by
    have hl := xorB_len b k h
    rw [List.take_of_length_le (by omega), show b.length - j = 0 from by omega, List.replicate_zero, List.append_nil]
    rw [Y_go]; conv => lhs; whnf
    rw [ilt_f (by omega)]
    conv => lhs; whnf
  | n + 1, j, hj => by
    have ih := ev_bmask_loop b k h hb n (j + 1) (by omega)
    have hs := fill_set b k h j (by omega)
    have hl2 := fill_len b k h j (by omega)
    rw [Y_go]; conv => lhs; whnf
    rw [ilt_t (by omega)]
    conv => lhs; whnf
    rw [toReq_call]
    rw [ev_bmask1 b k j h (by omega)]
    conv => lhs; whnf
    rw [linb_t (by omega)]
    conv => lhs; whnf
    rw [lget_n (by omega)]
    conv => lhs; whnf
    rw [iadd_eq (by omega)]
    refine (congrArg (Y E0) ?_).trans ih; (try simp only [Rq.loop.injEq, Rq.call.injEq, Rq.ops.injEq, List.cons.injEq, Prod.mk.injEq, AV.i.injEq, AV.sl.injEq, AV.st.injEq, AV.b.injEq, AV.u8.injEq, AV.nm.injEq, Option.some.injEq, Rs.row.injEq, Rs.var.injEq, heq_eq_eq, true_and, and_true]); (try (repeat' apply And.intro)); all_goals first | (with_reducible rfl) | omega | (rw [iadd_eq (by omega)]; omega) | (rw [isub_eq (by omega)]; omega) | (rw [lset_eq]; exact hs)
theorem ev_bmask (key nonce b : List UInt8) (hk : key.length ≤ 1000000) (hn : nonce.length ≤ 1000) (hb : b.length ≤ 1024) : Y E0 (.call 134 [.sl .u8 key, .sl .u8 nonce, .sl .u8 b] []) = some (.ret (.sl .u8 (strB key nonce b)) []) := by
  have hd := derB_len0 (key := key) (label := encryptL) (ctx := nonce) hb
  have hl := ev_bmask_loop b _ hd hb b.length 0 (by omega)
  rw [List.take_zero, List.nil_append, Nat.sub_zero, show ((0 : Nat) : Int) = 0 from rfl] at hl
  rw [Y_go]; conv => lhs; whnf
  rw [toReq_call]
  rw [show strOf { data := #[101, 110, 99, 114, 121, 112, 116] } = encryptL from rfl, ev_derive _ _ _ _ (by omega) (by decide) (by omega), llen_eq]
  conv => lhs; whnf
  rw [fitn_t (by (simp only [uintB_l2, uintB_l1, blobB_l, tagB_len, macB_len, fr1_len, fr2_len, fr3_len, LL] at * <;> omega))]
  conv => lhs; whnf
  rw [ieq_t (by omega)]
  conv => lhs; whnf
  rw [toReq_loop]
  rw [llen_eq, llen_eq, lrep_eq, Int.toNat_natCast, List.length_replicate, hl]
  conv => lhs; whnf
  rfl
theorem ev_stream_loop (b k : List UInt8) (h : k.length = b.length) (hb : b.length ≤ 1024) : ∀ (n j : Nat), j + n = b.length → Y E0 (.loop 138 0 0 1 [(2, .sl .u8 b), (7, .sl .u8 k), (8, .nm 0), (9, .i (j : Int))] [(0, some (.row 5 .u8 ((xorB b k).take j ++ List.replicate (b.length - j) 0)))]) = some (.fin (.exit 0) 0 [(8, .sl .u8 (xorB b k))] [])
  | 0, j, hj => by
    have hl := xorB_len b k h
    rw [List.take_of_length_le (by omega), show b.length - j = 0 from by omega, List.replicate_zero, List.append_nil]
    rw [Y_go]; conv => lhs; whnf
    rw [ilt_f (by (simp only [uintB_l2, uintB_l1, blobB_l, tagB_len, macB_len, fr1_len, fr2_len, fr3_len, LL] at * <;> omega))]
    conv => lhs; whnf
  | n + 1, j, hj => by
    have ih := ev_stream_loop b k h hb n (j + 1) (by omega)
    have hs := fill_set b k h j (by omega)
    have hl2 := fill_len b k h j (by omega)
    rw [Y_go]; conv => lhs; whnf
    rw [ilt_t (by (simp only [uintB_l2, uintB_l1, blobB_l, tagB_len, macB_len, fr1_len, fr2_len, fr3_len, LL] at * <;> omega))]
    conv => lhs; whnf
    rw [lget_n (by omega)]
    conv => lhs; whnf
    rw [lget_n (by omega)]
    conv => lhs; whnf
    rw [linb_t (by omega)]
    conv => lhs; whnf
    rw [lget_n (by omega)]
    conv => lhs; whnf
    rw [drw (by kernel_rfl)]; conv => lhs; whnf
    rw [iadd_eq (by omega)]
    refine (congrArg (Y E0) ?_).trans ih; (try simp only [Rq.loop.injEq, Rq.call.injEq, Rq.ops.injEq, List.cons.injEq, Prod.mk.injEq, AV.i.injEq, AV.sl.injEq, AV.st.injEq, AV.b.injEq, AV.u8.injEq, AV.nm.injEq, Option.some.injEq, Rs.row.injEq, Rs.var.injEq, heq_eq_eq, true_and, and_true]); (try (repeat' apply And.intro)); all_goals first | (with_reducible rfl) | omega | (rw [iadd_eq (by omega)]; omega) | (rw [isub_eq (by omega)]; omega) | (rw [lset_eq, u8xor_eq]; exact hs)
theorem ev_stream (key nonce b : List UInt8) (hk : key.length ≤ 1000000) (hn : nonce.length ≤ 1000) (hb : b.length ≤ 1024) : Y E0 (.call 138 [.sl .u8 key, .sl .u8 nonce, .sl .u8 b] []) = some (.ret (.sl .u8 (strB key nonce b)) []) := by
  have hd := derB_len0 (key := key) (label := encryptL) (ctx := nonce) hb
  have hl := ev_stream_loop b _ hd hb b.length 0 (by omega)
  rw [List.take_zero, List.nil_append, Nat.sub_zero, show ((0 : Nat) : Int) = 0 from rfl] at hl
  rw [Y_go]; conv => lhs; whnf
  rw [toReq_call]
  rw [show strOf { data := #[101, 110, 99, 114, 121, 112, 116] } = encryptL from rfl, ev_rderive _ _ _ _ (by omega) (by decide) (by omega), llen_eq]
  conv => lhs; whnf
  rw [fitn_t (by (simp only [uintB_l2, uintB_l1, blobB_l, tagB_len, macB_len, fr1_len, fr2_len, fr3_len, LL] at * <;> omega))]
  conv => lhs; whnf
  rw [ieq_t (by omega)]
  conv => lhs; whnf
  rw [toReq_loop]
  rw [llen_eq, lrep_eq, Int.toNat_natCast, hl]
  conv => lhs; whnf
  rfl
theorem ev_btag (key nonce ad c : List UInt8) (hk : key.length ≤ 1000000) (hn : nonce.length ≤ 1000) (ha : ad.length ≤ 1000000) (hc : c.length ≤ 1024) : Y E0 (.call 133 [.sl .u8 key, .sl .u8 nonce, .sl .u8 ad, .sl .u8 c] []) = some (.ret (.sl .u8 (tagB key nonce ad c)) []) := by
  have hd := derB_len (key := key) (label := authL) (ctx := nonce) (n := 32) (by omega)
  rw [Y_go]; conv => lhs; whnf
  rw [toReq_call]
  rw [show strOf { data := #[97, 117, 116, 104, 101, 110, 116, 105, 99, 97, 116, 101] } = authL from rfl, ev_derive _ _ _ _ (by omega) (by decide) (by omega)]
  conv => lhs; whnf
  rw [toReq_call]
  rw [ev_dig_frame _ _ (by (simp only [uintB_l2, uintB_l1, blobB_l, tagB_len, macB_len, fr1_len, fr2_len, fr3_len, LL] at * <;> omega)) (by (simp only [uintB_l2, uintB_l1, blobB_l, tagB_len, macB_len, fr1_len, fr2_len, fr3_len, LL] at * <;> omega))]
  conv => lhs; whnf
  rw [toReq_call]
  rw [ev_mac _ _ (by omega) (by (simp only [uintB_l2, uintB_l1, blobB_l, tagB_len, macB_len, fr1_len, fr2_len, fr3_len, LL] at * <;> omega))]
  conv => lhs; whnf
  rfl
theorem ev_r4tag (key nonce ad c : List UInt8) (hk : key.length ≤ 1000000) (hn : nonce.length ≤ 1000) (ha : ad.length ≤ 1000000) (hc : c.length ≤ 1024) : Y E0 (.call 139 [.sl .u8 key, .sl .u8 nonce, .sl .u8 ad, .sl .u8 c] []) = some (.ret (.sl .u8 (tagB key nonce ad c)) []) := by
  have hd := derB_len (key := key) (label := authL) (ctx := nonce) (n := 32) (by omega)
  rw [Y_go]; conv => lhs; whnf
  rw [toReq_call]
  rw [show strOf { data := #[97, 117, 116, 104, 101, 110, 116, 105, 99, 97, 116, 101] } = authL from rfl, ev_rderive _ _ _ _ (by omega) (by decide) (by omega)]
  conv => lhs; whnf
  rw [toReq_call]
  rw [ev_ref_frame _ _ (by (simp only [uintB_l2, uintB_l1, blobB_l, tagB_len, macB_len, fr1_len, fr2_len, fr3_len, LL] at * <;> omega)) (by (simp only [uintB_l2, uintB_l1, blobB_l, tagB_len, macB_len, fr1_len, fr2_len, fr3_len, LL] at * <;> omega))]
  conv => lhs; whnf
  rw [toReq_call]
  rw [ev_rmac _ _ (by omega) (by (simp only [uintB_l2, uintB_l1, blobB_l, tagB_len, macB_len, fr1_len, fr2_len, fr3_len, LL] at * <;> omega))]
  conv => lhs; whnf
  rfl
theorem ev_seal (key nonce ad plain : List UInt8) (hk : key.length ≤ 1000000) (ha : ad.length ≤ 1000000) : Y E0 (.call 91 [.sl .u8 key, .sl .u8 nonce, .sl .u8 ad, .sl .u8 plain] []) = some (.ret (.sl .u8 (sealB key nonce ad plain)) []) := by
  rw [Y_go]; conv => lhs; whnf
  rcases Bool.eq_false_or_eq_true (ilt 64 (llen nonce)) with hc0 | hc0
  · rw [hc0]; replace hc0 := of_ilt_t hc0; try simp only [llen_eq] at hc0
    conv => lhs; whnf
    unfold sealB; (repeat (first | rw [if_pos (by first | omega | decide | assumption | (simp only [uintB_l2, uintB_l1, blobB_l, tagB_len, macB_len, fr1_len, fr2_len, fr3_len, LL] at * <;> omega) | (simp; omega))] | rw [if_neg (by first | omega | decide | assumption | (simp only [uintB_l2, uintB_l1, blobB_l, tagB_len, macB_len, fr1_len, fr2_len, fr3_len, LL] at * <;> omega) | (simp; omega))])); try simp only [NO]
  · rw [hc0]; replace hc0 := of_ilt_f hc0; try simp only [llen_eq] at hc0
    conv => lhs; whnf
    rcases Bool.eq_false_or_eq_true (ilt 1024 (llen plain)) with hc1 | hc1
    · rw [hc1]; replace hc1 := of_ilt_t hc1; try simp only [llen_eq] at hc1
      conv => lhs; whnf
      unfold sealB; (repeat (first | rw [if_pos (by first | omega | decide | assumption | (simp only [uintB_l2, uintB_l1, blobB_l, tagB_len, macB_len, fr1_len, fr2_len, fr3_len, LL] at * <;> omega) | (simp; omega))] | rw [if_neg (by first | omega | decide | assumption | (simp only [uintB_l2, uintB_l1, blobB_l, tagB_len, macB_len, fr1_len, fr2_len, fr3_len, LL] at * <;> omega) | (simp; omega))])); try simp only [NO]
    · rw [hc1]; replace hc1 := of_ilt_f hc1; try simp only [llen_eq] at hc1
      conv => lhs; whnf
      rw [toReq_call]
      have hs := strB_len (key := key) (nonce := nonce) (b := plain) (by omega); rw [ev_bmask _ _ _ (by omega) (by omega) (by omega)]
      conv => lhs; whnf
      rw [toReq_call]
      rw [ev_blob _ _ (by (simp only [uintB_l2, uintB_l1, blobB_l, tagB_len, macB_len, fr1_len, fr2_len, fr3_len, LL] at * <;> omega))]
      conv => lhs; whnf
      rw [toReq_call]
      rw [ev_blob _ _ (by (simp only [uintB_l2, uintB_l1, blobB_l, tagB_len, macB_len, fr1_len, fr2_len, fr3_len, LL] at * <;> omega))]
      conv => lhs; whnf
      rw [toReq_call]
      rw [ev_btag _ _ _ _ (by omega) (by omega) (by omega) (by omega)]
      conv => lhs; whnf
      rw [fits_t (by (simp only [uintB_l2, uintB_l1, blobB_l, tagB_len, macB_len, fr1_len, fr2_len, fr3_len, LL] at * <;> omega))]
      conv => lhs; whnf
      (rw [sealB, if_neg (by omega), formB, lapp_eq])
theorem ev_r4seal (key nonce ad plain : List UInt8) (hk : key.length ≤ 1000000) (ha : ad.length ≤ 1000000) : Y E0 (.call 92 [.sl .u8 key, .sl .u8 nonce, .sl .u8 ad, .sl .u8 plain] []) = some (.ret (.nm 0) [some (.row 5 .u8 (sealB key nonce ad plain))]) := by
  rw [Y_go]; conv => lhs; whnf
  rcases Bool.eq_false_or_eq_true (ilt 64 (llen nonce)) with hc0 | hc0
  · rw [hc0]; replace hc0 := of_ilt_t hc0; try simp only [llen_eq] at hc0
    conv => lhs; whnf
    unfold sealB; (repeat (first | rw [if_pos (by first | omega | decide | assumption | (simp only [uintB_l2, uintB_l1, blobB_l, tagB_len, macB_len, fr1_len, fr2_len, fr3_len, LL] at * <;> omega) | (simp; omega))] | rw [if_neg (by first | omega | decide | assumption | (simp only [uintB_l2, uintB_l1, blobB_l, tagB_len, macB_len, fr1_len, fr2_len, fr3_len, LL] at * <;> omega) | (simp; omega))])); try simp only [NO]
  · rw [hc0]; replace hc0 := of_ilt_f hc0; try simp only [llen_eq] at hc0
    conv => lhs; whnf
    rcases Bool.eq_false_or_eq_true (ilt 1024 (llen plain)) with hc1 | hc1
    · rw [hc1]; replace hc1 := of_ilt_t hc1; try simp only [llen_eq] at hc1
      conv => lhs; whnf
      unfold sealB; (repeat (first | rw [if_pos (by first | omega | decide | assumption | (simp only [uintB_l2, uintB_l1, blobB_l, tagB_len, macB_len, fr1_len, fr2_len, fr3_len, LL] at * <;> omega) | (simp; omega))] | rw [if_neg (by first | omega | decide | assumption | (simp only [uintB_l2, uintB_l1, blobB_l, tagB_len, macB_len, fr1_len, fr2_len, fr3_len, LL] at * <;> omega) | (simp; omega))])); try simp only [NO]
    · rw [hc1]; replace hc1 := of_ilt_f hc1; try simp only [llen_eq] at hc1
      conv => lhs; whnf
      rw [toReq_call]
      have hs := strB_len (key := key) (nonce := nonce) (b := plain) (by omega); rw [ev_stream _ _ _ (by omega) (by omega) (by omega)]
      conv => lhs; whnf
      rw [toReq_call]
      rw [ev_r3blob _ _ (by (simp only [uintB_l2, uintB_l1, blobB_l, tagB_len, macB_len, fr1_len, fr2_len, fr3_len, LL] at * <;> omega))]
      conv => lhs; whnf
      rw [toReq_call]
      rw [ev_r3blob _ _ (by (simp only [uintB_l2, uintB_l1, blobB_l, tagB_len, macB_len, fr1_len, fr2_len, fr3_len, LL] at * <;> omega))]
      conv => lhs; whnf
      rw [toReq_call]
      rw [ev_r4tag _ _ _ _ (by omega) (by omega) (by omega) (by omega)]
      conv => lhs; whnf
      rw [fits_t (by (simp only [uintB_l2, uintB_l1, blobB_l, tagB_len, macB_len, fr1_len, fr2_len, fr3_len, LL] at * <;> omega))]
      conv => lhs; whnf
      (rw [sealB, if_neg (by omega), formB, lapp_eq])
theorem ev_open (key ad b : List UInt8) (hk : key.length ≤ 1000000) (ha : ad.length ≤ 1000000) (hb : b.length ≤ 4294967296) : Y E0 (.call 85 [.sl .u8 key, .sl .u8 ad, .sl .u8 b] []) = some (.ret (.tup [.sl .u8 (openB key ad b).1, .i (openB key ad b).2]) []) := by
  rw [Y_go]; conv => lhs; whnf
  rw [toReq_call]
  rw [ev_new _ (by omega)]
  conv => lhs; whnf
  rw [toReq_call]
  rw [show Y E0 (.call 88 [.pa 0 0, .i 64] [.var [.sl .u8 b, .i 0, .i 0]]) = _ from ev_rblob b 0 0 64 hb (Nat.zero_le _)]; generalize g0 : rdB b 0 0 64 = x0; obtain ⟨v0, p0, er0⟩ := x0; have k0 : p0 ≤ b.length := (by have := rdB_le (b := b) (at' := 0) (e := 0) (most := 64) (Nat.zero_le _); rw [g0] at this; exact this); have l0 : v0.length ≤ b.length := (by have := rdB_len (b := b) (at' := 0) (e := 0) (most := 64); rw [g0] at this; exact this); have m0 : v0.length ≤ 64 := (by have := rdB_most (b := b) (at' := 0) (e := 0) (most := 64) (by decide); rw [g0] at this; simp only at this; omega)
  conv => lhs; whnf
  rw [toReq_call]
  rw [ev_rblob b p0 er0 1024 hb k0]; generalize g1 : rdB b p0 er0 1024 = x1; obtain ⟨v1, p1, er1⟩ := x1; have k1 : p1 ≤ b.length := (by have := rdB_le (b := b) (at' := p0) (e := er0) (most := 1024) k0; rw [g1] at this; exact this); have l1 : v1.length ≤ b.length := (by have := rdB_len (b := b) (at' := p0) (e := er0) (most := 1024); rw [g1] at this; exact this); have m1 : v1.length ≤ 1024 := (by have := rdB_most (b := b) (at' := p0) (e := er0) (most := 1024) (by decide); rw [g1] at this; simp only at this; omega)
  conv => lhs; whnf
  rw [toReq_call]
  rw [ev_raw b p1 er1 32 hb k1 (by decide)]; generalize g2 : rdR b p1 er1 32 = x2; obtain ⟨v2, p2, er2⟩ := x2; have k2 : p2 ≤ b.length := (by have := rdR_le (b := b) (at' := p1) (e := er1) (n := 32) k1; rw [g2] at this; exact this); have l2 : v2.length ≤ b.length := (by have := rdR_len (b := b) (at' := p1) (e := er1) (n := 32); rw [g2] at this; exact this)
  conv => lhs; whnf
  rw [toReq_call]
  rw [ev_rend _ _ _ (by omega) (by omega)]
  conv => lhs; whnf
  rcases Bool.eq_false_or_eq_true (ine (rdE b (v2, p2, er2).snd.fst (v2, p2, er2).snd.snd) 0) with hc0 | hc0
  · rw [hc0]; replace hc0 := of_ine_t hc0; try simp only [llen_eq] at hc0
    conv => lhs; whnf
    (rw [openB_of g0 g1 g2, if_pos (by omega)]; try rfl)
  · rw [hc0]; replace hc0 := of_ine_f hc0; try simp only [llen_eq] at hc0
    conv => lhs; whnf
    rw [toReq_call]
    rw [ev_btag _ _ _ _ (by omega) (by (simp only [uintB_l2, uintB_l1, blobB_l, tagB_len, macB_len, fr1_len, fr2_len, fr3_len, LL] at * <;> omega)) (by omega) (by omega)]
    conv => lhs; whnf
    rw [toReq_call]
    rw [ev_equal _ _ (by (simp only [uintB_l2, uintB_l1, blobB_l, tagB_len, macB_len, fr1_len, fr2_len, fr3_len, LL] at * <;> omega))]
    conv => lhs; whnf
    rw [bnot_eq]; conv => lhs; whnf
    rcases Bool.eq_false_or_eq_true (decide ((v2, p2, er2).fst = tagB key (v0, p0, er0).fst ad (v1, p1, er1).fst)) with hc1 | hc1
    · rw [hc1]; replace hc1 := of_decide_eq_true hc1; try simp only at hc1
      conv => lhs; whnf
      rw [toReq_call]
      rw [ev_bmask _ _ _ (by omega) (by (simp only [uintB_l2, uintB_l1, blobB_l, tagB_len, macB_len, fr1_len, fr2_len, fr3_len, LL] at * <;> omega)) (by omega)]
      conv => lhs; whnf
      (rw [openB_of g0 g1 g2, if_neg (by omega), if_neg (by simp_all)]; try rfl)
    · rw [hc1]; replace hc1 := of_decide_eq_false hc1; try simp only at hc1
      conv => lhs; whnf
      (rw [openB_of g0 g1 g2, if_neg (by omega), if_pos (by assumption)]; try rfl)
end Go.Proofs.YtbjikfgpfcmcaaaDoor

namespace Go.Ax
open Go Go.Eng Go.RowKit
set_option linter.unusedVariables false
set_option linter.unusedSimpArgs false
structure Sen where
  auth : List UInt8
  seed : List UInt8
  data : List UInt8
abbrev senX (s : Sen) : List AV := [.sl .u8 s.auth, .sl .u8 s.seed, .sl .u8 s.data]
def sen0 : Sen := ⟨[], [], []⟩
def seedL : List UInt8 := [115, 101, 101, 100]
def privL : List UInt8 := [112, 114, 105, 118, 97, 116, 101]
def uniB (kind h : Int) (s : Sen) : List UInt8 := if kind = 2 then pubK s.seed h else sha256 (frameB 13 [s.seed, s.data])
def makeP (secret : List UInt8) (p : Pub) (auth data : List UInt8) : Pub × Sen × Int :=
  if chkP ⟨p.kind, p.attr, p.height, p.policy, List.replicate (uniq p.kind).toNat 0⟩ ≠ 0 then (pub0, sen0, chkP ⟨p.kind, p.attr, p.height, p.policy, List.replicate (uniq p.kind).toNat 0⟩)
  else if 32 < auth.length ∨ 128 < data.length then (pub0, sen0, 4)
  else if 0 < data.length ∧ p.kind ≠ 3 then (pub0, sen0, 1)
  else (⟨p.kind, p.attr, p.height, p.policy, uniB p.kind p.height ⟨auth, derB secret seedL [] 32, data⟩⟩, ⟨auth, derB secret seedL [] 32, data⟩, 0)
def wkey (par : Sen) (nm : List UInt8) : List UInt8 := derB par.seed privL nm 32
def plainS (s : Sen) : List UInt8 := blobB (blobB (blobB [] s.auth) s.seed) s.data
def privB (par : Sen) (p : Pub) (s : Sen) : List UInt8 := sealB (wkey par (nameB p)) ((nameB p).take 16) (encP p) (plainS s)
def readS (p : Pub) (b : List UInt8) : Sen × Int :=
  let a := rdB b 0 0 32
  let d := rdB b a.2.1 a.2.2 32
  let t := rdB b d.2.1 d.2.2 128
  let e := rdE b t.2.1 t.2.2
  if e ≠ 0 then (sen0, e) else if p.unique ≠ uniB p.kind p.height ⟨a.1, d.1, t.1⟩ then (sen0, 18) else (⟨a.1, d.1, t.1⟩, 0)
def openS (par : Sen) (p : Pub) (b : List UInt8) : Sen × Int :=
  if (openB (wkey par (nameB p)) (encP p) b).2 ≠ 0 then (sen0, (openB (wkey par (nameB p)) (encP p) b).2) else readS p (openB (wkey par (nameB p)) (encP p) b).1
def sameS (a b : Sen) : Bool := decide (a.auth = b.auth) && (decide (a.seed = b.seed) && decide (a.data = b.data))
theorem sameS_refl (a : Sen) : sameS a a = true := by simp [sameS]
structure OkS (s : Sen) : Prop where
  auth : s.auth.length ≤ 32
  seed : s.seed.length = 32
  data : s.data.length ≤ 128
theorem uniB_le (k h : Int) (s : Sen) : (uniB k h s).length ≤ 32 := by
  unfold uniB; split
  · have := pubK_le s.seed h; omega
  · rw [sha256_len]; exact Nat.le_refl _
theorem uniB_pos {k h : Int} {s : Sen} (hh : 0 ≤ h ∧ h ≤ 3) : 0 < (uniB k h s).length := by
  unfold uniB; split
  · rw [pubK_len hh]; omega
  · rw [sha256_len]; omega
theorem plainS_len {s : Sen} (h : OkS s) : (plainS s).length ≤ 200 := by
  have h1 := h.auth; have h2 := h.seed; have h3 := h.data
  rw [plainS, blobB_l, blobB_l, blobB_l, List.length_nil]; omega
theorem read_plain {s : Sen} {p : Pub} (h : OkS s) : readS p (plainS s) = if p.unique ≠ uniB p.kind p.height s then (sen0, 18) else (s, 0) := by
  obtain ⟨h1, h2, h3⟩ := h
  have e : plainS s = len2 s.auth.length ++ s.auth ++ (len2 s.seed.length ++ s.seed ++ (len2 s.data.length ++ s.data ++ [])) := by
    rw [plainS, blobB_eq (by omega), blobB_eq (by omega), blobB_eq (by omega)]
    simp only [List.append_assoc, List.append_nil, List.nil_append]
  generalize hb : plainS s = b
  rw [hb] at e
  obtain ⟨q0, l0, d0⟩ := rdB_app (b := b) (p := 0) (most := 32) (x := s.auth) (Nat.zero_le _) (by rw [e]; rfl) (by omega) (by omega)
  obtain ⟨q1, l1, d1⟩ := rdB_app (most := 32) l0 d0 (by omega) (by omega)
  obtain ⟨q2, l2, d2⟩ := rdB_app (most := 128) l1 d1 (by omega) (by omega)
  have qe := rdE_ok l2 d2
  unfold readS
  simp only [q0, q1, q2, qe, ne_eq, not_true_eq_false, if_false]
theorem nameB_l32 (p : Pub) : (nameB p).length = 32 := sha256_len _
theorem wkey_32 (par : Sen) (nm : List UInt8) : (wkey par nm).length = 32 := derB_len (by omega)
theorem open_priv {par s : Sen} {p : Pub} (h : OkS s) : openS par p (privB par p s) = if p.unique ≠ uniB p.kind p.height s then (sen0, 18) else (s, 0) := by
  have hn := nameB_l32 p
  have hp := plainS_len h
  have ho : openB (wkey par (nameB p)) (encP p) (privB par p s) = (plainS s, 0) := open_seal (by rw [List.length_take]; omega) (by omega)
  rw [openS, ho]
  simp only [ne_eq, not_true_eq_false, if_false]
  exact read_plain h
theorem make_okP {secret auth data : List UInt8} {p : Pub} (hc : chkP p = 0) (ha : auth.length ≤ 32) (hd : data.length ≤ 128) (hk : 0 < data.length → p.kind = 3) :
    makeP secret p auth data = (⟨p.kind, p.attr, p.height, p.policy, uniB p.kind p.height ⟨auth, derB secret seedL [] 32, data⟩⟩, ⟨auth, derB secret seedL [] 32, data⟩, 0) := by
  have h0 : chkP ⟨p.kind, p.attr, p.height, p.policy, List.replicate (uniq p.kind).toNat 0⟩ = 0 := by
    have hu := uniq_bd p.kind
    unfold chkP at hc ⊢
    split at hc
    · simp at hc
    rename_i g1
    split at hc
    · simp at hc
    rename_i g2
    split at hc
    · simp at hc
    rename_i g3
    rw [if_neg g1, if_neg g2, if_neg]
    rintro (q | q | q | q | q)
    · exact g3 (.inl q)
    · exact g3 (.inr (.inl q))
    · exact g3 (.inr (.inr (.inl q)))
    · exact g3 (.inr (.inr (.inr (.inl q))))
    · simp only [List.length_replicate] at q; omega
  rw [makeP, if_neg (by rw [h0]; simp), if_neg (by omega), if_neg (by intro q; exact q.2 (hk q.1))]
theorem make_okS (secret auth data : List UInt8) (ha : auth.length ≤ 32) (hd : data.length ≤ 128) : OkS ⟨auth, derB secret seedL [] 32, data⟩ := ⟨ha, derB_len (n := 32) (by omega), hd⟩
theorem make_len {secret auth data : List UInt8} {p : Pub} : (makeP secret p auth data).1.unique.length ≤ 32 ∧ (makeP secret p auth data).1.policy.length ≤ p.policy.length ∧ (makeP secret p auth data).2.1.auth.length ≤ 32 ∧ (makeP secret p auth data).2.1.seed.length ≤ 32 ∧ (makeP secret p auth data).2.1.data.length ≤ 128 := by
  unfold makeP
  split
  · simp [pub0, sen0]
  · split
    · simp [pub0, sen0]
    · split
      · simp [pub0, sen0]
      · have h1 := uniB_le p.kind p.height ⟨auth, derB secret seedL [] 32, data⟩
        have h2 := derB_len (key := secret) (label := seedL) (ctx := []) (n := 32) (by omega)
        refine ⟨h1, Nat.le_refl _, ?_, ?_, ?_⟩ <;> simp only <;> omega
theorem readS_of {b v0 v1 v2 : List UInt8} {er0 er1 er2 : Int} {p0 p1 p2 : Nat} {p : Pub}
    (g0 : rdB b 0 0 32 = (v0, p0, er0)) (g1 : rdB b p0 er0 32 = (v1, p1, er1)) (g2 : rdB b p1 er1 128 = (v2, p2, er2)) :
    readS p b = if rdE b p2 er2 ≠ 0 then (sen0, rdE b p2 er2) else if p.unique ≠ uniB p.kind p.height ⟨v0, v1, v2⟩ then (sen0, 18) else (⟨v0, v1, v2⟩, 0) := by
  simp only [readS, g0, g1, g2]
end Go.Ax

namespace Go.Proofs.YtbjikfgpfcmcaaaDoor
open Go Go.Ax Go.Eng
set_option linter.unusedVariables false
set_option linter.unusedSimpArgs false
attribute [local irreducible] iadd isub imul iquo irem ibit ineg ieq ine ilt ile ishl ishr beq' bnot and' seq' u8op u8rem u32op u64op u8shr u8shl u64shr u64shl u32shr u32shl i64w u8i u64i iu8 iu32 iu64 u8u64 u64u8 u32u8 u64cmp u8cmp u32cmp llen lget linb lset lcut lrep lapp lcpy lemp fits fitn sealed drawChk fpSame
attribute [local irreducible] pubK sigK verK chkP nameB uniB wkey openB sealB encP
set_option maxHeartbeats 4000000
set_option maxRecDepth 100000
theorem ev_wunique (k h : Int) (a s d : List UInt8) (ha : a.length ≤ 100000) (hs : s.length ≤ 100000) (hd : d.length ≤ 100000) : Y E0 (.call 81 [.i k, .i h, .agg [.sl .u8 a, .sl .u8 s, .sl .u8 d]] []) = some (.ret (.sl .u8 (uniB k h ⟨a, s, d⟩)) []) := by
  rw [Y_go]; conv => lhs; whnf
  rcases Bool.eq_false_or_eq_true (ieq k 2) with hc0 | hc0
  · rw [hc0]; replace hc0 := of_ieq_t hc0; try simp only [llen_eq] at hc0
    subst hc0
    conv => lhs; whnf
    dsimp -iota -beta -eta -zeta only
    rw [toReq_call]
    rw [ev_spub _ _ (by omega)]
    conv => lhs; whnf
    (unfold uniB; (repeat (first | rw [if_pos (by omega)] | rw [if_neg (by omega)])); try rfl)
  · rw [hc0]; replace hc0 := of_ieq_f hc0; try simp only [llen_eq] at hc0
    conv => lhs; whnf
    dsimp -iota -beta -eta -zeta only
    rw [toReq_call]
    rw [ev_dig_hash _ _ (by (simp only [sha256_len, fr1_len, fr2_len, fr3_len, nameB_l32, wkey_32, uintB_l2, uintB_l1, blobB_l, LL] at * <;> omega)) (by (simp only [sha256_len, fr1_len, fr2_len, fr3_len, nameB_l32, wkey_32, uintB_l2, uintB_l1, blobB_l, LL] at * <;> omega))]
    conv => lhs; whnf
    (unfold uniB; (repeat (first | rw [if_pos (by omega)] | rw [if_neg (by omega)])); try rfl)
theorem ev_r11unique (k h : Int) (a s d : List UInt8) (ha : a.length ≤ 100000) (hs : s.length ≤ 100000) (hd : d.length ≤ 100000) : Y E0 (.call 83 [.agg [.sl .u8 a, .sl .u8 s, .sl .u8 d], .i k, .i h] []) = some (.ret (.sl .u8 (uniB k h ⟨a, s, d⟩)) []) := by
  rw [Y_go]; conv => lhs; whnf
  rcases Bool.eq_false_or_eq_true (ieq k 2) with hc0 | hc0
  · rw [hc0]; replace hc0 := of_ieq_t hc0; try simp only [llen_eq] at hc0
    subst hc0
    conv => lhs; whnf
    dsimp -iota -beta -eta -zeta only
    rw [toReq_call]
    rw [ev_rspub _ _ (by omega)]
    conv => lhs; whnf
    (unfold uniB; (repeat (first | rw [if_pos (by omega)] | rw [if_neg (by omega)])); try rfl)
  · rw [hc0]; replace hc0 := of_ieq_f hc0; try simp only [llen_eq] at hc0
    conv => lhs; whnf
    dsimp -iota -beta -eta -zeta only
    rw [toReq_call]
    rw [ev_ref_hash _ _ (by (simp only [sha256_len, fr1_len, fr2_len, fr3_len, nameB_l32, wkey_32, uintB_l2, uintB_l1, blobB_l, LL] at * <;> omega)) (by (simp only [sha256_len, fr1_len, fr2_len, fr3_len, nameB_l32, wkey_32, uintB_l2, uintB_l1, blobB_l, LL] at * <;> omega))]
    conv => lhs; whnf
    (unfold uniB; (repeat (first | rw [if_pos (by omega)] | rw [if_neg (by omega)])); try rfl)
theorem ev_wfail (e : Int) : Y E0 (.call 79 [.i e] []) = some (.ret (.tup [.agg (pubX pub0), .agg (senX sen0), .i e]) []) := by
  rw [Y_go]; conv => lhs; whnf
  dsimp -iota -beta -eta -zeta only
  rfl
theorem ev_r11same (a s d a' s' d' : List UInt8) (ha : a.length ≤ 100000) (hs : s.length ≤ 100000) (hd : d.length ≤ 100000) : Y E0 (.call 44 [.agg [.sl .u8 a, .sl .u8 s, .sl .u8 d], .agg [.sl .u8 a', .sl .u8 s', .sl .u8 d']] []) = some (.ret (.b (sameS ⟨a, s, d⟩ ⟨a', s', d'⟩)) []) := by
  rw [Y_go]; conv => lhs; whnf
  dsimp -iota -beta -eta -zeta only
  rw [toReq_call]
  rw [ev_same _ _ (by omega)]
  conv => lhs; whnf
  rcases Bool.eq_false_or_eq_true (decide (a = a')) with hc0 | hc0
  · rw [hc0]; replace hc0 := of_decide_eq_true hc0; try simp only at hc0
    conv => lhs; whnf
    dsimp -iota -beta -eta -zeta only
    rw [toReq_call]
    rw [ev_same _ _ (by omega)]
    conv => lhs; whnf
    rcases Bool.eq_false_or_eq_true (decide (s = s')) with hc1 | hc1
    · rw [hc1]; replace hc1 := of_decide_eq_true hc1; try simp only at hc1
      conv => lhs; whnf
      dsimp -iota -beta -eta -zeta only
      rw [toReq_call]
      rw [ev_same _ _ (by omega)]
      conv => lhs; whnf
      simp_all [sameS]
    · rw [hc1]; replace hc1 := of_decide_eq_false hc1; try simp only at hc1
      conv => lhs; whnf
      simp_all [sameS]
  · rw [hc0]; replace hc0 := of_decide_eq_false hc0; try simp only at hc0
    conv => lhs; whnf
    simp_all [sameS]
theorem ev_wmake (secret : List UInt8) (k a h : Int) (o u auth data : List UInt8) (hs : secret.length ≤ 100000) : Y E0 (.call 41 [.sl .u8 secret, .agg [.i k, .i a, .i h, .sl .u8 o, .sl .u8 u], .sl .u8 auth, .sl .u8 data] []) = some (.ret (.tup [.agg (pubX (makeP secret ⟨k, a, h, o, u⟩ auth data).1), .agg (senX (makeP secret ⟨k, a, h, o, u⟩ auth data).2.1), .i (makeP secret ⟨k, a, h, o, u⟩ auth data).2.2]) []) := by
  have hu := uniq_bd k
  have hd := derB_len (key := secret) (label := seedL) (ctx := []) (n := 32) (by omega)
  have hE : lrep (uniq k) (0 : UInt8) = List.replicate (uniq k).toNat 0 := by rw [lrep_eq]
  by_cases hk : k = 2
  · subst hk
    have hr : lrep 17 (0 : UInt8) = List.replicate (uniq 2).toNat 0 := by rw [lrep_eq]; rfl
    rw [Y_go]; conv => lhs; whnf
    rw [fitn_t (by omega)]
    conv => lhs; whnf
    rw [ieq_t (by omega)]
    conv => lhs; whnf
    rw [ieq_t (by omega)]
    conv => lhs; whnf
    rw [hr]
    rw [fitn_t (by omega)]
    conv => lhs; whnf
    rw [ieq_t (by omega)]
    conv => lhs; whnf
    rw [Y_go]; conv => lhs; whnf
    dsimp -iota -beta -eta -zeta only
    rw [toReq_call]
    rw [ev_acheck _ _ _ _ _]
    conv => lhs; whnf
    rcases Bool.eq_false_or_eq_true (ine (chkP { kind := 2, attr := a, height := h, policy := o, unique := List.replicate (uniq 2).toNat 0 }) 0) with hc0 | hc0
    · rw [hc0]; replace hc0 := of_ine_t hc0; try simp only [llen_eq] at hc0
      conv => lhs; whnf
      dsimp -iota -beta -eta -zeta only
      rw [toReq_call]
      rw [ev_wfail _]
      conv => lhs; whnf
      dsimp -iota -beta -eta -zeta only
      (unfold makeP; dsimp only; (repeat (first | rw [if_pos (by first | assumption | omega)] | rw [if_neg (by first | assumption | omega)])); try rfl)
    · rw [hc0]; replace hc0 := of_ine_f hc0; try simp only [llen_eq] at hc0
      conv => lhs; whnf
      rcases Bool.eq_false_or_eq_true (ilt 32 (llen auth)) with hc1 | hc1
      · rw [hc1]; replace hc1 := of_ilt_t hc1; try simp only [llen_eq] at hc1
        conv => lhs; whnf
        dsimp -iota -beta -eta -zeta only
        rw [toReq_call]
        rw [ev_wfail _]
        conv => lhs; whnf
        dsimp -iota -beta -eta -zeta only
        (unfold makeP; dsimp only; (repeat (first | rw [if_pos (by first | assumption | omega)] | rw [if_neg (by first | assumption | omega)])); try rfl)
      · rw [hc1]; replace hc1 := of_ilt_f hc1; try simp only [llen_eq] at hc1
        conv => lhs; whnf
        rcases Bool.eq_false_or_eq_true (ilt 128 (llen data)) with hc2 | hc2
        · rw [hc2]; replace hc2 := of_ilt_t hc2; try simp only [llen_eq] at hc2
          conv => lhs; whnf
          dsimp -iota -beta -eta -zeta only
          rw [toReq_call]
          rw [ev_wfail _]
          conv => lhs; whnf
          dsimp -iota -beta -eta -zeta only
          (unfold makeP; dsimp only; (repeat (first | rw [if_pos (by first | assumption | omega)] | rw [if_neg (by first | assumption | omega)])); try rfl)
        · rw [hc2]; replace hc2 := of_ilt_f hc2; try simp only [llen_eq] at hc2
          conv => lhs; whnf
          rcases Bool.eq_false_or_eq_true (ilt 0 (llen data)) with hc3 | hc3
          · rw [hc3]; replace hc3 := of_ilt_t hc3; try simp only [llen_eq] at hc3
            conv => lhs; whnf
            rw [ine_t (by omega)]
            conv => lhs; whnf
            dsimp -iota -beta -eta -zeta only
            rw [toReq_call]
            rw [ev_wfail _]
            conv => lhs; whnf
            dsimp -iota -beta -eta -zeta only
            (unfold makeP; dsimp only; (repeat (first | rw [if_pos (by first | assumption | omega)] | rw [if_neg (by first | assumption | omega)])); try rfl)
          · rw [hc3]; replace hc3 := of_ilt_f hc3; try simp only [llen_eq] at hc3
            conv => lhs; whnf
            dsimp -iota -beta -eta -zeta only
            rw [toReq_call]
            rw [show strOf { data := #[115, 101, 101, 100] } = seedL from rfl, ev_derive _ _ _ _ (by omega) (by decide) (by simp)]
            conv => lhs; whnf
            dsimp -iota -beta -eta -zeta only
            rw [toReq_call]
            rw [ev_wunique _ _ _ _ _ (by omega) (by omega) (by omega)]
            conv => lhs; whnf
            dsimp -iota -beta -eta -zeta only
            rw [drw (by kernel_rfl)]; conv => lhs; whnf
            dsimp -iota -beta -eta -zeta only
            (unfold makeP; dsimp only; (repeat (first | rw [if_pos (by first | assumption | omega)] | rw [if_neg (by first | assumption | omega)])); try rfl)
  · have hr : lrep 32 (0 : UInt8) = List.replicate (uniq k).toNat 0 := by rw [lrep_eq, uniq, if_neg hk]
    rw [Y_go]; conv => lhs; whnf
    rw [hr]
    rw [fitn_t (by omega)]
    conv => lhs; whnf
    rw [ieq_t (by omega)]
    conv => lhs; whnf
    rw [ieq_f (by omega)]
    conv => lhs; whnf
    rw [Y_go]; conv => lhs; whnf
    dsimp -iota -beta -eta -zeta only
    rw [toReq_call]
    rw [ev_acheck _ _ _ _ _]
    conv => lhs; whnf
    rcases Bool.eq_false_or_eq_true (ine (chkP { kind := k, attr := a, height := h, policy := o, unique := List.replicate (uniq k).toNat 0 }) 0) with hc0 | hc0
    · rw [hc0]; replace hc0 := of_ine_t hc0; try simp only [llen_eq] at hc0
      conv => lhs; whnf
      dsimp -iota -beta -eta -zeta only
      rw [toReq_call]
      rw [ev_wfail _]
      conv => lhs; whnf
      dsimp -iota -beta -eta -zeta only
      (unfold makeP; dsimp only; (repeat (first | rw [if_pos (by first | assumption | omega)] | rw [if_neg (by first | assumption | omega)])); try rfl)
    · rw [hc0]; replace hc0 := of_ine_f hc0; try simp only [llen_eq] at hc0
      conv => lhs; whnf
      rcases Bool.eq_false_or_eq_true (ilt 32 (llen auth)) with hc1 | hc1
      · rw [hc1]; replace hc1 := of_ilt_t hc1; try simp only [llen_eq] at hc1
        conv => lhs; whnf
        dsimp -iota -beta -eta -zeta only
        rw [toReq_call]
        rw [ev_wfail _]
        conv => lhs; whnf
        dsimp -iota -beta -eta -zeta only
        (unfold makeP; dsimp only; (repeat (first | rw [if_pos (by first | assumption | omega)] | rw [if_neg (by first | assumption | omega)])); try rfl)
      · rw [hc1]; replace hc1 := of_ilt_f hc1; try simp only [llen_eq] at hc1
        conv => lhs; whnf
        rcases Bool.eq_false_or_eq_true (ilt 128 (llen data)) with hc2 | hc2
        · rw [hc2]; replace hc2 := of_ilt_t hc2; try simp only [llen_eq] at hc2
          conv => lhs; whnf
          dsimp -iota -beta -eta -zeta only
          rw [toReq_call]
          rw [ev_wfail _]
          conv => lhs; whnf
          dsimp -iota -beta -eta -zeta only
          (unfold makeP; dsimp only; (repeat (first | rw [if_pos (by first | assumption | omega)] | rw [if_neg (by first | assumption | omega)])); try rfl)
        · rw [hc2]; replace hc2 := of_ilt_f hc2; try simp only [llen_eq] at hc2
          conv => lhs; whnf
          rcases Bool.eq_false_or_eq_true (ilt 0 (llen data)) with hc3 | hc3
          · rw [hc3]; replace hc3 := of_ilt_t hc3; try simp only [llen_eq] at hc3
            conv => lhs; whnf
            rcases Bool.eq_false_or_eq_true (ine k 3) with hc4 | hc4
            · rw [hc4]; replace hc4 := of_ine_t hc4; try simp only [llen_eq] at hc4
              conv => lhs; whnf
              dsimp -iota -beta -eta -zeta only
              rw [toReq_call]
              rw [ev_wfail _]
              conv => lhs; whnf
              dsimp -iota -beta -eta -zeta only
              (unfold makeP; dsimp only; (repeat (first | rw [if_pos (by first | assumption | omega)] | rw [if_neg (by first | assumption | omega)])); try rfl)
            · rw [hc4]; replace hc4 := of_ine_f hc4; try simp only [llen_eq] at hc4
              subst hc4
              conv => lhs; whnf
              dsimp -iota -beta -eta -zeta only
              rw [toReq_call]
              rw [show strOf { data := #[115, 101, 101, 100] } = seedL from rfl, ev_derive _ _ _ _ (by omega) (by decide) (by simp)]
              conv => lhs; whnf
              dsimp -iota -beta -eta -zeta only
              rw [toReq_call]
              rw [ev_wunique _ _ _ _ _ (by omega) (by omega) (by omega)]
              conv => lhs; whnf
              dsimp -iota -beta -eta -zeta only
              rw [drw (by kernel_rfl)]; conv => lhs; whnf
              dsimp -iota -beta -eta -zeta only
              (unfold makeP; dsimp only; (repeat (first | rw [if_pos (by first | assumption | omega)] | rw [if_neg (by first | assumption | omega)])); try rfl)
          · rw [hc3]; replace hc3 := of_ilt_f hc3; try simp only [llen_eq] at hc3
            conv => lhs; whnf
            dsimp -iota -beta -eta -zeta only
            rw [toReq_call]
            rw [show strOf { data := #[115, 101, 101, 100] } = seedL from rfl, ev_derive _ _ _ _ (by omega) (by decide) (by simp)]
            conv => lhs; whnf
            dsimp -iota -beta -eta -zeta only
            rw [toReq_call]
            rw [ev_wunique _ _ _ _ _ (by omega) (by omega) (by omega)]
            conv => lhs; whnf
            dsimp -iota -beta -eta -zeta only
            rw [drw (by kernel_rfl)]; conv => lhs; whnf
            dsimp -iota -beta -eta -zeta only
            (unfold makeP; dsimp only; (repeat (first | rw [if_pos (by first | assumption | omega)] | rw [if_neg (by first | assumption | omega)])); try rfl)
theorem ev_r11make (secret : List UInt8) (k a h : Int) (o u auth data : List UInt8) (hs : secret.length ≤ 100000) : Y E0 (.call 42 [.sl .u8 secret, .agg [.i k, .i a, .i h, .sl .u8 o, .sl .u8 u], .sl .u8 auth, .sl .u8 data] []) = some (.ret (.tup [.agg (pubX (makeP secret ⟨k, a, h, o, u⟩ auth data).1), .agg (senX (makeP secret ⟨k, a, h, o, u⟩ auth data).2.1), .i (makeP secret ⟨k, a, h, o, u⟩ auth data).2.2]) []) := by
  have hu := uniq_bd k
  have hd := derB_len (key := secret) (label := seedL) (ctx := []) (n := 32) (by omega)
  have hE : lrep (uniq k) (0 : UInt8) = List.replicate (uniq k).toNat 0 := by rw [lrep_eq]
  by_cases hk : k = 2
  · subst hk
    have hr : lrep 17 (0 : UInt8) = List.replicate (uniq 2).toNat 0 := by rw [lrep_eq]; rfl
    rw [Y_go]; conv => lhs; whnf
    dsimp -iota -beta -eta -zeta only
    rw [toReq_call]
    rw [ev_r10size _]
    conv => lhs; whnf
    rw [hE]
    rw [fitn_t (by omega)]
    conv => lhs; whnf
    rw [ieq_t (by omega)]
    conv => lhs; whnf
    dsimp -iota -beta -eta -zeta only
    rw [toReq_call]
    rw [ev_r10check _ _ _ _ _]
    conv => lhs; whnf
    rcases Bool.eq_false_or_eq_true (ine (chkP { kind := 2, attr := a, height := h, policy := o, unique := List.replicate (uniq 2).toNat 0 }) 0) with hc0 | hc0
    · rw [hc0]; replace hc0 := of_ine_t hc0; try simp only [llen_eq] at hc0
      conv => lhs; whnf
      rw [Y_go]; conv => lhs; whnf
      rw [ine_t (by omega)]
      conv => lhs; whnf
      dsimp -iota -beta -eta -zeta only
      (unfold makeP; dsimp only; (repeat (first | rw [if_pos (by first | assumption | omega)] | rw [if_neg (by first | assumption | omega)])); try rfl)
    · rw [hc0]; replace hc0 := of_ine_f hc0; try simp only [llen_eq] at hc0
      conv => lhs; whnf
      rcases Bool.eq_false_or_eq_true (ilt 32 (llen auth)) with hc1 | hc1
      · rw [hc1]; replace hc1 := of_ilt_t hc1; try simp only [llen_eq] at hc1
        conv => lhs; whnf
        rw [Y_go]; conv => lhs; whnf
        rw [ine_t (by omega)]
        conv => lhs; whnf
        dsimp -iota -beta -eta -zeta only
        (unfold makeP; dsimp only; (repeat (first | rw [if_pos (by first | assumption | omega)] | rw [if_neg (by first | assumption | omega)])); try rfl)
      · rw [hc1]; replace hc1 := of_ilt_f hc1; try simp only [llen_eq] at hc1
        conv => lhs; whnf
        rcases Bool.eq_false_or_eq_true (ilt 128 (llen data)) with hc2 | hc2
        · rw [hc2]; replace hc2 := of_ilt_t hc2; try simp only [llen_eq] at hc2
          conv => lhs; whnf
          rw [Y_go]; conv => lhs; whnf
          rw [ine_t (by omega)]
          conv => lhs; whnf
          dsimp -iota -beta -eta -zeta only
          (unfold makeP; dsimp only; (repeat (first | rw [if_pos (by first | assumption | omega)] | rw [if_neg (by first | assumption | omega)])); try rfl)
        · rw [hc2]; replace hc2 := of_ilt_f hc2; try simp only [llen_eq] at hc2
          conv => lhs; whnf
          rcases Bool.eq_false_or_eq_true (ilt 0 (llen data)) with hc3 | hc3
          · rw [hc3]; replace hc3 := of_ilt_t hc3; try simp only [llen_eq] at hc3
            conv => lhs; whnf
            rw [ine_t (by omega)]
            conv => lhs; whnf
            rw [Y_go]; conv => lhs; whnf
            rw [ine_t (by omega)]
            conv => lhs; whnf
            dsimp -iota -beta -eta -zeta only
            (unfold makeP; dsimp only; (repeat (first | rw [if_pos (by first | assumption | omega)] | rw [if_neg (by first | assumption | omega)])); try rfl)
          · rw [hc3]; replace hc3 := of_ilt_f hc3; try simp only [llen_eq] at hc3
            conv => lhs; whnf
            rw [Y_go]; conv => lhs; whnf
            rw [ine_f (by omega)]
            conv => lhs; whnf
            dsimp -iota -beta -eta -zeta only
            rw [toReq_call]
            rw [show strOf { data := #[115, 101, 101, 100] } = seedL from rfl, ev_rderive _ _ _ _ (by omega) (by decide) (by simp)]
            conv => lhs; whnf
            dsimp -iota -beta -eta -zeta only
            rw [toReq_call]
            rw [ev_r11unique _ _ _ _ _ (by omega) (by omega) (by omega)]
            conv => lhs; whnf
            dsimp -iota -beta -eta -zeta only
            rw [drw (by kernel_rfl)]; conv => lhs; whnf
            dsimp -iota -beta -eta -zeta only
            (unfold makeP; dsimp only; (repeat (first | rw [if_pos (by first | assumption | omega)] | rw [if_neg (by first | assumption | omega)])); try rfl)
  · have hr : lrep 32 (0 : UInt8) = List.replicate (uniq k).toNat 0 := by rw [lrep_eq, uniq, if_neg hk]
    rw [Y_go]; conv => lhs; whnf
    dsimp -iota -beta -eta -zeta only
    rw [toReq_call]
    rw [ev_r10size _]
    conv => lhs; whnf
    rw [hE]
    rw [fitn_t (by omega)]
    conv => lhs; whnf
    rw [ieq_t (by omega)]
    conv => lhs; whnf
    dsimp -iota -beta -eta -zeta only
    rw [toReq_call]
    rw [ev_r10check _ _ _ _ _]
    conv => lhs; whnf
    rcases Bool.eq_false_or_eq_true (ine (chkP { kind := k, attr := a, height := h, policy := o, unique := List.replicate (uniq k).toNat 0 }) 0) with hc0 | hc0
    · rw [hc0]; replace hc0 := of_ine_t hc0; try simp only [llen_eq] at hc0
      conv => lhs; whnf
      rw [Y_go]; conv => lhs; whnf
      rw [ine_t (by omega)]
      conv => lhs; whnf
      dsimp -iota -beta -eta -zeta only
      (unfold makeP; dsimp only; (repeat (first | rw [if_pos (by first | assumption | omega)] | rw [if_neg (by first | assumption | omega)])); try rfl)
    · rw [hc0]; replace hc0 := of_ine_f hc0; try simp only [llen_eq] at hc0
      conv => lhs; whnf
      rcases Bool.eq_false_or_eq_true (ilt 32 (llen auth)) with hc1 | hc1
      · rw [hc1]; replace hc1 := of_ilt_t hc1; try simp only [llen_eq] at hc1
        conv => lhs; whnf
        rw [Y_go]; conv => lhs; whnf
        rw [ine_t (by omega)]
        conv => lhs; whnf
        dsimp -iota -beta -eta -zeta only
        (unfold makeP; dsimp only; (repeat (first | rw [if_pos (by first | assumption | omega)] | rw [if_neg (by first | assumption | omega)])); try rfl)
      · rw [hc1]; replace hc1 := of_ilt_f hc1; try simp only [llen_eq] at hc1
        conv => lhs; whnf
        rcases Bool.eq_false_or_eq_true (ilt 128 (llen data)) with hc2 | hc2
        · rw [hc2]; replace hc2 := of_ilt_t hc2; try simp only [llen_eq] at hc2
          conv => lhs; whnf
          rw [Y_go]; conv => lhs; whnf
          rw [ine_t (by omega)]
          conv => lhs; whnf
          dsimp -iota -beta -eta -zeta only
          (unfold makeP; dsimp only; (repeat (first | rw [if_pos (by first | assumption | omega)] | rw [if_neg (by first | assumption | omega)])); try rfl)
        · rw [hc2]; replace hc2 := of_ilt_f hc2; try simp only [llen_eq] at hc2
          conv => lhs; whnf
          rcases Bool.eq_false_or_eq_true (ilt 0 (llen data)) with hc3 | hc3
          · rw [hc3]; replace hc3 := of_ilt_t hc3; try simp only [llen_eq] at hc3
            conv => lhs; whnf
            rcases Bool.eq_false_or_eq_true (ine k 3) with hc4 | hc4
            · rw [hc4]; replace hc4 := of_ine_t hc4; try simp only [llen_eq] at hc4
              conv => lhs; whnf
              rw [Y_go]; conv => lhs; whnf
              rw [ine_t (by omega)]
              conv => lhs; whnf
              dsimp -iota -beta -eta -zeta only
              (unfold makeP; dsimp only; (repeat (first | rw [if_pos (by first | assumption | omega)] | rw [if_neg (by first | assumption | omega)])); try rfl)
            · rw [hc4]; replace hc4 := of_ine_f hc4; try simp only [llen_eq] at hc4
              subst hc4
              conv => lhs; whnf
              rw [Y_go]; conv => lhs; whnf
              rw [ine_f (by omega)]
              conv => lhs; whnf
              dsimp -iota -beta -eta -zeta only
              rw [toReq_call]
              rw [show strOf { data := #[115, 101, 101, 100] } = seedL from rfl, ev_rderive _ _ _ _ (by omega) (by decide) (by simp)]
              conv => lhs; whnf
              dsimp -iota -beta -eta -zeta only
              rw [toReq_call]
              rw [ev_r11unique _ _ _ _ _ (by omega) (by omega) (by omega)]
              conv => lhs; whnf
              dsimp -iota -beta -eta -zeta only
              rw [drw (by kernel_rfl)]; conv => lhs; whnf
              dsimp -iota -beta -eta -zeta only
              (unfold makeP; dsimp only; (repeat (first | rw [if_pos (by first | assumption | omega)] | rw [if_neg (by first | assumption | omega)])); try rfl)
          · rw [hc3]; replace hc3 := of_ilt_f hc3; try simp only [llen_eq] at hc3
            conv => lhs; whnf
            rw [Y_go]; conv => lhs; whnf
            rw [ine_f (by omega)]
            conv => lhs; whnf
            dsimp -iota -beta -eta -zeta only
            rw [toReq_call]
            rw [show strOf { data := #[115, 101, 101, 100] } = seedL from rfl, ev_rderive _ _ _ _ (by omega) (by decide) (by simp)]
            conv => lhs; whnf
            dsimp -iota -beta -eta -zeta only
            rw [toReq_call]
            rw [ev_r11unique _ _ _ _ _ (by omega) (by omega) (by omega)]
            conv => lhs; whnf
            dsimp -iota -beta -eta -zeta only
            rw [drw (by kernel_rfl)]; conv => lhs; whnf
            dsimp -iota -beta -eta -zeta only
            (unfold makeP; dsimp only; (repeat (first | rw [if_pos (by first | assumption | omega)] | rw [if_neg (by first | assumption | omega)])); try rfl)
theorem ev_wkey (a s d : List UInt8) (k t h : Int) (o u : List UInt8) (hs : s.length ≤ 100000) (ho : o.length ≤ 60000) (hu : u.length ≤ 60000) : Y E0 (.call 84 [.agg [.sl .u8 a, .sl .u8 s, .sl .u8 d], .agg [.i k, .i t, .i h, .sl .u8 o, .sl .u8 u]] []) = some (.ret (.tup [.sl .u8 (wkey ⟨a, s, d⟩ (nameB ⟨k, t, h, o, u⟩)), .sl .u8 ((nameB ⟨k, t, h, o, u⟩).take 16)]) []) := by
  have hn := nameB_l32 ⟨k, t, h, o, u⟩
  rw [Y_go]; conv => lhs; whnf
  dsimp -iota -beta -eta -zeta only
  rw [toReq_call]
  rw [ev_aname _ _ _ _ _ (by omega) (by omega)]
  conv => lhs; whnf
  dsimp -iota -beta -eta -zeta only
  rw [toReq_call]
  rw [show strOf { data := #[112, 114, 105, 118, 97, 116, 101] } = privL from rfl, ev_derive _ _ _ _ (by omega) (by decide) (by omega)]
  conv => lhs; whnf
  rw [ieq_t (by omega)]
  conv => lhs; whnf
  rw [lcut_0 (by omega)]
  conv => lhs; whnf
  dsimp -iota -beta -eta -zeta only
  rw [drw (by kernel_rfl)]; conv => lhs; whnf
  (unfold wkey; rfl)
theorem ev_r11key (a s d : List UInt8) (nm : List UInt8) (hs : s.length ≤ 100000) (hn : nm.length ≤ 100000) : Y E0 (.call 93 [.agg [.sl .u8 a, .sl .u8 s, .sl .u8 d], .sl .u8 nm] []) = some (.ret (.sl .u8 (wkey ⟨a, s, d⟩ nm)) []) := by
  rw [Y_go]; conv => lhs; whnf
  dsimp -iota -beta -eta -zeta only
  rw [toReq_call]
  rw [show strOf { data := #[112, 114, 105, 118, 97, 116, 101] } = privL from rfl, ev_rderive _ _ _ _ (by omega) (by decide) (by omega)]
  conv => lhs; whnf
  (unfold wkey; rfl)
theorem ev_wpriv (a s d : List UInt8) (k t h : Int) (o u a' s' d' : List UInt8) (hs : s.length ≤ 100000) (ho : o.length ≤ 60000) (hu : u.length ≤ 60000) : Y E0 (.call 47 [.agg [.sl .u8 a, .sl .u8 s, .sl .u8 d], .agg [.i k, .i t, .i h, .sl .u8 o, .sl .u8 u], .agg [.sl .u8 a', .sl .u8 s', .sl .u8 d']] []) = some (.ret (.sl .u8 (privB ⟨a, s, d⟩ ⟨k, t, h, o, u⟩ ⟨a', s', d'⟩)) []) := by
  have hn := nameB_l32 ⟨k, t, h, o, u⟩
  have he := encP_len (p := ⟨k, t, h, o, u⟩) (by simp only; omega) (by simp only; omega)
  have hw := wkey_32 ⟨a, s, d⟩ (nameB ⟨k, t, h, o, u⟩)
  simp only at he
  rw [Y_go]; conv => lhs; whnf
  dsimp -iota -beta -eta -zeta only
  rw [toReq_call]
  rw [ev_wkey _ _ _ _ _ _ _ _ (by omega) (by omega) (by omega)]
  conv => lhs; whnf
  dsimp -iota -beta -eta -zeta only
  rw [toReq_call]
  rw [ev_blob _ _ (by (simp only [sha256_len, fr1_len, fr2_len, fr3_len, nameB_l32, wkey_32, uintB_l2, uintB_l1, blobB_l, LL] at * <;> omega))]
  conv => lhs; whnf
  dsimp -iota -beta -eta -zeta only
  rw [toReq_call]
  rw [ev_blob _ _ (by (simp only [sha256_len, fr1_len, fr2_len, fr3_len, nameB_l32, wkey_32, uintB_l2, uintB_l1, blobB_l, LL] at * <;> omega))]
  conv => lhs; whnf
  dsimp -iota -beta -eta -zeta only
  rw [toReq_call]
  rw [ev_blob _ _ (by (simp only [sha256_len, fr1_len, fr2_len, fr3_len, nameB_l32, wkey_32, uintB_l2, uintB_l1, blobB_l, LL] at * <;> omega))]
  conv => lhs; whnf
  dsimp -iota -beta -eta -zeta only
  rw [drw (by kernel_rfl)]; conv => lhs; whnf
  dsimp -iota -beta -eta -zeta only
  rw [toReq_call]
  rw [ev_aenc _ _ _ _ _ (by omega) (by omega)]
  conv => lhs; whnf
  dsimp -iota -beta -eta -zeta only
  rw [toReq_call]
  rw [ev_seal _ _ _ _ (by omega) (by omega)]
  conv => lhs; whnf
  (unfold privB plainS; rfl)
theorem ev_r11priv (a s d : List UInt8) (k t h : Int) (o u a' s' d' : List UInt8) (hs : s.length ≤ 100000) (ho : o.length ≤ 60000) (hu : u.length ≤ 60000) : Y E0 (.call 49 [.agg [.sl .u8 a, .sl .u8 s, .sl .u8 d], .agg [.i k, .i t, .i h, .sl .u8 o, .sl .u8 u], .agg [.sl .u8 a', .sl .u8 s', .sl .u8 d']] []) = some (.ret (.nm 0) [some (.row 5 .u8 (privB ⟨a, s, d⟩ ⟨k, t, h, o, u⟩ ⟨a', s', d'⟩))]) := by
  have hn := nameB_l32 ⟨k, t, h, o, u⟩
  have he := encP_len (p := ⟨k, t, h, o, u⟩) (by simp only; omega) (by simp only; omega)
  have hw := wkey_32 ⟨a, s, d⟩ (nameB ⟨k, t, h, o, u⟩)
  simp only at he
  rw [Y_go]; conv => lhs; whnf
  dsimp -iota -beta -eta -zeta only
  rw [toReq_call]
  rw [ev_r10name _ _ _ _ _ (by omega) (by omega)]
  conv => lhs; whnf
  dsimp -iota -beta -eta -zeta only
  rw [toReq_call]
  rw [ev_r3blob _ _ (by (simp only [sha256_len, fr1_len, fr2_len, fr3_len, nameB_l32, wkey_32, uintB_l2, uintB_l1, blobB_l, LL] at * <;> omega))]
  conv => lhs; whnf
  dsimp -iota -beta -eta -zeta only
  rw [toReq_call]
  rw [ev_r3blob _ _ (by (simp only [sha256_len, fr1_len, fr2_len, fr3_len, nameB_l32, wkey_32, uintB_l2, uintB_l1, blobB_l, LL] at * <;> omega))]
  conv => lhs; whnf
  dsimp -iota -beta -eta -zeta only
  rw [toReq_call]
  rw [ev_r3blob _ _ (by (simp only [sha256_len, fr1_len, fr2_len, fr3_len, nameB_l32, wkey_32, uintB_l2, uintB_l1, blobB_l, LL] at * <;> omega))]
  conv => lhs; whnf
  dsimp -iota -beta -eta -zeta only
  rw [drw (by kernel_rfl)]; conv => lhs; whnf
  dsimp -iota -beta -eta -zeta only
  rw [toReq_call]
  rw [ev_r11key _ _ _ _ (by omega) (by omega)]
  conv => lhs; whnf
  rw [lcut_0 (by omega)]
  conv => lhs; whnf
  dsimp -iota -beta -eta -zeta only
  rw [toReq_call]
  rw [ev_r10enc _ _ _ _ _ (by omega) (by omega)]
  conv => lhs; whnf
  dsimp -iota -beta -eta -zeta only
  rw [toReq_call]
  rw [ev_r4seal _ _ _ _ (by omega) (by omega)]
  conv => lhs; whnf
  dsimp -iota -beta -eta -zeta only
  rw [drw (by kernel_rfl)]; conv => lhs; whnf
  (unfold privB plainS; rfl)
theorem ev_wopen (a s d : List UInt8) (k t h : Int) (o u x : List UInt8) (hs : s.length ≤ 100000) (ho : o.length ≤ 60000) (hu : u.length ≤ 60000) (hx : x.length ≤ 1000000) : Y E0 (.call 46 [.agg [.sl .u8 a, .sl .u8 s, .sl .u8 d], .agg [.i k, .i t, .i h, .sl .u8 o, .sl .u8 u], .sl .u8 x] []) = some (.ret (.tup [.agg (senX (openS ⟨a, s, d⟩ ⟨k, t, h, o, u⟩ x).1), .i (openS ⟨a, s, d⟩ ⟨k, t, h, o, u⟩ x).2]) []) := by
  have hn := nameB_l32 ⟨k, t, h, o, u⟩
  have he := encP_len (p := ⟨k, t, h, o, u⟩) (by simp only; omega) (by simp only; omega)
  have hw := wkey_32 ⟨a, s, d⟩ (nameB ⟨k, t, h, o, u⟩)
  simp only at he
  have eo := ev_open (wkey ⟨a, s, d⟩ (nameB ⟨k, t, h, o, u⟩)) (encP ⟨k, t, h, o, u⟩) x (by omega) (by omega) (by omega)
  have hl := openB_len (key := wkey ⟨a, s, d⟩ (nameB ⟨k, t, h, o, u⟩)) (ad := encP ⟨k, t, h, o, u⟩) (b := x)
  unfold openS
  generalize openB (wkey ⟨a, s, d⟩ (nameB ⟨k, t, h, o, u⟩)) (encP ⟨k, t, h, o, u⟩) x = R at *
  obtain ⟨b, e⟩ := R
  dsimp only at eo hl ⊢
  have hb : b.length ≤ 4294967296 := by omega
  by_cases hz : e = 0
  · subst hz
    rw [if_neg (by simp)]
    rw [Y_go]; conv => lhs; whnf
    dsimp -iota -beta -eta -zeta only
    rw [toReq_call]
    rw [ev_wkey _ _ _ _ _ _ _ _ (by omega) (by omega) (by omega)]
    conv => lhs; whnf
    dsimp -iota -beta -eta -zeta only
    rw [toReq_call]
    rw [ev_aenc _ _ _ _ _ (by omega) (by omega)]
    conv => lhs; whnf
    dsimp -iota -beta -eta -zeta only
    rw [toReq_call]
    rw [eo]
    conv => lhs; whnf
    rw [ine_f (by omega)]
    conv => lhs; whnf
    dsimp -iota -beta -eta -zeta only
    rw [toReq_call]
    rw [ev_new _ (by omega)]
    conv => lhs; whnf
    dsimp -iota -beta -eta -zeta only
    rw [toReq_call]
    rw [show Y E0 (.call 88 [.pa 0 0, .i 32] [.var [.sl .u8 b, .i 0, .i 0]]) = _ from ev_rblob b 0 0 32 hb (Nat.zero_le _)]; generalize g0 : rdB b 0 0 32 = x0; obtain ⟨v0, p0, er0⟩ := x0; have k0 : p0 ≤ b.length := (by have := rdB_le (b := b) (at' := 0) (e := 0) (most := 32) (Nat.zero_le _); rw [g0] at this; exact this); have l0 : v0.length ≤ b.length := (by have := rdB_len (b := b) (at' := 0) (e := 0) (most := 32); rw [g0] at this; exact this); have m0 : v0.length ≤ 32 := (by have := rdB_most (b := b) (at' := 0) (e := 0) (most := 32) (by decide); rw [g0] at this; simp only at this; omega)
    conv => lhs; whnf
    dsimp -iota -beta -eta -zeta only
    rw [toReq_call]
    rw [ev_rblob b p0 er0 32 hb k0]; generalize g1 : rdB b p0 er0 32 = x1; obtain ⟨v1, p1, er1⟩ := x1; have k1 : p1 ≤ b.length := (by have := rdB_le (b := b) (at' := p0) (e := er0) (most := 32) k0; rw [g1] at this; exact this); have l1 : v1.length ≤ b.length := (by have := rdB_len (b := b) (at' := p0) (e := er0) (most := 32); rw [g1] at this; exact this); have m1 : v1.length ≤ 32 := (by have := rdB_most (b := b) (at' := p0) (e := er0) (most := 32) (by decide); rw [g1] at this; simp only at this; omega)
    conv => lhs; whnf
    dsimp -iota -beta -eta -zeta only
    rw [toReq_call]
    rw [ev_rblob b p1 er1 128 hb k1]; generalize g2 : rdB b p1 er1 128 = x2; obtain ⟨v2, p2, er2⟩ := x2; have k2 : p2 ≤ b.length := (by have := rdB_le (b := b) (at' := p1) (e := er1) (most := 128) k1; rw [g2] at this; exact this); have l2 : v2.length ≤ b.length := (by have := rdB_len (b := b) (at' := p1) (e := er1) (most := 128); rw [g2] at this; exact this); have m2 : v2.length ≤ 128 := (by have := rdB_most (b := b) (at' := p1) (e := er1) (most := 128) (by decide); rw [g2] at this; simp only at this; omega)
    conv => lhs; whnf
    dsimp -iota -beta -eta -zeta only
    rw [toReq_call]
    rw [ev_rend _ _ _ (by omega) (by omega)]
    conv => lhs; whnf
    rcases Bool.eq_false_or_eq_true (ine (rdE b p2 er2) 0) with hc0 | hc0
    · rw [hc0]; replace hc0 := of_ine_t hc0; try simp only [llen_eq] at hc0
      conv => lhs; whnf
      dsimp -iota -beta -eta -zeta only
      (rw [readS_of g0 g1 g2, if_pos (by omega)]; try rfl)
    · rw [hc0]; replace hc0 := of_ine_f hc0; try simp only [llen_eq] at hc0
      conv => lhs; whnf
      dsimp -iota -beta -eta -zeta only
      rw [toReq_call]
      rw [ev_wunique _ _ _ _ _ (by omega) (by omega) (by omega)]
      conv => lhs; whnf
      dsimp -iota -beta -eta -zeta only
      rw [toReq_call]
      rw [ev_equal _ _ (by omega)]
      conv => lhs; whnf
      dsimp -iota -beta -eta -zeta only
      rw [drw (by kernel_rfl)]; conv => lhs; whnf
      rw [bnot_eq]; conv => lhs; whnf
      rcases Bool.eq_false_or_eq_true (decide (u = uniB k h { auth := v0, seed := v1, data := v2 })) with hc1 | hc1
      · rw [hc1]; replace hc1 := of_decide_eq_true hc1; try simp only at hc1
        conv => lhs; whnf
        dsimp -iota -beta -eta -zeta only
        (rw [readS_of g0 g1 g2, if_neg (by omega), if_neg (by first | assumption | simp_all)]; try rfl)
      · rw [hc1]; replace hc1 := of_decide_eq_false hc1; try simp only at hc1
        conv => lhs; whnf
        dsimp -iota -beta -eta -zeta only
        (rw [readS_of g0 g1 g2, if_neg (by omega), if_pos (by first | assumption | simp_all)]; try rfl)
  · rw [if_pos hz]
    rw [Y_go]; conv => lhs; whnf
    dsimp -iota -beta -eta -zeta only
    rw [toReq_call]
    rw [ev_wkey _ _ _ _ _ _ _ _ (by omega) (by omega) (by omega)]
    conv => lhs; whnf
    dsimp -iota -beta -eta -zeta only
    rw [toReq_call]
    rw [ev_aenc _ _ _ _ _ (by omega) (by omega)]
    conv => lhs; whnf
    dsimp -iota -beta -eta -zeta only
    rw [toReq_call]
    rw [eo]
    conv => lhs; whnf
    rw [ine_t (by omega)]
    conv => lhs; whnf
    dsimp -iota -beta -eta -zeta only
    rfl
end Go.Proofs.YtbjikfgpfcmcaaaDoor

namespace Go.Ax
open Go.Eng
def objP (secret : List UInt8) (p : Pub) (auth data : List UInt8) : Pub × Sen :=
  ((makeP secret (validP p) (auth.take 32) ((if (validP p).kind = 3 then data else []).take 128)).1, (makeP secret (validP p) (auth.take 32) ((if (validP p).kind = 3 then data else []).take 128)).2.1)
theorem objP_ok (secret : List UInt8) (p : Pub) (auth data : List UInt8) : ∃ (k a h : Int) (o : List UInt8) (s : Sen), objP secret p auth data = (⟨k, a, h, o, uniB k h s⟩, s) ∧ OkS s ∧ o.length ≤ 32 ∧ 0 ≤ h ∧ h ≤ 3 := by
  have hc := validP_chk p
  have hp := validP_policy p
  have hA : (auth.take 32).length ≤ 32 := by rw [List.length_take]; omega
  have hD : ((if (validP p).kind = 3 then data else []).take 128).length ≤ 128 := by rw [List.length_take]; omega
  have hm := make_okP (secret := secret) hc hA hD (fun q => by
    by_cases h3 : (validP p).kind = 3
    · exact h3
    · rw [if_neg h3] at q; simp at q)
  have hoS := make_okS secret _ _ hA hD
  have hh := (okP_of hc).height
  exact ⟨_, _, _, _, _, by unfold objP; rw [hm], hoS, hp, hh.1, hh.2⟩
theorem set_ne {U : List UInt8} {i : Nat} {x : UInt8} (hi : i < U.length) (hx : x ≠ 0) : U.set i (U[i] ^^^ x) ≠ U := by
  intro e
  have h1 : (U.set i (U[i] ^^^ x))[i]'(by simpa using hi) = U[i] := by simp only [e]
  rw [List.getElem_set_self] at h1
  have h2 : U[i] ^^^ (U[i] ^^^ x) = U[i] ^^^ U[i] := by rw [h1]
  rw [← UInt8.xor_assoc, UInt8.xor_self, UInt8.zero_xor] at h2
  exact hx h2
theorem chk_awake : chkP ⟨3, 1, 0, [], List.replicate 32 0⟩ = 0 := by decide
theorem makeP_any (secret : List UInt8) (k a h : Int) (o u u' auth data : List UInt8) : makeP secret ⟨k, a, h, o, u⟩ auth data = makeP secret ⟨k, a, h, o, u'⟩ auth data := rfl
theorem privB_le (par s : Sen) (p : Pub) : (privB par p s).length ≤ 1200 := by
  unfold privB
  have hn := nameB_l32 p
  by_cases h : 1024 < (plainS s).length
  · rw [sealB, if_pos (.inr h)]; simp
  · rw [sealB_len (by rw [List.length_take]; omega) (by omega), List.length_take]; omega
end Go.Ax
namespace Go.Proofs.YtbjikfgpfcmcaaaDoor
open Go Go.Ax Go.Eng
set_option linter.unusedVariables false
set_option linter.unusedSimpArgs false
attribute [local irreducible] iadd isub imul iquo irem ibit ineg ieq ine ilt ile ishl ishr beq' bnot and' seq' u8op u8rem u32op u64op u8shr u8shl u64shr u64shl u32shr u32shl i64w u8i u64i iu8 iu32 iu64 u8u64 u64u8 u32u8 u64cmp u8cmp u32cmp llen lget linb lset lcut lrep lapp lcpy lemp fits fitn sealed drawChk fpSame
attribute [local irreducible] pubK sigK verK chkP nameB uniB wkey openB sealB encP makeP privB openS sameS sameP fewPub validP
set_option maxHeartbeats 4000000
set_option maxRecDepth 100000
theorem sm11_loop (ls : List (List UInt8)) (hn : ls.length ≤ 1000) : ∀ (n j : Nat), j + n = ls.length → Y E0 (.loop 38 0 0 0 [(0, .sl (.sl .u8) ls), (3, .i (j : Int))] []) = if ∀ l ∈ ls.drop j, l.length ≤ 140 then some (.fin (.exit 0) 0 [] []) else some (.fin .ret 0 [(2, .b false)] [])
  | 0, j, hj => by
    rw [if_pos (by rw [List.drop_eq_nil_of_le (by omega)]; simp)]
    rw [Y_go]; conv => lhs; whnf
    rw [ilt_f (by (simp only [sha256_len, fr1_len, fr2_len, fr3_len, nameB_l32, wkey_32, uintB_l2, uintB_l1, blobB_l, LL] at * <;> omega))]
    conv => lhs; whnf
  | n + 1, j, hj => by
    have ih := sm11_loop ls hn n (j + 1) (by omega)
    have hd := List.drop_eq_getElem_cons (l := ls) (i := j) (by omega)
    rw [hd]
    have hg : lget ls (j : Int) = some (ls[j]'(by omega)) := lget_n (by omega)
    generalize ls[j]'(by omega) = x at *
    clear hd
    have hj2 : (j : Int) < llen ls := by rw [llen_eq]; omega
    by_cases hx : x.length ≤ 140
    · by_cases ht : ∀ l ∈ ls.drop (j + 1), l.length ≤ 140
      · rw [if_pos ht] at ih
        rw [if_pos (by simpa [hx] using ht)]
        rw [Y_go]; conv => lhs; whnf
        rw [ilt_t (by omega)]
        conv => lhs; whnf
        rw [hg]; conv => lhs; whnf
        rw [ilt_f (by (simp only [sha256_len, fr1_len, fr2_len, fr3_len, nameB_l32, wkey_32, uintB_l2, uintB_l1, blobB_l, LL] at * <;> omega))]
        conv => lhs; whnf
        dsimp -iota -beta -eta -zeta only
        rw [iadd_eq (by omega)]
        refine (congrArg (Y E0) ?_).trans ih; (try simp only [Rq.loop.injEq, Rq.call.injEq, Rq.ops.injEq, List.cons.injEq, Prod.mk.injEq, AV.i.injEq, AV.sl.injEq, AV.st.injEq, AV.b.injEq, AV.u8.injEq, AV.nm.injEq, Option.some.injEq, Rs.row.injEq, Rs.var.injEq, heq_eq_eq, true_and, and_true]); (try (repeat' apply And.intro)); all_goals first | (with_reducible rfl) | omega | (rw [iadd_eq (by omega)]; omega) | (rw [isub_eq (by omega)]; omega)
      · rw [if_neg ht] at ih
        rw [if_neg (by simpa [hx] using ht)]
        rw [Y_go]; conv => lhs; whnf
        rw [ilt_t (by omega)]
        conv => lhs; whnf
        rw [hg]; conv => lhs; whnf
        rw [ilt_f (by (simp only [sha256_len, fr1_len, fr2_len, fr3_len, nameB_l32, wkey_32, uintB_l2, uintB_l1, blobB_l, LL] at * <;> omega))]
        conv => lhs; whnf
        dsimp -iota -beta -eta -zeta only
        rw [iadd_eq (by omega)]
        refine (congrArg (Y E0) ?_).trans ih; (try simp only [Rq.loop.injEq, Rq.call.injEq, Rq.ops.injEq, List.cons.injEq, Prod.mk.injEq, AV.i.injEq, AV.sl.injEq, AV.st.injEq, AV.b.injEq, AV.u8.injEq, AV.nm.injEq, Option.some.injEq, Rs.row.injEq, Rs.var.injEq, heq_eq_eq, true_and, and_true]); (try (repeat' apply And.intro)); all_goals first | (with_reducible rfl) | omega | (rw [iadd_eq (by omega)]; omega) | (rw [isub_eq (by omega)]; omega)
    · rw [if_neg (by intro h; exact hx (h x (by simp)))]
      clear ih
      rw [Y_go]; conv => lhs; whnf
      rw [ilt_t (by omega)]
      conv => lhs; whnf
      rw [hg]; conv => lhs; whnf
      rw [ilt_t (by (simp only [sha256_len, fr1_len, fr2_len, fr3_len, nameB_l32, wkey_32, uintB_l2, uintB_l1, blobB_l, LL] at * <;> omega))]
      conv => lhs; whnf
theorem sm11_all (ls : List (List UInt8)) (hn : ls.length ≤ 1000) : Y E0 (.call 38 [.sl (.sl .u8) ls] []) = some (.ret (.b (decide (∀ l ∈ ls, l.length ≤ 140))) []) := by
  have hl := sm11_loop ls hn ls.length 0 (by omega)
  rw [List.drop_zero, show ((0 : Nat) : Int) = 0 from rfl] at hl
  by_cases h : ∀ l ∈ ls, l.length ≤ 140
  · rw [if_pos h] at hl
    rw [decide_eq_true h]
    rw [Y_go]; conv => lhs; whnf
    dsimp -iota -beta -eta -zeta only
    rw [toReq_loop]
    rw [hl]
    conv => lhs; whnf
  · rw [if_neg h] at hl
    rw [decide_eq_false h]
    rw [Y_go]; conv => lhs; whnf
    dsimp -iota -beta -eta -zeta only
    rw [toReq_loop]
    rw [hl]
    conv => lhs; whnf
theorem ev_small11_3 (a b c : List UInt8) : Y E0 (.call 38 [.sl (.sl .u8) [a, b, c]] []) = some (.ret (.b (decide (a.length ≤ 140 ∧ b.length ≤ 140 ∧ c.length ≤ 140))) []) := by
  rw [sm11_all _ (by simp)]
  exact congrArg (fun b => some (Rsp.ret (AV.b b) [])) (decide_eq_decide.2 (by simp))
theorem ev_small11_4 (a b c d : List UInt8) : Y E0 (.call 38 [.sl (.sl .u8) [a, b, c, d]] []) = some (.ret (.b (decide (a.length ≤ 140 ∧ b.length ≤ 140 ∧ c.length ≤ 140 ∧ d.length ≤ 140))) []) := by
  rw [sm11_all _ (by simp)]
  exact congrArg (fun b => some (Rsp.ret (AV.b b) [])) (decide_eq_decide.2 (by simp))
theorem ev_awake11 : Y E0 (.call 37 [] []) = some (.ret (.b true) []) := by
  have hm := make_okP (secret := [UInt8.ofNat 1]) (auth := []) (data := [UInt8.ofNat 7]) (p := ⟨3, 1, 0, [], List.replicate 32 0⟩) chk_awake (by simp) (by simp) (fun _ => rfl)
  have hoS := make_okS [UInt8.ofNat 1] [] [UInt8.ofNat 7] (by simp) (by simp)
  have em := ev_wmake [UInt8.ofNat 1] 3 1 0 [] [] [] [UInt8.ofNat 7] (by simp)
  rw [makeP_any [UInt8.ofNat 1] 3 1 0 [] [] (List.replicate 32 0), hm] at em
  have hU : (uniB 3 0 ⟨[], derB [UInt8.ofNat 1] seedL [] 32, [UInt8.ofNat 7]⟩).length = 32 := by rw [uniB, if_neg (by decide), sha256_len]
  have hop := open_priv (par := ⟨[], [], []⟩) (p := ⟨3, 1, 0, [], uniB 3 0 ⟨[], derB [UInt8.ofNat 1] seedL [] 32, [UInt8.ofNat 7]⟩⟩) hoS
  rw [if_neg (by simp)] at hop
  generalize uniB 3 0 ⟨[], derB [UInt8.ofNat 1] seedL [] 32, [UInt8.ofNat 7]⟩ = U at *
  generalize derB [UInt8.ofNat 1] seedL [] 32 = S at *
  have hS32 := hoS.seed
  simp only at hS32
  have ep := ev_wpriv [] [] [] 3 1 0 [] U [] S [UInt8.ofNat 7] (by simp) (by simp) (by omega)
  have eo := ev_wopen [] [] [] 3 1 0 [] U (privB ⟨[], [], []⟩ ⟨3, 1, 0, [], U⟩ ⟨[], S, [UInt8.ofNat 7]⟩) (by simp) (by simp) (by omega) (Nat.le_trans (privB_le _ _ _) (by omega))
  rw [hop] at eo
  dsimp only [pubX, senX] at em eo
  rw [Y_go]; conv => lhs; whnf
  dsimp -iota -beta -eta -zeta only
  rw [toReq_call]
  rw [em]
  conv => lhs; whnf
  dsimp -iota -beta -eta -zeta only
  rw [toReq_call]
  rw [ep]
  conv => lhs; whnf
  dsimp -iota -beta -eta -zeta only
  rw [toReq_call]
  rw [eo]
  conv => lhs; whnf
  dsimp -iota -beta -eta -zeta only
  rw [drw (by kernel_rfl)]; conv => lhs; whnf
  rw [ieq_t (by omega)]
  conv => lhs; whnf
  rw [ieq_t (by (simp only [sha256_len, fr1_len, fr2_len, fr3_len, nameB_l32, wkey_32, uintB_l2, uintB_l1, blobB_l, LL] at * <;> omega))]
  conv => lhs; whnf
  rw [ieq_t (by omega)]
  conv => lhs; whnf
  rw [ieq_t (by (simp only [sha256_len, fr1_len, fr2_len, fr3_len, nameB_l32, wkey_32, uintB_l2, uintB_l1, blobB_l, LL] at * <;> omega))]
  conv => lhs; whnf
  rw [lget_i (by decide)]
  conv => lhs; whnf
  rw [Y_go]; conv => lhs; whnf
  rw [u8cmp_eql, ieq_t (by rfl)]
theorem ev_WrapMake_m (secret : List UInt8) (k a t : Int) (o u auth data : List UInt8) (hs : secret.length ≤ 140) (ho : o.length ≤ 60) : Y E0 (.ops ⟨80, 12, 0⟩ [true, true, true, true, true, false, false] 0 [Fr.seq [true, true, true, true, true, false, true] 0, Fr.seq [true, true, true, true, true, true] 0, Fr.ret] 1 [(0, .sl .u8 secret), (2, .sl .u8 auth), (3, .sl .u8 data), (11, .pa 0 0)] [(0, some (.var [.i k, .i a, .i t, .sl .u8 o, .sl .u8 u]))]) = some (.ret (.b true) []) := by
  have ea := ev_wmake secret k a t o u auth data (by omega)
  have eb := ev_r11make secret k a t o u auth data (by omega)
  have ea1 := ev_wmake secret k a 1 o u auth data (by omega)
  have eb1 := ev_r11make secret k a 1 o u auth data (by omega)
  have hl := make_len (secret := secret) (auth := auth) (data := data) (p := ⟨k, a, t, o, u⟩)
  have hl1 := make_len (secret := secret) (auth := auth) (data := data) (p := ⟨k, a, 1, o, u⟩)
  generalize makeP secret ⟨k, a, t, o, u⟩ auth data = R at *
  generalize makeP secret ⟨k, a, 1, o, u⟩ auth data = R1 at *
  obtain ⟨⟨rk, ra, rt, ro, ru⟩, ⟨sa, ss, sd⟩, e⟩ := R
  obtain ⟨⟨rk1, ra1, rt1, ro1, ru1⟩, ⟨sa1, ss1, sd1⟩, e1⟩ := R1
  dsimp only [pubX, senX] at *
  have hs : ∀ p, sameP p p = true := fun p => by rw [sameP_iff, decide_eq_true rfl]
  rw [Y_go]; conv => lhs; whnf
  rcases Bool.eq_false_or_eq_true (ieq k 2) with hc0 | hc0
  · rw [hc0]; replace hc0 := of_ieq_t hc0; try simp only [llen_eq] at hc0
    subst hc0
    conv => lhs; whnf
    rcases Bool.eq_false_or_eq_true (ilt 1 t) with hc1 | hc1
    · rw [hc1]; replace hc1 := of_ilt_t hc1; try simp only [llen_eq] at hc1
      conv => lhs; whnf
      rcases Bool.eq_false_or_eq_true (ile t 3) with hc2 | hc2
      · rw [hc2]; replace hc2 := of_ile_t hc2; try simp only [llen_eq] at hc2
        conv => lhs; whnf
        rw [Y_go]; conv => lhs; whnf
        dsimp -iota -beta -eta -zeta only
        rw [toReq_call]
        rw [ea1]
        conv => lhs; whnf
        dsimp -iota -beta -eta -zeta only
        rw [toReq_call]
        rw [eb1]
        conv => lhs; whnf
        rw [ieq_t (by omega)]
        conv => lhs; whnf
        dsimp -iota -beta -eta -zeta only
        rw [toReq_call]
        rw [ev_r10same _ _ _ _ _ _ _ _ _ _ (by omega) (by omega), hs]
        conv => lhs; whnf
        dsimp -iota -beta -eta -zeta only
        rw [toReq_call]
        rw [ev_r11same _ _ _ _ _ _ (by omega) (by omega) (by omega), sameS_refl]
        conv => lhs; whnf
      · rw [hc2]; replace hc2 := of_ile_f hc2; try simp only [llen_eq] at hc2
        conv => lhs; whnf
        rw [Y_go]; conv => lhs; whnf
        dsimp -iota -beta -eta -zeta only
        rw [toReq_call]
        rw [ea]
        conv => lhs; whnf
        dsimp -iota -beta -eta -zeta only
        rw [toReq_call]
        rw [eb]
        conv => lhs; whnf
        rw [ieq_t (by omega)]
        conv => lhs; whnf
        dsimp -iota -beta -eta -zeta only
        rw [toReq_call]
        rw [ev_r10same _ _ _ _ _ _ _ _ _ _ (by omega) (by omega), hs]
        conv => lhs; whnf
        dsimp -iota -beta -eta -zeta only
        rw [toReq_call]
        rw [ev_r11same _ _ _ _ _ _ (by omega) (by omega) (by omega), sameS_refl]
        conv => lhs; whnf
    · rw [hc1]; replace hc1 := of_ilt_f hc1; try simp only [llen_eq] at hc1
      conv => lhs; whnf
      rw [Y_go]; conv => lhs; whnf
      dsimp -iota -beta -eta -zeta only
      rw [toReq_call]
      rw [ea]
      conv => lhs; whnf
      dsimp -iota -beta -eta -zeta only
      rw [toReq_call]
      rw [eb]
      conv => lhs; whnf
      rw [ieq_t (by omega)]
      conv => lhs; whnf
      dsimp -iota -beta -eta -zeta only
      rw [toReq_call]
      rw [ev_r10same _ _ _ _ _ _ _ _ _ _ (by omega) (by omega), hs]
      conv => lhs; whnf
      dsimp -iota -beta -eta -zeta only
      rw [toReq_call]
      rw [ev_r11same _ _ _ _ _ _ (by omega) (by omega) (by omega), sameS_refl]
      conv => lhs; whnf
  · rw [hc0]; replace hc0 := of_ieq_f hc0; try simp only [llen_eq] at hc0
    conv => lhs; whnf
    rw [Y_go]; conv => lhs; whnf
    dsimp -iota -beta -eta -zeta only
    rw [toReq_call]
    rw [ea]
    conv => lhs; whnf
    dsimp -iota -beta -eta -zeta only
    rw [toReq_call]
    rw [eb]
    conv => lhs; whnf
    rw [ieq_t (by omega)]
    conv => lhs; whnf
    dsimp -iota -beta -eta -zeta only
    rw [toReq_call]
    rw [ev_r10same _ _ _ _ _ _ _ _ _ _ (by omega) (by omega), hs]
    conv => lhs; whnf
    dsimp -iota -beta -eta -zeta only
    rw [toReq_call]
    rw [ev_r11same _ _ _ _ _ _ (by omega) (by omega) (by omega), sameS_refl]
    conv => lhs; whnf
theorem ev_WrapMake (secret : List UInt8) (k a t : Int) (o u auth data : List UInt8) (valid : Bool) : Y E0 (.call 12 [.sl .u8 secret, .agg [.i k, .i a, .i t, .sl .u8 o, .sl .u8 u], .sl .u8 auth, .sl .u8 data, .b valid] []) = some (.ret (.b true) []) := by
  have hfew := fun h => fewPub_t (p := ⟨k, a, t, o, u⟩) h
  have hpub := ev_pubP k a t o u
  have hc := validP_chk ⟨k, a, t, o, u⟩
  have hp := validP_policy ⟨k, a, t, o, u⟩
  have hu := validP_unique ⟨k, a, t, o, u⟩
  generalize validP ⟨k, a, t, o, u⟩ = Q at *
  obtain ⟨qk, qa, qt, qo, qu⟩ := Q
  dsimp only [pubX] at *
  rw [Y_go]; conv => lhs; whnf
  dsimp -iota -beta -eta -zeta only
  rw [toReq_call]
  rw [ev_awake11]
  conv => lhs; whnf
  rw [bnot_eq]; conv => lhs; whnf
  dsimp -iota -beta -eta -zeta only
  rw [toReq_call]
  rw [ev_small11_3 _ _ _]
  conv => lhs; whnf
  rw [bnot_eq]; conv => lhs; whnf
  rcases Bool.eq_false_or_eq_true (decide (secret.length ≤ 140 ∧ auth.length ≤ 140 ∧ data.length ≤ 140)) with hc0 | hc0
  · rw [hc0]; replace hc0 := of_decide_eq_true hc0; try simp only at hc0
    conv => lhs; whnf
    dsimp -iota -beta -eta -zeta only
    rw [toReq_call]
    rw [ev_fewp _ _ _ _ _]
    conv => lhs; whnf
    rw [bnot_eq]; conv => lhs; whnf
    rcases Bool.eq_false_or_eq_true (fewPub { kind := k, attr := a, height := t, policy := o, unique := u }) with hc1 | hc1
    · rw [hc1]
      conv => lhs; whnf
      rcases Bool.eq_false_or_eq_true (valid) with hc2 | hc2
      · rw [hc2]
        conv => lhs; whnf
        dsimp -iota -beta -eta -zeta only
        rw [toReq_call]
        rw [hpub]
        conv => lhs; whnf
        rw [ev_WrapMake_m _ _ _ _ _ _ _ _ (by omega) (by first | omega | (have hq := hfew (by assumption); omega))]
      · rw [hc2]
        conv => lhs; whnf
        rw [ev_WrapMake_m _ _ _ _ _ _ _ _ (by omega) (by first | omega | (have hq := hfew (by assumption); omega))]
    · rw [hc1]
      conv => lhs; whnf
  · rw [hc0]; replace hc0 := of_decide_eq_false hc0; try simp only at hc0
    conv => lhs; whnf
theorem ev_WrapTrip_m (pa ps pd : List UInt8) (qk qa qt : Int) (qo qu secret auth data : List UInt8) (v : AV) (hv : v = .sl .u8 data ∨ (v = .nil ∧ data = [])) (hk : 0 < data.length → qk = 3) (hc : chkP ⟨qk, qa, qt, qo, qu⟩ = 0) (hp : qo.length ≤ 32) (h1 : ps.length ≤ 140) (h2 : secret.length ≤ 140) (h3 : auth.length ≤ 140) (h4 : data.length ≤ 140) : Y E0 (.drw ⟨82, 13, 0⟩ [true, true, true, true, true, false] 0 [] [Fr.seq [true, true, true, true, true, true] 0, Fr.ret] 2 [(2, .sl .u8 secret), (3, .sl .u8 auth), (4, v), (5, .pa 0 0), (11, .pa 1 0)] [(0, some (.var [.sl .u8 pa, .sl .u8 ps, .sl .u8 pd])), (1, some (.var [.i qk, .i qa, .i qt, .sl .u8 qo, .sl .u8 qu]))]) = some (.ret (.b true) []) := by
  have hA : (List.take (Int.toNat 32) auth).length ≤ 32 := by rw [List.length_take, show Int.toNat 32 = 32 from rfl]; omega
  have hD : (List.take (Int.toNat 128) data).length ≤ 128 := by rw [List.length_take, show Int.toNat 128 = 128 from rfl]; omega
  have hm := make_okP (secret := secret) (auth := List.take (Int.toNat 32) auth) (data := List.take (Int.toNat 128) data) hc hA hD (fun q => hk (by rw [List.length_take] at q; omega))
  have hoS := make_okS secret (List.take (Int.toNat 32) auth) (List.take (Int.toNat 128) data) hA hD
  simp only at hm
  obtain ⟨S, hS⟩ : ∃ S, derB secret seedL [] 32 = S := ⟨_, rfl⟩
  rw [hS] at hm hoS
  have hS32 := hoS.seed
  simp only at hS32
  have em := ev_wmake secret qk qa qt qo qu (List.take (Int.toNat 32) auth) (List.take (Int.toNat 128) data) (by omega)
  rw [hm] at em
  have hop := open_priv (par := ⟨pa, ps, pd⟩) (p := ⟨qk, qa, qt, qo, uniB qk qt ⟨List.take (Int.toNat 32) auth, S, List.take (Int.toNat 128) data⟩⟩) hoS
  rw [if_neg (by simp)] at hop
  have hU := uniB_le qk qt ⟨List.take (Int.toNat 32) auth, S, List.take (Int.toNat 128) data⟩
  generalize uniB qk qt ⟨List.take (Int.toNat 32) auth, S, List.take (Int.toNat 128) data⟩ = U at *
  have ep := ev_wpriv pa ps pd qk qa qt qo U (List.take (Int.toNat 32) auth) S (List.take (Int.toNat 128) data) (by omega) (by omega) (by omega)
  have eo := ev_wopen pa ps pd qk qa qt qo U (privB ⟨pa, ps, pd⟩ ⟨qk, qa, qt, qo, U⟩ ⟨List.take (Int.toNat 32) auth, S, List.take (Int.toNat 128) data⟩) (by omega) (by omega) (by omega) (Nat.le_trans (privB_le _ _ _) (by omega))
  rw [hop] at eo
  dsimp only [pubX, senX] at em eo
  rcases hv with rfl | ⟨rfl, rfl⟩
  · rw [Y_go]; conv => lhs; whnf
    dsimp -iota -beta -eta -zeta only
    rw [toReq_call]
    rw [ev_cut _ _ (by omega)]
    conv => lhs; whnf
    dsimp -iota -beta -eta -zeta only
    rw [toReq_call]
    rw [ev_cut _ _ (by omega)]
    conv => lhs; whnf
    dsimp -iota -beta -eta -zeta only
    rw [toReq_call]
    rw [em]
    conv => lhs; whnf
    dsimp -iota -beta -eta -zeta only
    rw [drw (by kernel_rfl)]; conv => lhs; whnf
    dsimp -iota -beta -eta -zeta only
    rw [toReq_call]
    rw [ep]
    conv => lhs; whnf
    dsimp -iota -beta -eta -zeta only
    rw [toReq_call]
    rw [eo]
    conv => lhs; whnf
    dsimp -iota -beta -eta -zeta only
    rw [drw (by kernel_rfl)]; conv => lhs; whnf
    rw [ieq_t (by omega)]
    conv => lhs; whnf
    rw [ieq_t (by omega)]
    conv => lhs; whnf
    dsimp -iota -beta -eta -zeta only
    rw [toReq_call]
    rw [ev_r11same _ _ _ _ _ _ (by omega) (by omega) (by omega), sameS_refl]
    conv => lhs; whnf
    dsimp -iota -beta -eta -zeta only
    rw [toReq_call]
    rw [ev_cut _ _ (by omega)]
    conv => lhs; whnf
    dsimp -iota -beta -eta -zeta only
    rw [toReq_call]
    rw [ev_same _ _ (by omega), decide_eq_true rfl]
    conv => lhs; whnf
    rw [Y_go]; conv => lhs; whnf
    dsimp -iota -beta -eta -zeta only
    rw [drw (by kernel_rfl)]; conv => lhs; whnf
    (congr 3; simp only [ieq_eq, ine_eq, ilt_eq, ile_eq, bnot_eq, and_eq, llen_eq]; first | rfl | (rw [decide_eq_decide]; omega) | (simp; omega))
  · rw [Y_go]; conv => lhs; whnf
    dsimp -iota -beta -eta -zeta only
    rw [toReq_call]
    rw [ev_cut _ _ (by omega)]
    conv => lhs; whnf
    dsimp -iota -beta -eta -zeta only
    rw [toReq_call]
    rw [ev_cut _ _ (by omega)]
    conv => lhs; whnf
    dsimp -iota -beta -eta -zeta only
    rw [toReq_call]
    rw [em]
    conv => lhs; whnf
    dsimp -iota -beta -eta -zeta only
    rw [drw (by kernel_rfl)]; conv => lhs; whnf
    dsimp -iota -beta -eta -zeta only
    rw [toReq_call]
    rw [ep]
    conv => lhs; whnf
    dsimp -iota -beta -eta -zeta only
    rw [toReq_call]
    rw [eo]
    conv => lhs; whnf
    dsimp -iota -beta -eta -zeta only
    rw [drw (by kernel_rfl)]; conv => lhs; whnf
    rw [ieq_t (by omega)]
    conv => lhs; whnf
    rw [ieq_t (by omega)]
    conv => lhs; whnf
    dsimp -iota -beta -eta -zeta only
    rw [toReq_call]
    rw [ev_r11same _ _ _ _ _ _ (by omega) (by omega) (by omega), sameS_refl]
    conv => lhs; whnf
    dsimp -iota -beta -eta -zeta only
    rw [toReq_call]
    rw [ev_cut _ _ (by omega)]
    conv => lhs; whnf
    dsimp -iota -beta -eta -zeta only
    rw [toReq_call]
    rw [ev_same _ _ (by omega), decide_eq_true rfl]
    conv => lhs; whnf
    rw [Y_go]; conv => lhs; whnf
    dsimp -iota -beta -eta -zeta only
    rw [drw (by kernel_rfl)]; conv => lhs; whnf
    (congr 3; simp only [ieq_eq, ine_eq, ilt_eq, ile_eq, bnot_eq, and_eq, llen_eq]; first | rfl | (rw [decide_eq_decide]; omega) | (simp; omega))
theorem ev_WrapTrip (pa ps pd : List UInt8) (k a t : Int) (o u secret auth data : List UInt8) : Y E0 (.call 13 [.agg [.sl .u8 pa, .sl .u8 ps, .sl .u8 pd], .agg [.i k, .i a, .i t, .sl .u8 o, .sl .u8 u], .sl .u8 secret, .sl .u8 auth, .sl .u8 data] []) = some (.ret (.b true) []) := by
  have hpub := ev_pubP k a t o u
  have hc := validP_chk ⟨k, a, t, o, u⟩
  have hp := validP_policy ⟨k, a, t, o, u⟩
  have hu := validP_unique ⟨k, a, t, o, u⟩
  generalize validP ⟨k, a, t, o, u⟩ = Q at *
  obtain ⟨qk, qa, qt, qo, qu⟩ := Q
  dsimp only [pubX] at *
  rw [Y_go]; conv => lhs; whnf
  dsimp -iota -beta -eta -zeta only
  rw [toReq_call]
  rw [ev_awake11]
  conv => lhs; whnf
  rw [bnot_eq]; conv => lhs; whnf
  dsimp -iota -beta -eta -zeta only
  rw [toReq_call]
  rw [ev_small11_4 _ _ _ _]
  conv => lhs; whnf
  rw [bnot_eq]; conv => lhs; whnf
  rcases Bool.eq_false_or_eq_true (decide (ps.length ≤ 140 ∧ secret.length ≤ 140 ∧ auth.length ≤ 140 ∧ data.length ≤ 140)) with hc0 | hc0
  · rw [hc0]; replace hc0 := of_decide_eq_true hc0; try simp only at hc0
    conv => lhs; whnf
    dsimp -iota -beta -eta -zeta only
    rw [toReq_call]
    rw [ev_fewp _ _ _ _ _]
    conv => lhs; whnf
    rw [bnot_eq]; conv => lhs; whnf
    rcases Bool.eq_false_or_eq_true (fewPub { kind := k, attr := a, height := t, policy := o, unique := u }) with hc1 | hc1
    · rw [hc1]
      conv => lhs; whnf
      dsimp -iota -beta -eta -zeta only
      rw [toReq_call]
      rw [hpub]
      conv => lhs; whnf
      rcases Bool.eq_false_or_eq_true (ine qk 3) with hc2 | hc2
      · rw [hc2]; replace hc2 := of_ine_t hc2; try simp only [llen_eq] at hc2
        conv => lhs; whnf
        rw [ev_WrapTrip_m _ _ _ _ _ _ _ _ _ _ _ _ (.inr ⟨rfl, rfl⟩) (by simp) hc hp (by omega) (by omega) (by omega) (by simp)]
      · rw [hc2]; replace hc2 := of_ine_f hc2; try simp only [llen_eq] at hc2
        subst hc2
        conv => lhs; whnf
        rw [ev_WrapTrip_m _ _ _ _ _ _ _ _ _ _ _ _ (.inl rfl) (fun _ => rfl) hc hp (by omega) (by omega) (by omega) (by omega)]
    · rw [hc1]
      conv => lhs; whnf
  · rw [hc0]; replace hc0 := of_decide_eq_false hc0; try simp only at hc0
    conv => lhs; whnf
theorem ev_WrapSame_m (secret : List UInt8) (qk qa qt : Int) (qo qu auth data uq : List UInt8) (v : AV) (hv : v = .sl .u8 data ∨ (v = .nil ∧ data = [])) (hk : 0 < data.length → qk = 3) (hc : chkP ⟨qk, qa, qt, qo, qu⟩ = 0) (hp : qo.length ≤ 32) (h2 : secret.length ≤ 140) (h3 : auth.length ≤ 140) (h4 : data.length ≤ 140) : Y E0 (.ops ⟨85, 15, 0⟩ [true, true, true, true, true, false] 0 [Fr.seq [true, true, true, true, true, true] 0, Fr.ret] 1 [(0, .sl .u8 secret), (2, .sl .u8 auth), (3, v), (4, .sl .u8 uq), (11, .pa 0 0)] [(0, some (.var [.i qk, .i qa, .i qt, .sl .u8 qo, .sl .u8 qu]))]) = some (.ret (.b true) []) := by
  have hA : (List.take (Int.toNat 32) auth).length ≤ 32 := by rw [List.length_take, show Int.toNat 32 = 32 from rfl]; omega
  have hD : (List.take (Int.toNat 128) data).length ≤ 128 := by rw [List.length_take, show Int.toNat 128 = 128 from rfl]; omega
  have hm := make_okP (secret := secret) (auth := List.take (Int.toNat 32) auth) (data := List.take (Int.toNat 128) data) hc hA hD (fun q => hk (by rw [List.length_take] at q; omega))
  have hoS := make_okS secret (List.take (Int.toNat 32) auth) (List.take (Int.toNat 128) data) hA hD
  simp only at hm
  obtain ⟨S, hS⟩ : ∃ S, derB secret seedL [] 32 = S := ⟨_, rfl⟩
  rw [hS] at hm hoS
  have hS32 := hoS.seed
  simp only at hS32
  have em := ev_wmake secret qk qa qt qo qu (List.take (Int.toNat 32) auth) (List.take (Int.toNat 128) data) (by omega)
  have eq := ev_wmake secret qk qa qt qo uq (List.take (Int.toNat 32) auth) (List.take (Int.toNat 128) data) (by omega)
  rw [makeP_any secret qk qa qt qo uq qu, hm] at eq
  rw [hm] at em
  have hU := uniB_le qk qt ⟨List.take (Int.toNat 32) auth, S, List.take (Int.toNat 128) data⟩
  have hU0 := uniB_pos (k := qk) (h := qt) (s := ⟨List.take (Int.toNat 32) auth, S, List.take (Int.toNat 128) data⟩) (okP_of hc).height
  generalize uniB qk qt ⟨List.take (Int.toNat 32) auth, S, List.take (Int.toNat 128) data⟩ = U at *
  dsimp only [pubX, senX] at em eq
  have hs : ∀ p, sameP p p = true := fun p => by rw [sameP_iff, decide_eq_true rfl]
  rcases hv with rfl | ⟨rfl, rfl⟩
  · rw [Y_go]; conv => lhs; whnf
    dsimp -iota -beta -eta -zeta only
    rw [toReq_call]
    rw [ev_cut _ _ (by omega)]
    conv => lhs; whnf
    dsimp -iota -beta -eta -zeta only
    rw [toReq_call]
    rw [ev_cut _ _ (by omega)]
    conv => lhs; whnf
    dsimp -iota -beta -eta -zeta only
    rw [toReq_call]
    rw [em]
    conv => lhs; whnf
    dsimp -iota -beta -eta -zeta only
    rw [drw (by kernel_rfl)]; conv => lhs; whnf
    dsimp -iota -beta -eta -zeta only
    rw [toReq_call]
    rw [ev_cut _ _ (by omega)]
    conv => lhs; whnf
    dsimp -iota -beta -eta -zeta only
    rw [toReq_call]
    rw [ev_cut _ _ (by omega)]
    conv => lhs; whnf
    dsimp -iota -beta -eta -zeta only
    rw [toReq_call]
    rw [eq]
    conv => lhs; whnf
    dsimp -iota -beta -eta -zeta only
    rw [drw (by kernel_rfl)]; conv => lhs; whnf
    rw [ieq_t (by omega)]
    conv => lhs; whnf
    rw [ieq_t (by omega)]
    conv => lhs; whnf
    dsimp -iota -beta -eta -zeta only
    rw [toReq_call]
    rw [ev_r10same _ _ _ _ _ _ _ _ _ _ (by omega) (by omega), hs]
    conv => lhs; whnf
    dsimp -iota -beta -eta -zeta only
    rw [toReq_call]
    rw [ev_r11same _ _ _ _ _ _ (by omega) (by omega) (by omega), sameS_refl]
    conv => lhs; whnf
    rw [Y_go]; conv => lhs; whnf
    (congr 3; simp only [ieq_eq, ine_eq, ilt_eq, ile_eq, bnot_eq, and_eq, llen_eq]; first | rfl | (rw [decide_eq_decide]; omega) | (simp; omega))
  · rw [Y_go]; conv => lhs; whnf
    dsimp -iota -beta -eta -zeta only
    rw [toReq_call]
    rw [ev_cut _ _ (by omega)]
    conv => lhs; whnf
    dsimp -iota -beta -eta -zeta only
    rw [toReq_call]
    rw [ev_cut _ _ (by omega)]
    conv => lhs; whnf
    dsimp -iota -beta -eta -zeta only
    rw [toReq_call]
    rw [em]
    conv => lhs; whnf
    dsimp -iota -beta -eta -zeta only
    rw [drw (by kernel_rfl)]; conv => lhs; whnf
    dsimp -iota -beta -eta -zeta only
    rw [toReq_call]
    rw [ev_cut _ _ (by omega)]
    conv => lhs; whnf
    dsimp -iota -beta -eta -zeta only
    rw [toReq_call]
    rw [ev_cut _ _ (by omega)]
    conv => lhs; whnf
    dsimp -iota -beta -eta -zeta only
    rw [toReq_call]
    rw [eq]
    conv => lhs; whnf
    dsimp -iota -beta -eta -zeta only
    rw [drw (by kernel_rfl)]; conv => lhs; whnf
    rw [ieq_t (by omega)]
    conv => lhs; whnf
    rw [ieq_t (by omega)]
    conv => lhs; whnf
    dsimp -iota -beta -eta -zeta only
    rw [toReq_call]
    rw [ev_r10same _ _ _ _ _ _ _ _ _ _ (by omega) (by omega), hs]
    conv => lhs; whnf
    dsimp -iota -beta -eta -zeta only
    rw [toReq_call]
    rw [ev_r11same _ _ _ _ _ _ (by omega) (by omega) (by omega), sameS_refl]
    conv => lhs; whnf
    rw [Y_go]; conv => lhs; whnf
    (congr 3; simp only [ieq_eq, ine_eq, ilt_eq, ile_eq, bnot_eq, and_eq, llen_eq]; first | rfl | (rw [decide_eq_decide]; omega) | (simp; omega))
theorem ev_WrapSame (secret : List UInt8) (k a t : Int) (o u auth data uq : List UInt8) : Y E0 (.call 15 [.sl .u8 secret, .agg [.i k, .i a, .i t, .sl .u8 o, .sl .u8 u], .sl .u8 auth, .sl .u8 data, .sl .u8 uq] []) = some (.ret (.b true) []) := by
  have hpub := ev_pubP k a t o u
  have hc := validP_chk ⟨k, a, t, o, u⟩
  have hp := validP_policy ⟨k, a, t, o, u⟩
  have hu := validP_unique ⟨k, a, t, o, u⟩
  generalize validP ⟨k, a, t, o, u⟩ = Q at *
  obtain ⟨qk, qa, qt, qo, qu⟩ := Q
  dsimp only [pubX] at *
  rw [Y_go]; conv => lhs; whnf
  dsimp -iota -beta -eta -zeta only
  rw [toReq_call]
  rw [ev_awake11]
  conv => lhs; whnf
  rw [bnot_eq]; conv => lhs; whnf
  dsimp -iota -beta -eta -zeta only
  rw [toReq_call]
  rw [ev_small11_4 _ _ _ _]
  conv => lhs; whnf
  rw [bnot_eq]; conv => lhs; whnf
  rcases Bool.eq_false_or_eq_true (decide (secret.length ≤ 140 ∧ auth.length ≤ 140 ∧ data.length ≤ 140 ∧ uq.length ≤ 140)) with hc0 | hc0
  · rw [hc0]; replace hc0 := of_decide_eq_true hc0; try simp only at hc0
    conv => lhs; whnf
    dsimp -iota -beta -eta -zeta only
    rw [toReq_call]
    rw [ev_fewp _ _ _ _ _]
    conv => lhs; whnf
    rw [bnot_eq]; conv => lhs; whnf
    rcases Bool.eq_false_or_eq_true (fewPub { kind := k, attr := a, height := t, policy := o, unique := u }) with hc1 | hc1
    · rw [hc1]
      conv => lhs; whnf
      dsimp -iota -beta -eta -zeta only
      rw [toReq_call]
      rw [hpub]
      conv => lhs; whnf
      rcases Bool.eq_false_or_eq_true (ine qk 3) with hc2 | hc2
      · rw [hc2]; replace hc2 := of_ine_t hc2; try simp only [llen_eq] at hc2
        conv => lhs; whnf
        rw [ev_WrapSame_m _ _ _ _ _ _ _ _ _ _ (.inr ⟨rfl, rfl⟩) (by simp) hc hp (by omega) (by omega) (by simp)]
      · rw [hc2]; replace hc2 := of_ine_f hc2; try simp only [llen_eq] at hc2
        subst hc2
        conv => lhs; whnf
        rw [ev_WrapSame_m _ _ _ _ _ _ _ _ _ _ (.inl rfl) (fun _ => rfl) hc hp (by omega) (by omega) (by omega)]
    · rw [hc1]
      conv => lhs; whnf
  · rw [hc0]; replace hc0 := of_decide_eq_false hc0; try simp only at hc0
    conv => lhs; whnf
theorem ev_object (k a t : Int) (o u secret auth data : List UInt8) (hs : secret.length ≤ 10000) : Y E0 (.call 48 [.agg [.i k, .i a, .i t, .sl .u8 o, .sl .u8 u], .sl .u8 secret, .sl .u8 auth, .sl .u8 data] []) = some (.ret (.tup [.agg (pubX (objP secret ⟨k, a, t, o, u⟩ auth data).1), .agg (senX (objP secret ⟨k, a, t, o, u⟩ auth data).2)]) []) := by
  have hpub := ev_pubP k a t o u
  have hp := validP_policy ⟨k, a, t, o, u⟩
  have hu := validP_unique ⟨k, a, t, o, u⟩
  unfold objP
  generalize validP ⟨k, a, t, o, u⟩ = Q at *
  obtain ⟨qk, qa, qt, qo, qu⟩ := Q
  dsimp only [pubX] at *
  have em := ev_r11make secret qk qa qt qo qu (List.take (Int.toNat 32) auth) (List.take (Int.toNat 128) (if qk = 3 then data else [])) (by omega)
  by_cases hk : qk = 3
  · rw [if_pos hk] at em ⊢
    rw [Y_go]; conv => lhs; whnf
    dsimp -iota -beta -eta -zeta only
    rw [toReq_call]
    rw [hpub]
    conv => lhs; whnf
    rw [ine_f (by omega)]
    conv => lhs; whnf
    rw [Y_go]; conv => lhs; whnf
    dsimp -iota -beta -eta -zeta only
    rw [toReq_call]
    rw [ev_cut _ _ (by omega)]
    conv => lhs; whnf
    dsimp -iota -beta -eta -zeta only
    rw [toReq_call]
    rw [ev_cut _ _ (by omega)]
    conv => lhs; whnf
    dsimp -iota -beta -eta -zeta only
    rw [toReq_call]
    rw [em]
    conv => lhs; whnf
    dsimp -iota -beta -eta -zeta only
    rw [drw (by kernel_rfl)]; conv => lhs; whnf
    dsimp -iota -beta -eta -zeta only
    rw [drw (by kernel_rfl)]; conv => lhs; whnf
    dsimp -iota -beta -eta -zeta only
    rfl
  · rw [if_neg hk] at em ⊢
    rw [Y_go]; conv => lhs; whnf
    dsimp -iota -beta -eta -zeta only
    rw [toReq_call]
    rw [hpub]
    conv => lhs; whnf
    rw [ine_t (by omega)]
    conv => lhs; whnf
    rw [Y_go]; conv => lhs; whnf
    dsimp -iota -beta -eta -zeta only
    rw [toReq_call]
    rw [ev_cut _ _ (by omega)]
    conv => lhs; whnf
    dsimp -iota -beta -eta -zeta only
    rw [toReq_call]
    rw [ev_cut _ _ (by omega)]
    conv => lhs; whnf
    dsimp -iota -beta -eta -zeta only
    rw [toReq_call]
    rw [em]
    conv => lhs; whnf
    dsimp -iota -beta -eta -zeta only
    rw [drw (by kernel_rfl)]; conv => lhs; whnf
    dsimp -iota -beta -eta -zeta only
    rw [drw (by kernel_rfl)]; conv => lhs; whnf
    dsimp -iota -beta -eta -zeta only
    rfl
theorem ev_WrapUnique (pa ps pd : List UInt8) (k a t : Int) (o u secret auth data : List UInt8) (at' : UInt8) (x : UInt8) : Y E0 (.call 14 [.agg [.sl .u8 pa, .sl .u8 ps, .sl .u8 pd], .agg [.i k, .i a, .i t, .sl .u8 o, .sl .u8 u], .sl .u8 secret, .sl .u8 auth, .sl .u8 data, .u8 at', .u8 x] []) = some (.ret (.b true) []) := by
  have eo := ev_object k a t o u secret auth data
  obtain ⟨k', a', h', o', ⟨sa, ss, sd⟩, hO, hoS, ho', hh0, hh3⟩ := objP_ok secret ⟨k, a, t, o, u⟩ auth data
  rw [hO] at eo
  have hU0 := uniB_pos (k := k') (s := ⟨sa, ss, sd⟩) ⟨hh0, hh3⟩
  have hU := uniB_le k' h' ⟨sa, ss, sd⟩
  obtain ⟨U, hUE⟩ : ∃ U, uniB k' h' ⟨sa, ss, sd⟩ = U := ⟨_, rfl⟩
  rw [hUE] at hU0 hU eo
  dsimp only [pubX, senX] at eo
  have hs1 := hoS.auth; have hs2 := hoS.seed; have hs3 := hoS.data
  simp only at hs1 hs2 hs3
  have hi := Int.emod_nonneg (at'.toNat : Int) (show (U.length : Int) ≠ 0 by omega)
  have hi2 := Int.emod_lt_of_pos (at'.toNat : Int) (show 0 < (U.length : Int) by omega)
  have hir : irem (u8i at') (llen U) = (at'.toNat : Int) % (U.length : Int) := by
    rw [u8i_eq, llen_eq, irem_pos (by omega) (by rw [irem_d]; exact Int.tmod_nonneg _ (by omega))]
  have hiL : ((at'.toNat : Int) % (U.length : Int)).toNat < U.length := by omega
  by_cases hx : x = 0
  · subst hx
    rw [Y_go]; conv => lhs; whnf
    dsimp -iota -beta -eta -zeta only
    rw [toReq_call]
    rw [ev_awake11]
    conv => lhs; whnf
    rw [bnot_eq]; conv => lhs; whnf
    dsimp -iota -beta -eta -zeta only
    rw [toReq_call]
    rw [ev_small11_4 _ _ _ _]
    conv => lhs; whnf
    rw [bnot_eq]; conv => lhs; whnf
    rcases Bool.eq_false_or_eq_true (decide (ps.length ≤ 140 ∧ secret.length ≤ 140 ∧ auth.length ≤ 140 ∧ data.length ≤ 140)) with hc0 | hc0
    · rw [hc0]; replace hc0 := of_decide_eq_true hc0; try simp only at hc0
      conv => lhs; whnf
      dsimp -iota -beta -eta -zeta only
      rw [toReq_call]
      rw [ev_fewp _ _ _ _ _]
      conv => lhs; whnf
      rw [bnot_eq]; conv => lhs; whnf
      rcases Bool.eq_false_or_eq_true (fewPub { kind := k, attr := a, height := t, policy := o, unique := u }) with hc1 | hc1
      · rw [hc1]
        conv => lhs; whnf
        rw [u8cmp_eql]
        rw [ieq_t (by decide)]
        conv => lhs; whnf
      · rw [hc1]
        conv => lhs; whnf
    · rw [hc0]; replace hc0 := of_decide_eq_false hc0; try simp only at hc0
      conv => lhs; whnf
  · have hne := set_ne (U := U) hiL hx
    obtain ⟨V, hV⟩ : ∃ V, U.set ((at'.toNat : Int) % (U.length : Int)).toNat (U[((at'.toNat : Int) % (U.length : Int)).toNat] ^^^ x) = V := ⟨_, rfl⟩
    have hset : lset U ((at'.toNat : Int) % (U.length : Int)) (u8op BinOp.xor (U[((at'.toNat : Int) % (U.length : Int)).toNat]'hiL) x) = V := by rw [lset_eq, u8xor_eq, hV]
    have hVl : V.length = U.length := by rw [← hV, List.length_set]
    rw [hV] at hne
    have hop := open_priv (par := ⟨pa, ps, pd⟩) (p := ⟨k', a', h', o', V⟩) hoS
    rw [if_pos (by show V ≠ uniB k' h' ⟨sa, ss, sd⟩; rw [hUE]; exact hne)] at hop
    have eow := fun (hps : ps.length ≤ 140) => ev_wopen pa ps pd k' a' h' o' V (privB ⟨pa, ps, pd⟩ ⟨k', a', h', o', V⟩ ⟨sa, ss, sd⟩) (by omega) (by omega) (by omega) (Nat.le_trans (privB_le _ _ _) (by omega))
    rw [hop] at eow
    dsimp only [senX, sen0] at eow
    rw [Y_go]; conv => lhs; whnf
    dsimp -iota -beta -eta -zeta only
    rw [toReq_call]
    rw [ev_awake11]
    conv => lhs; whnf
    rw [bnot_eq]; conv => lhs; whnf
    dsimp -iota -beta -eta -zeta only
    rw [toReq_call]
    rw [ev_small11_4 _ _ _ _]
    conv => lhs; whnf
    rw [bnot_eq]; conv => lhs; whnf
    rcases Bool.eq_false_or_eq_true (decide (ps.length ≤ 140 ∧ secret.length ≤ 140 ∧ auth.length ≤ 140 ∧ data.length ≤ 140)) with hc0 | hc0
    · rw [hc0]; replace hc0 := of_decide_eq_true hc0; try simp only at hc0
      conv => lhs; whnf
      dsimp -iota -beta -eta -zeta only
      rw [toReq_call]
      rw [ev_fewp _ _ _ _ _]
      conv => lhs; whnf
      rw [bnot_eq]; conv => lhs; whnf
      rcases Bool.eq_false_or_eq_true (fewPub { kind := k, attr := a, height := t, policy := o, unique := u }) with hc1 | hc1
      · rw [hc1]
        conv => lhs; whnf
        rw [u8cmp_eql]
        rcases Bool.eq_false_or_eq_true (ieq ↑x.toNat ↑(UInt8.ofNat 0).toNat) with hc2 | hc2
        · rw [hc2]; replace hc2 := of_ieq_t hc2; try simp only [llen_eq] at hc2
          conv => lhs; whnf
        · rw [hc2]; replace hc2 := of_ieq_f hc2; try simp only [llen_eq] at hc2
          conv => lhs; whnf
          dsimp -iota -beta -eta -zeta only
          rw [toReq_call]
          rw [eo (by omega)]
          conv => lhs; whnf
          dsimp -iota -beta -eta -zeta only
          rw [toReq_call]
          rw [ev_copy _ (by omega)]
          conv => lhs; whnf
          rw [hir]
          rw [ieq_f (by (simp only [sha256_len, fr1_len, fr2_len, fr3_len, nameB_l32, wkey_32, uintB_l2, uintB_l1, blobB_l, LL] at * <;> omega))]
          conv => lhs; whnf
          rw [linb_t (by omega)]
          conv => lhs; whnf
          dsimp -iota -beta -eta -zeta only
          rw [lget_i (by omega)]
          conv => lhs; whnf
          rw [linb_t (by omega)]
          conv => lhs; whnf
          rw [lget_i (by omega)]
          conv => lhs; whnf
          dsimp -iota -beta -eta -zeta only
          rw [hset]
          rw [drw (by kernel_rfl)]; conv => lhs; whnf
          dsimp -iota -beta -eta -zeta only
          rw [toReq_call]
          rw [ev_r11priv _ _ _ _ _ _ _ _ _ _ _ (by omega) (by omega) (by omega)]
          conv => lhs; whnf
          dsimp -iota -beta -eta -zeta only
          rw [toReq_call]
          rw [eow (by omega)]
          conv => lhs; whnf
          dsimp -iota -beta -eta -zeta only
          rw [drw (by kernel_rfl)]; conv => lhs; whnf
          rw [ieq_t (by omega)]
          conv => lhs; whnf
          rw [Y_go]; conv => lhs; whnf
          (congr 3; simp only [ieq_eq, ine_eq, ilt_eq, ile_eq, bnot_eq, and_eq, llen_eq]; first | rfl | (rw [decide_eq_decide]; omega) | (simp; omega))
      · rw [hc1]
        conv => lhs; whnf
    · rw [hc0]; replace hc0 := of_decide_eq_false hc0; try simp only at hc0
      conv => lhs; whnf
end Go.Proofs.YtbjikfgpfcmcaaaDoor
