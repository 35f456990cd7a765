/-
  Own texts, laid together for this claim: contracts of functions of the program and its references, used by the statements of this seat.
-/
import Derived.Test.YtfjcmolccckhhaaDoorMsa
set_option linter.all false

namespace Go.Ax
open Go.Eng
section
variable {nonce c t : List UInt8} {k : Nat} {v : UInt8}
theorem setB1 (hn : nonce.length ≤ 65535) (hc : c.length ≤ 65535) (h1 : nonce.length ≤ k) (h2 : k < nonce.length + c.length) : (formB nonce c t).set (4 + k) v = formB nonce (c.set (k - nonce.length) v) t := by
  rw [formB_eq hn hc, formB_eq hn (by simpa using hc), List.length_set]
  rw [List.set_append_right _ _ (by simp only [List.length_append, len2_len]; omega)]
  congr 1
  rw [List.set_append_left _ _ (by simp only [List.length_append, len2_len]; omega)]
  congr 1
  rw [List.set_append_right _ _ (by simp only [List.length_append, len2_len]; omega)]
  congr 2
  simp only [List.length_append, len2_len]; omega
theorem setB2 (hn : nonce.length ≤ 65535) (hc : c.length ≤ 65535) (h1 : k < nonce.length) : (formB nonce c t).set (2 + k) v = formB (nonce.set k v) c t := by
  rw [formB_eq hn hc, formB_eq (by simpa using hn) hc, List.length_set]
  rw [List.set_append_left _ _ (by simp only [List.length_append, len2_len]; omega)]
  congr 1
  rw [List.set_append_right _ _ (by simp only [len2_len]; omega)]
  congr 2
  simp only [len2_len]; omega
theorem getB1 (hn : nonce.length ≤ 65535) (hc : c.length ≤ 65535) (h1 : nonce.length ≤ k) (h2 : k < nonce.length + c.length) : (formB nonce c t)[4 + k]? = c[k - nonce.length]? := by
  rw [formB_eq hn hc]
  rw [List.getElem?_append_right (by simp only [List.length_append, len2_len]; omega)]
  rw [List.getElem?_append_left (by simp only [List.length_append, len2_len]; omega)]
  rw [List.getElem?_append_right (by simp only [List.length_append, len2_len]; omega)]
  congr 1
  simp only [List.length_append, len2_len]; omega
theorem getB2 (hn : nonce.length ≤ 65535) (hc : c.length ≤ 65535) (h1 : k < nonce.length) : (formB nonce c t)[2 + k]? = nonce[k]? := by
  rw [formB_eq hn hc]
  rw [List.getElem?_append_left (by simp only [List.length_append, len2_len]; omega)]
  rw [List.getElem?_append_right (by simp only [len2_len]; omega)]
  congr 1
  simp only [len2_len]; omega
theorem midB (hn : nonce.length ≤ 65535) (hc : c.length ≤ 65535) : ((formB nonce c t).drop (4 + nonce.length)).take c.length = c := by
  rw [formB_eq hn hc]
  have e : len2 nonce.length ++ nonce ++ (len2 c.length ++ c ++ (t ++ [])) = (len2 nonce.length ++ nonce ++ len2 c.length) ++ (c ++ (t ++ [])) := by simp only [List.append_assoc]
  rw [e, List.drop_left' (by simp only [List.length_append, len2_len]; omega), List.take_left' rfl]
theorem endB (hn : nonce.length ≤ 65535) (hc : c.length ≤ 65535) (_ : t.length = 32) : (formB nonce c t).drop (4 + nonce.length + c.length) = t := by
  rw [formB_eq hn hc]
  have e : len2 nonce.length ++ nonce ++ (len2 c.length ++ c ++ (t ++ [])) = (len2 nonce.length ++ nonce ++ (len2 c.length ++ c)) ++ t := by simp only [List.append_assoc, List.append_nil]
  rw [e, List.drop_left' (by simp only [List.length_append, len2_len]; omega)]
end
end Go.Ax
namespace Go.Proofs.YtfjcmolccckhhaaDoor
open Go Go.Ax Go.Eng Go.RowKit
set_option linter.unusedVariables false
set_option linter.unusedSimpArgs false
attribute [local irreducible] iadd isub imul iquo irem ibit ineg ieq ine ilt ile ishl ishr beq' bnot and' seq' u8op u8rem u32op u64op u8shr u8shl u64shr u64shl u32shr u32shl i64w u8i u64i iu8 iu32 iu64 u8u64 u64u8 u32u8 u64cmp u8cmp u32cmp llen lget linb lset lcut lrep lapp lcpy lemp fits fitn ieqs sealed drawChk fpSame
attribute [local irreducible] sealB openB tagB strB formB
set_option maxHeartbeats 4000000
set_option maxRecDepth 100000
theorem ev_BoxTampered_m (key nonce ad plain C T : List UInt8) (k : Nat) (x : UInt8) (hx : x ≠ 0) (hk : k < nonce.length + C.length) (h1 : key.length ≤ 120) (h2 : nonce.length ≤ 64) (h3 : ad.length ≤ 120) (h4 : plain.length ≤ 120) (hC : C.length = plain.length) (hT : T.length = 32) : Y E1 (.drw ⟨138, 3, 0⟩ [true, true, true, true, true, true, true, true, false] 0 [] [Fr.seq [true, true, true, true, true, true, true, true, true] 0, Fr.ret] 1 [(0, AV.sl Ty.u8 key), (1, AV.sl Ty.u8 nonce), (2, AV.sl Ty.u8 ad), (5, AV.u8 x), (13, AV.nm 0), (14, AV.i (llen nonce + llen plain)), (15, AV.i (k : Int))] [(0, some (Rs.row 5 Ty.u8 (formB nonce C T)))]) = some (.ret (.b true) []) := by
  have hF : (formB nonce C T).length = 4 + nonce.length + C.length + T.length := formB_len (by omega) (by omega)
  have hmid : ((formB nonce C T).drop (Int.toNat (4 + llen nonce))).take (Int.toNat (4 + (llen nonce + llen plain)) - Int.toNat (4 + llen nonce)) = C := by
    have e1 : Int.toNat (4 + llen nonce) = 4 + nonce.length := by rw [llen_eq]; omega
    have e2 : Int.toNat (4 + (llen nonce + llen plain)) - Int.toNat (4 + llen nonce) = C.length := by rw [llen_eq, llen_eq]; omega
    rw [e2, e1, midB (by omega) (by omega)]
  have htail : ∀ (n c : List UInt8), n.length = nonce.length → c.length = C.length → List.take (llen (formB n c T) - (llen (formB n c T) - 32)).toNat (List.drop (llen (formB n c T) - 32).toNat (formB n c T)) = T := by
    intro n c hn hc
    have hL : (formB n c T).length = 4 + n.length + c.length + T.length := formB_len (by omega) (by omega)
    rw [llen_eq]
    have e1 : ((formB n c T).length - 32 : Int).toNat = 4 + n.length + c.length := by omega
    have e2 : ((formB n c T).length - ((formB n c T).length - 32) : Int).toNat = 32 := by omega
    rw [e1, e2, endB (by omega) (by omega) hT, List.take_of_length_le (by omega)]
  by_cases hc : nonce.length ≤ k
  · obtain ⟨v, hv⟩ : ∃ v, C[k - nonce.length]? = some v := ⟨_, List.getElem?_eq_getElem (by omega)⟩
    have hgc : lget (List.take (Int.toNat (4 + (llen nonce + llen plain)) - Int.toNat (4 + llen nonce)) (List.drop (Int.toNat (4 + llen nonce)) (formB nonce C T))) ((k : Int) - llen nonce) = some v := by
      rw [hmid, lget_d]; unfold lget0; rw [llen_eq, if_pos (by omega), show ((k : Int) - nonce.length).toNat = k - nonce.length by omega]; exact hv
    have hgb : lget (formB nonce C T) (2 + (k : Int) + 2) = some v := by
      rw [lget_d]; unfold lget0; rw [if_pos (by omega), show (2 + (k : Int) + 2).toNat = 4 + k by omega, getB1 (by omega) (by omega) hc (by omega)]; exact hv
    have hsC : ∀ w, lset (List.take (Int.toNat (4 + (llen nonce + llen plain)) - Int.toNat (4 + llen nonce)) (List.drop (Int.toNat (4 + llen nonce)) (formB nonce C T))) ((k : Int) - llen nonce) w = C.set (k - nonce.length) w := by
      intro w; rw [hmid, lset_eq, llen_eq, show ((k : Int) - nonce.length).toNat = k - nonce.length by omega]
    have hsB : ∀ w, lset (formB nonce C T) (2 + (k : Int) + 2) w = formB nonce (C.set (k - nonce.length) w) T := by
      intro w; rw [lset_eq, show (2 + (k : Int) + 2).toNat = 4 + k by omega, setB1 (by omega) (by omega) hc (by omega)]
    have ht := htail nonce (C.set (k - nonce.length) (u8op .xor v x)) rfl (by simp)
    have hlC : (C.set (k - nonce.length) (u8op .xor v x)).length = C.length := by simp
    generalize hC2 : C.set (k - nonce.length) (u8op .xor v x) = C2 at *
    have hB2 : (formB nonce C2 T).length = 4 + nonce.length + C2.length + T.length := formB_len (by omega) (by omega)
    have ho := open_form (key := key) (ad := ad) (nonce := nonce) (c := C2) (t := T) (by omega) (by omega) hT
    by_cases hE : T = tagB key nonce ad C2
    · rw [if_pos hE] at ho
      have hdE : decide (tagB key nonce ad C2 = T) = true := decide_eq_true hE.symm
      rw [Y_go]; conv => lhs; whnf
      dsimp -iota -beta -eta -zeta only
      rw [toReq_call]
      rw [lift (ev_copy _ (by omega)) rfl]
      conv => lhs; whnf
      rw [iadd_eq (by (simp only [LL] at * <;> omega))]
      rw [ile_t (by (simp only [LL] at * <;> omega))]
      conv => lhs; whnf
      rw [iadd_eq (by (simp only [LL] at * <;> omega))]
      rw [ile_t (by (simp only [LL] at * <;> omega))]
      conv => lhs; whnf
      rw [ile_t (by (simp only [LL] at * <;> omega))]
      conv => lhs; whnf
      dsimp -iota -beta -eta -zeta only
      rw [toReq_call]
      rw [lift (ev_copy _ (by (simp only [LL] at * <;> omega))) rfl]
      conv => lhs; whnf
      dsimp -iota -beta -eta -zeta only
      rw [drw (by kernel_rfl)]; conv => lhs; whnf
      rw [ile_t (by (simp only [LL] at * <;> omega))]
      conv => lhs; whnf
      rw [isub_eq (by (simp only [LL] at * <;> omega))]
      rw [linb_t (by (simp only [LL] at * <;> omega))]
      conv => lhs; whnf
      dsimp -iota -beta -eta -zeta only
      rw [hgc]; conv => lhs; whnf
      rw [linb_t (by (simp only [LL] at * <;> omega))]
      conv => lhs; whnf
      rw [hgc]; conv => lhs; whnf
      rw [hsC, hC2]
      rw [iadd_eq (a := 2) (b := ↑k) (by omega)]
      rw [iadd_eq (by omega)]
      rw [Y_go]; conv => lhs; whnf
      rw [linb_t (by omega)]
      conv => lhs; whnf
      dsimp -iota -beta -eta -zeta only
      rw [hgb]; conv => lhs; whnf
      rw [linb_t (by omega)]
      conv => lhs; whnf
      rw [hgb]; conv => lhs; whnf
      dsimp -iota -beta -eta -zeta only
      rw [hsB, hC2]
      rw [toReq_call]
      rw [lift (ev_open _ _ _ (by omega) (by omega) (by omega)) rfl, ho]
      conv => lhs; whnf
      dsimp -iota -beta -eta -zeta only
      rw [toReq_call]
      rw [lift (ev_r4tag _ _ _ _ (by omega) (by omega) (by omega) (by omega)) rfl]
      conv => lhs; whnf
      rw [isub_eq (by (simp only [LL] at * <;> omega))]
      rw [lcut_s (by (simp only [LL] at * <;> omega))]
      conv => lhs; whnf
      dsimp -iota -beta -eta -zeta only
      rw [ht]
      rw [toReq_call]
      rw [lift (ev_same _ _ (by rw [tagB_len]; omega)) rfl, hdE]
      conv => lhs; whnf
      dsimp -iota -beta -eta -zeta only
      rw [drw (by kernel_rfl)]; conv => lhs; whnf
      (congr 3; simp only [ieq_eq, ine_eq, ilt_eq, ile_eq, bnot_eq, and_eq, llen_eq]; first | rfl | (rw [decide_eq_decide]; omega) | (simp; omega))
    · rw [if_neg hE] at ho
      have hdE : decide (tagB key nonce ad C2 = T) = false := decide_eq_false (fun e => hE e.symm)
      rw [Y_go]; conv => lhs; whnf
      dsimp -iota -beta -eta -zeta only
      rw [toReq_call]
      rw [lift (ev_copy _ (by omega)) rfl]
      conv => lhs; whnf
      rw [iadd_eq (by (simp only [LL] at * <;> omega))]
      rw [ile_t (by (simp only [LL] at * <;> omega))]
      conv => lhs; whnf
      rw [iadd_eq (by (simp only [LL] at * <;> omega))]
      rw [ile_t (by (simp only [LL] at * <;> omega))]
      conv => lhs; whnf
      rw [ile_t (by (simp only [LL] at * <;> omega))]
      conv => lhs; whnf
      dsimp -iota -beta -eta -zeta only
      rw [toReq_call]
      rw [lift (ev_copy _ (by (simp only [LL] at * <;> omega))) rfl]
      conv => lhs; whnf
      dsimp -iota -beta -eta -zeta only
      rw [drw (by kernel_rfl)]; conv => lhs; whnf
      rw [ile_t (by (simp only [LL] at * <;> omega))]
      conv => lhs; whnf
      rw [isub_eq (by (simp only [LL] at * <;> omega))]
      rw [linb_t (by (simp only [LL] at * <;> omega))]
      conv => lhs; whnf
      dsimp -iota -beta -eta -zeta only
      rw [hgc]; conv => lhs; whnf
      rw [linb_t (by (simp only [LL] at * <;> omega))]
      conv => lhs; whnf
      rw [hgc]; conv => lhs; whnf
      rw [hsC, hC2]
      rw [iadd_eq (a := 2) (b := ↑k) (by omega)]
      rw [iadd_eq (by omega)]
      rw [Y_go]; conv => lhs; whnf
      rw [linb_t (by omega)]
      conv => lhs; whnf
      dsimp -iota -beta -eta -zeta only
      rw [hgb]; conv => lhs; whnf
      rw [linb_t (by omega)]
      conv => lhs; whnf
      rw [hgb]; conv => lhs; whnf
      dsimp -iota -beta -eta -zeta only
      rw [hsB, hC2]
      rw [toReq_call]
      rw [lift (ev_open _ _ _ (by omega) (by omega) (by omega)) rfl, ho]
      conv => lhs; whnf
      dsimp -iota -beta -eta -zeta only
      rw [toReq_call]
      rw [lift (ev_r4tag _ _ _ _ (by omega) (by omega) (by omega) (by omega)) rfl]
      conv => lhs; whnf
      rw [isub_eq (by (simp only [LL] at * <;> omega))]
      rw [lcut_s (by (simp only [LL] at * <;> omega))]
      conv => lhs; whnf
      dsimp -iota -beta -eta -zeta only
      rw [ht]
      rw [toReq_call]
      rw [lift (ev_same _ _ (by rw [tagB_len]; omega)) rfl, hdE]
      conv => lhs; whnf
      dsimp -iota -beta -eta -zeta only
      rw [drw (by kernel_rfl)]; conv => lhs; whnf
      rw [ieq_t (by omega)]
      conv => lhs; whnf
      (congr 3; simp only [ieq_eq, ine_eq, ilt_eq, ile_eq, bnot_eq, and_eq, llen_eq]; first | rfl | (rw [decide_eq_decide]; omega) | (simp; omega))
  · obtain ⟨v, hv⟩ : ∃ v, nonce[k]? = some v := ⟨_, List.getElem?_eq_getElem (by omega)⟩
    have hgc : lget nonce (k : Int) = some v := by
      rw [lget_d]; unfold lget0; rw [if_pos (by omega), Int.toNat_natCast]; exact hv
    have hgb : lget (formB nonce C T) (2 + (k : Int)) = some v := by
      rw [lget_d]; unfold lget0; rw [if_pos (by omega), show (2 + (k : Int)).toNat = 2 + k by omega, getB2 (by omega) (by omega) (by omega)]; exact hv
    have hsC : ∀ w, lset nonce (k : Int) w = nonce.set k w := by
      intro w; rw [lset_eq, Int.toNat_natCast]
    have hsB : ∀ w, lset (formB nonce C T) (2 + (k : Int)) w = formB (nonce.set k w) C T := by
      intro w; rw [lset_eq, show (2 + (k : Int)).toNat = 2 + k by omega, setB2 (by omega) (by omega) (by omega)]
    have ht := htail (nonce.set k (u8op .xor v x)) C (by simp) rfl
    have hlC : (nonce.set k (u8op .xor v x)).length = nonce.length := by simp
    generalize hC2 : nonce.set k (u8op .xor v x) = N2 at *
    have hB2 : (formB N2 C T).length = 4 + N2.length + C.length + T.length := formB_len (by omega) (by omega)
    have ho := open_form (key := key) (ad := ad) (nonce := N2) (c := C) (t := T) (by omega) (by omega) hT
    by_cases hE : T = tagB key N2 ad C
    · rw [if_pos hE] at ho
      have hdE : decide (tagB key N2 ad C = T) = true := decide_eq_true hE.symm
      rw [Y_go]; conv => lhs; whnf
      dsimp -iota -beta -eta -zeta only
      rw [toReq_call]
      rw [lift (ev_copy _ (by omega)) rfl]
      conv => lhs; whnf
      rw [iadd_eq (by (simp only [LL] at * <;> omega))]
      rw [ile_t (by (simp only [LL] at * <;> omega))]
      conv => lhs; whnf
      rw [iadd_eq (by (simp only [LL] at * <;> omega))]
      rw [ile_t (by (simp only [LL] at * <;> omega))]
      conv => lhs; whnf
      rw [ile_t (by (simp only [LL] at * <;> omega))]
      conv => lhs; whnf
      dsimp -iota -beta -eta -zeta only
      rw [hmid]
      rw [toReq_call]
      rw [lift (ev_copy _ (by omega)) rfl]
      conv => lhs; whnf
      dsimp -iota -beta -eta -zeta only
      rw [drw (by kernel_rfl)]; conv => lhs; whnf
      rw [ile_f (by (simp only [LL] at * <;> omega))]
      conv => lhs; whnf
      rw [linb_t (by omega)]
      conv => lhs; whnf
      dsimp -iota -beta -eta -zeta only
      rw [hgc]; conv => lhs; whnf
      rw [linb_t (by omega)]
      conv => lhs; whnf
      rw [hgc]; conv => lhs; whnf
      rw [hsC, hC2]
      rw [iadd_eq (by omega)]
      rw [Y_go]; conv => lhs; whnf
      rw [linb_t (by omega)]
      conv => lhs; whnf
      dsimp -iota -beta -eta -zeta only
      rw [hgb]; conv => lhs; whnf
      rw [linb_t (by omega)]
      conv => lhs; whnf
      rw [hgb]; conv => lhs; whnf
      dsimp -iota -beta -eta -zeta only
      rw [hsB, hC2]
      rw [toReq_call]
      rw [lift (ev_open _ _ _ (by omega) (by omega) (by omega)) rfl, ho]
      conv => lhs; whnf
      dsimp -iota -beta -eta -zeta only
      rw [toReq_call]
      rw [lift (ev_r4tag _ _ _ _ (by omega) (by omega) (by omega) (by omega)) rfl]
      conv => lhs; whnf
      rw [isub_eq (by (simp only [LL] at * <;> omega))]
      rw [lcut_s (by (simp only [LL] at * <;> omega))]
      conv => lhs; whnf
      dsimp -iota -beta -eta -zeta only
      rw [ht]
      rw [toReq_call]
      rw [lift (ev_same _ _ (by rw [tagB_len]; omega)) rfl, hdE]
      conv => lhs; whnf
      dsimp -iota -beta -eta -zeta only
      rw [drw (by kernel_rfl)]; conv => lhs; whnf
      (congr 3; simp only [ieq_eq, ine_eq, ilt_eq, ile_eq, bnot_eq, and_eq, llen_eq]; first | rfl | (rw [decide_eq_decide]; omega) | (simp; omega))
    · rw [if_neg hE] at ho
      have hdE : decide (tagB key N2 ad C = T) = false := decide_eq_false (fun e => hE e.symm)
      rw [Y_go]; conv => lhs; whnf
      dsimp -iota -beta -eta -zeta only
      rw [toReq_call]
      rw [lift (ev_copy _ (by omega)) rfl]
      conv => lhs; whnf
      rw [iadd_eq (by (simp only [LL] at * <;> omega))]
      rw [ile_t (by (simp only [LL] at * <;> omega))]
      conv => lhs; whnf
      rw [iadd_eq (by (simp only [LL] at * <;> omega))]
      rw [ile_t (by (simp only [LL] at * <;> omega))]
      conv => lhs; whnf
      rw [ile_t (by (simp only [LL] at * <;> omega))]
      conv => lhs; whnf
      dsimp -iota -beta -eta -zeta only
      rw [hmid]
      rw [toReq_call]
      rw [lift (ev_copy _ (by omega)) rfl]
      conv => lhs; whnf
      dsimp -iota -beta -eta -zeta only
      rw [drw (by kernel_rfl)]; conv => lhs; whnf
      rw [ile_f (by (simp only [LL] at * <;> omega))]
      conv => lhs; whnf
      rw [linb_t (by omega)]
      conv => lhs; whnf
      dsimp -iota -beta -eta -zeta only
      rw [hgc]; conv => lhs; whnf
      rw [linb_t (by omega)]
      conv => lhs; whnf
      rw [hgc]; conv => lhs; whnf
      rw [hsC, hC2]
      rw [iadd_eq (by omega)]
      rw [Y_go]; conv => lhs; whnf
      rw [linb_t (by omega)]
      conv => lhs; whnf
      dsimp -iota -beta -eta -zeta only
      rw [hgb]; conv => lhs; whnf
      rw [linb_t (by omega)]
      conv => lhs; whnf
      rw [hgb]; conv => lhs; whnf
      dsimp -iota -beta -eta -zeta only
      rw [hsB, hC2]
      rw [toReq_call]
      rw [lift (ev_open _ _ _ (by omega) (by omega) (by omega)) rfl, ho]
      conv => lhs; whnf
      dsimp -iota -beta -eta -zeta only
      rw [toReq_call]
      rw [lift (ev_r4tag _ _ _ _ (by omega) (by omega) (by omega) (by omega)) rfl]
      conv => lhs; whnf
      rw [isub_eq (by (simp only [LL] at * <;> omega))]
      rw [lcut_s (by (simp only [LL] at * <;> omega))]
      conv => lhs; whnf
      dsimp -iota -beta -eta -zeta only
      rw [ht]
      rw [toReq_call]
      rw [lift (ev_same _ _ (by rw [tagB_len]; omega)) rfl, hdE]
      conv => lhs; whnf
      dsimp -iota -beta -eta -zeta only
      rw [drw (by kernel_rfl)]; conv => lhs; whnf
      rw [ieq_t (by omega)]
      conv => lhs; whnf
      (congr 3; simp only [ieq_eq, ine_eq, ilt_eq, ile_eq, bnot_eq, and_eq, llen_eq]; first | rfl | (rw [decide_eq_decide]; omega) | (simp; omega))
theorem ev_BoxTampered_k (key nonce ad plain : List UInt8) (z : Int) (x : UInt8) (hx : (x.toNat : Int) ≠ ((UInt8.ofNat 0).toNat : Int)) (h1 : key.length ≤ 120) (h2 : nonce.length ≤ 64) (h3 : ad.length ≤ 120) (h4 : plain.length ≤ 120) (h0 : 0 ≤ z) (hz : z < nonce.length + plain.length) : Y E1 (.drw ⟨138, 3, 0⟩ [true, true, true, true, true, true, true, true, false] 0 [] [Fr.seq [true, true, true, true, true, true, true, true, true] 0, Fr.ret] 1 [(0, AV.sl Ty.u8 key), (1, AV.sl Ty.u8 nonce), (2, AV.sl Ty.u8 ad), (5, AV.u8 x), (13, AV.nm 0), (14, AV.i (llen nonce + llen plain)), (15, AV.i (z))] [(0, some (Rs.row 5 Ty.u8 (sealB key nonce ad plain)))]) = some (.ret (.b true) []) := by
  have hs : sealB key nonce ad plain = formB nonce (strB key nonce plain) (tagB key nonce ad (strB key nonce plain)) := by unfold sealB; rw [if_neg (by omega)]
  have hx' : x ≠ 0 := by intro e; rw [e] at hx; exact hx rfl
  obtain ⟨k, hk⟩ : ∃ k : Nat, z = (k : Int) := ⟨z.toNat, by omega⟩
  have hS := strB_len (key := key) (nonce := nonce) (b := plain) (by omega)
  rw [hs, hk]
  exact ev_BoxTampered_m key nonce ad plain _ _ k x hx' (by omega) h1 h2 h3 h4 hS (tagB_len _ _ _ _)
theorem ev_BoxTampered_n (key nonce ad plain : List UInt8) (at' : Int) (x : UInt8) (hx : (x.toNat : Int) ≠ ((UInt8.ofNat 0).toNat : Int)) (h1 : key.length ≤ 120) (h2 : nonce.length ≤ 64) (h3 : ad.length ≤ 120) (h4 : plain.length ≤ 120) (hn : (nonce.length : Int) + plain.length ≠ 0) (h0 : irem at' (nonce.length + plain.length) < 0) : Y E1 (.drw ⟨138, 3, 0⟩ [true, true, true, true, true, true, true, true, false] 0 [] [Fr.seq [true, true, true, true, true, true, true, true, true] 0, Fr.ret] 1 [(0, AV.sl Ty.u8 key), (1, AV.sl Ty.u8 nonce), (2, AV.sl Ty.u8 ad), (5, AV.u8 x), (13, AV.nm 0), (14, AV.i (llen nonce + llen plain)), (15, AV.i (iadd (irem at' (llen nonce + llen plain)) (llen nonce + llen plain)))] [(0, some (Rs.row 5 Ty.u8 (sealB key nonce ad plain)))]) = some (.ret (.b true) []) := by
  have hb := irem_bd at' (show 1 ≤ (nonce.length : Int) + plain.length by omega)
  refine ev_BoxTampered_k key nonce ad plain _ x hx h1 h2 h3 h4 ?_ ?_ <;> rw [llen_eq, llen_eq, iadd_eq (by omega)] <;> omega
theorem ev_BoxTampered_p (key nonce ad plain : List UInt8) (at' : Int) (x : UInt8) (hx : (x.toNat : Int) ≠ ((UInt8.ofNat 0).toNat : Int)) (h1 : key.length ≤ 120) (h2 : nonce.length ≤ 64) (h3 : ad.length ≤ 120) (h4 : plain.length ≤ 120) (hn : (nonce.length : Int) + plain.length ≠ 0) (h0 : 0 ≤ irem at' (nonce.length + plain.length)) : Y E1 (.drw ⟨138, 3, 0⟩ [true, true, true, true, true, true, true, true, false] 0 [] [Fr.seq [true, true, true, true, true, true, true, true, true] 0, Fr.ret] 1 [(0, AV.sl Ty.u8 key), (1, AV.sl Ty.u8 nonce), (2, AV.sl Ty.u8 ad), (5, AV.u8 x), (13, AV.nm 0), (14, AV.i (llen nonce + llen plain)), (15, AV.i (irem at' (llen nonce + llen plain)))] [(0, some (Rs.row 5 Ty.u8 (sealB key nonce ad plain)))]) = some (.ret (.b true) []) := by
  have hb := irem_bd at' (show 1 ≤ (nonce.length : Int) + plain.length by omega)
  refine ev_BoxTampered_k key nonce ad plain _ x hx h1 h2 h3 h4 ?_ ?_ <;> rw [llen_eq, llen_eq] <;> omega
theorem ev_BoxTampered (key nonce ad plain : List UInt8) (at' : Int) (x : UInt8) : Y E1 (.call 3 [.sl .u8 key, .sl .u8 nonce, .sl .u8 ad, .sl .u8 plain, .i at', .u8 x] []) = some (.ret (.b true) []) := by
  have hl := sealB_le key nonce ad plain
  have hq := fun (h : 0 < nonce.length + plain.length) => Int.emod_nonneg at' (show (nonce.length : Int) + plain.length ≠ 0 by omega)
  have hq2 := fun (h : 0 < nonce.length + plain.length) => Int.emod_lt_of_pos at' (show 0 < (nonce.length : Int) + plain.length by omega)
  by_cases hc : key.length ≤ 120 ∧ nonce.length ≤ 64 ∧ ad.length ≤ 120 ∧ plain.length ≤ 120
  · have h1 := sealB_len (key := key) (ad := ad) (nonce := nonce) (plain := plain) (by omega) (by omega)
    rw [Y_go]; conv => lhs; whnf
    dsimp -iota -beta -eta -zeta only
    rw [toReq_call]
    rw [lift (ev_awake4) rfl]
    conv => lhs; whnf
    rw [bnot_eq]; conv => lhs; whnf
    dsimp -iota -beta -eta -zeta only
    rw [toReq_call]
    rw [lift (ev_small4_4 _ _ _ _) rfl]
    conv => lhs; whnf
    rw [bnot_eq]; conv => lhs; whnf
    rcases Bool.eq_false_or_eq_true (decide (key.length ≤ 120 ∧ nonce.length ≤ 120 ∧ ad.length ≤ 120 ∧ plain.length ≤ 120)) with hc0 | hc0
    · rw [hc0]; replace hc0 := of_decide_eq_true hc0; try simp only at hc0
      conv => lhs; whnf
      rw [ilt_f (by (simp only [LL] at * <;> omega))]
      conv => lhs; whnf
      rw [u8cmp_eql]
      rcases Bool.eq_false_or_eq_true (ieq ↑x.toNat ↑(UInt8.ofNat 0).toNat) with hc1 | hc1
      · rw [hc1]; replace hc1 := of_ieq_t hc1; try simp only [llen_eq] at hc1
        conv => lhs; whnf
      · rw [hc1]; replace hc1 := of_ieq_f hc1; try simp only [llen_eq] at hc1
        conv => lhs; whnf
        dsimp -iota -beta -eta -zeta only
        rw [toReq_call]
        rw [lift (ev_seal _ _ _ _ (by omega) (by omega)) rfl]
        conv => lhs; whnf
        dsimp -iota -beta -eta -zeta only
        rw [toReq_call]
        rw [lift (ev_copy _ (by omega)) rfl]
        conv => lhs; whnf
        rw [iadd_eq (a := llen nonce) (b := llen plain) (by (simp only [LL] at * <;> omega))]
        rw [iadd_eq (by (simp only [LL] at * <;> omega))]
        rw [ine_f (by (simp only [LL] at * <;> omega))]
        conv => lhs; whnf
        rcases Bool.eq_false_or_eq_true (ieq (llen nonce + llen plain) 0) with hc2 | hc2
        · rw [hc2]; replace hc2 := of_ieq_t hc2; try simp only [llen_eq] at hc2
          conv => lhs; whnf
          (congr 3; simp only [ieq_eq, ine_eq, ilt_eq, ile_eq, bnot_eq, and_eq, llen_eq]; first | rfl | (rw [decide_eq_decide]; omega) | (simp; omega))
        · rw [hc2]; replace hc2 := of_ieq_f hc2; try simp only [llen_eq] at hc2
          conv => lhs; whnf
          rw [ieq_f (by (simp only [LL] at * <;> omega))]
          conv => lhs; whnf
          rcases Bool.eq_false_or_eq_true (ilt (irem at' (llen nonce + llen plain)) 0) with hc3 | hc3
          · rw [hc3]; replace hc3 := of_ilt_t hc3; try simp only [llen_eq] at hc3
            conv => lhs; whnf
            rw [Y_go]; conv => lhs; whnf
            rw [ev_BoxTampered_n _ _ _ _ _ _ (by assumption) (by omega) (by omega) (by omega) (by omega) (by omega) (by omega)]
          · rw [hc3]; replace hc3 := of_ilt_f hc3; try simp only [llen_eq] at hc3
            conv => lhs; whnf
            rw [Y_go]; conv => lhs; whnf
            rw [ev_BoxTampered_p _ _ _ _ _ _ (by assumption) (by omega) (by omega) (by omega) (by omega) (by omega) (by omega)]
    · rw [hc0]; replace hc0 := of_decide_eq_false hc0; try simp only at hc0
      conv => lhs; whnf
  · rw [Y_go]; conv => lhs; whnf
    dsimp -iota -beta -eta -zeta only
    rw [toReq_call]
    rw [lift (ev_awake4) rfl]
    conv => lhs; whnf
    rw [bnot_eq]; conv => lhs; whnf
    dsimp -iota -beta -eta -zeta only
    rw [toReq_call]
    rw [lift (ev_small4_4 _ _ _ _) rfl]
    conv => lhs; whnf
    rw [bnot_eq]; conv => lhs; whnf
    rcases Bool.eq_false_or_eq_true (decide (key.length ≤ 120 ∧ nonce.length ≤ 120 ∧ ad.length ≤ 120 ∧ plain.length ≤ 120)) with hc0 | hc0
    · rw [hc0]; replace hc0 := of_decide_eq_true hc0; try simp only at hc0
      conv => lhs; whnf
      rw [ilt_t (by (simp only [LL] at * <;> omega))]
      conv => lhs; whnf
    · rw [hc0]; replace hc0 := of_decide_eq_false hc0; try simp only at hc0
      conv => lhs; whnf
end Go.Proofs.YtfjcmolccckhhaaDoor
