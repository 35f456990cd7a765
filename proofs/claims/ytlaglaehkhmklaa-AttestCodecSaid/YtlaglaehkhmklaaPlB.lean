/-
  Own text: numbers and their bytes; what is written is read back. No program is named here.
-/
import Derived.Test.YtlaglaehkhmklaaAxQ
namespace Go.Ax
open Go Go.Eng Go.RowKit
set_option linter.unusedVariables false
set_option linter.unusedSimpArgs false
/-! ### Numbers and their bytes -/
/-- the value of bytes -/
def valN (l : List UInt8) : Nat := l.foldl (fun n x => n * 256 + x.toNat) 0
theorem valN_go (l : List UInt8) : ∀ a : Nat, l.foldl (fun n x => n * 256 + x.toNat) a = a * 256 ^ l.length + valN l := by
  induction l with
  | nil => intro a; simp [valN]
  | cons x l ih =>
    intro a
    rw [List.foldl_cons, ih]
    have e : valN (x :: l) = x.toNat * 256 ^ l.length + valN l := by
      rw [show valN (x :: l) = l.foldl (fun n x => n * 256 + x.toNat) (0 * 256 + x.toNat) from rfl, ih]; simp
    rw [e, List.length_cons, Nat.pow_succ, Nat.add_mul, Nat.mul_assoc, Nat.mul_comm 256, Nat.add_assoc]
theorem valN_cons (x : UInt8) (l : List UInt8) : valN (x :: l) = x.toNat * 256 ^ l.length + valN l := by
  rw [valN, List.foldl_cons, valN_go]; simp
theorem valN_lt (l : List UInt8) : valN l < 256 ^ l.length := by
  induction l with
  | nil => simp [valN]
  | cons x l ih =>
    rw [valN_cons, List.length_cons, Nat.pow_succ]
    have := x.toNat_lt
    have h2 : x.toNat * 256 ^ l.length ≤ 255 * 256 ^ l.length := Nat.mul_le_mul_right _ (by omega)
    omega
theorem shl8_or (n : UInt64) (x : UInt8) (h : n.toNat < 2 ^ 56) : (n <<< 8 ||| x.toUInt64).toNat = n.toNat * 256 + x.toNat := by
  have hx := x.toNat_lt
  rw [UInt64.toNat_or, UInt64.toNat_shiftLeft]
  have e1 : (8 : UInt64).toNat % 64 = 8 := by decide
  rw [e1, Nat.shiftLeft_eq, Nat.mod_eq_of_lt (by omega)]
  have e2 : x.toUInt64.toNat = x.toNat := by simp
  rw [e2]
  have := Nat.shiftLeft_add_eq_or_of_lt (i := 8) (show x.toNat < 2 ^ 8 by omega) n.toNat
  rw [Nat.shiftLeft_eq] at this
  rw [← this]
theorem beN_val (l : List UInt8) (h : l.length ≤ 8) : (beN l).toNat = valN l := by
  have key : ∀ (l : List UInt8) (a : UInt64) (m : Nat), a.toNat < 256 ^ m → m + l.length ≤ 8 → (l.foldl (fun (n : UInt64) (x : UInt8) => n <<< 8 ||| x.toUInt64) a).toNat = a.toNat * 256 ^ l.length + valN l := by
    intro l
    induction l with
    | nil => intro a m _ _; simp [valN]
    | cons x l ih =>
      intro a m ha hm
      rw [List.length_cons] at hm
      have hx := x.toNat_lt
      have h56 : a.toNat < 2 ^ 56 := by
        have : 256 ^ m ≤ 256 ^ 7 := Nat.pow_le_pow_right (by omega) (by omega)
        have e : (256 : Nat) ^ 7 = 2 ^ 56 := by decide
        omega
      have hs := shl8_or a x h56
      rw [List.foldl_cons, ih _ (m + 1) (by rw [hs, Nat.pow_succ]; omega) (by omega), hs, valN_cons, List.length_cons, Nat.pow_succ, Nat.add_mul, Nat.mul_assoc, Nat.mul_comm 256]
      omega
  have := key l 0 0 (by decide) (by omega)
  simpa [beN] using this
/-- the bytes of a number -/
theorem beB_val (k : Nat) (x : UInt64) (hk : k ≤ 8) : valN (beB k x) = x.toNat % 256 ^ k := by
  induction k with
  | zero => simp [beB, valN, Nat.mod_one]
  | succ k ih =>
    rw [beB, valN_cons, beB_len, ih (by omega)]
    have h1 : ((x >>> UInt64.ofNat (8 * k)).toUInt8).toNat = x.toNat / 256 ^ k % 256 := by
      rw [UInt64.toNat_toUInt8, UInt64.toNat_shiftRight, UInt64.toNat_ofNat', Nat.shiftRight_eq_div_pow]
      have e : 8 * k % 2 ^ 64 % 64 = 8 * k := by omega
      rw [e, Nat.pow_mul]
    rw [h1, Nat.pow_succ, Nat.mod_mul]
    rw [Nat.mul_comm, Nat.add_comm]
theorem valN_inj : ∀ {l m : List UInt8}, l.length = m.length → valN l = valN m → l = m
  | [], [], _, _ => rfl
  | x :: l, y :: m, hl, hv => by
    rw [valN_cons, valN_cons] at hv
    have hl' : l.length = m.length := by simpa using hl
    have h1 := valN_lt l
    have h2 := valN_lt m
    rw [hl'] at hv h1
    have hp : 0 < 256 ^ m.length := Nat.pow_pos (by omega)
    have hxy : x.toNat = y.toNat := by
      have a1 : (x.toNat * 256 ^ m.length + valN l) / 256 ^ m.length = x.toNat := by
        rw [Nat.mul_comm, Nat.mul_add_div hp, Nat.div_eq_of_lt h1, Nat.add_zero]
      have a2 : (y.toNat * 256 ^ m.length + valN m) / 256 ^ m.length = y.toNat := by
        rw [Nat.mul_comm, Nat.mul_add_div hp, Nat.div_eq_of_lt h2, Nat.add_zero]
      rw [← a1, hv, a2]
    have hlm : valN l = valN m := by rw [hxy] at hv; omega
    rw [UInt8.toNat_inj.1 hxy, valN_inj hl' hlm]
  | [], _ :: _, h, _ => by simp at h
  | _ :: _, [], h, _ => by simp at h
/-- bytes are those of their number -/
theorem beB_beN (l : List UInt8) (h : l.length ≤ 8) (hb : valN l < 9223372036854775808) : beB l.length (UInt64.ofInt (valN l : Int)) = l := by
  apply valN_inj (by rw [beB_len])
  rw [beB_val _ _ h, u64_ofInt (by omega), Int.toNat_natCast, Nat.mod_eq_of_lt (valN_lt l)]
theorem valN_ofInt (k : Nat) (x : Int) (hk : k ≤ 8) (h0 : 0 ≤ x) (h1 : x < 9223372036854775808) (h : x.toNat < 256 ^ k) : valN (beB k (UInt64.ofInt x)) = x.toNat := by
  rw [beB_val _ _ hk, u64_ofInt (by omega), Nat.mod_eq_of_lt h]

/-! ### Reading what was written -/
theorem len_of_drop {b r : List UInt8} {p : Nat} (h : b.drop p = r) (hp : p ≤ b.length) : b.length = p + r.length := by rw [← h, List.length_drop]; omega
theorem drop_add {b x r : List UInt8} {p : Nat} (h : b.drop p = x ++ r) : b.drop (p + x.length) = r := by
  rw [← List.drop_drop, h, List.drop_left]
theorem rdU_app {b r : List UInt8} {p n : Nat} {x : Int} (hp : p ≤ b.length) (hn : 1 ≤ n ∧ n ≤ 8) (h : b.drop p = beB n (UInt64.ofInt x) ++ r) (h0 : 0 ≤ x) (h1 : x < 9223372036854775808) (h2 : x.toNat < 256 ^ n) :
    rdU b p 0 n = (x, p + n, 0) ∧ p + n ≤ b.length ∧ b.drop (p + n) = r := by
  have hl := len_of_drop h hp
  rw [List.length_append, beB_len] at hl
  have ht : (b.drop p).take n = beB n (UInt64.ofInt x) := by rw [h, List.take_left' (beB_len _ _)]
  have hv : (beN (beB n (UInt64.ofInt x))).toNat = x.toNat := by rw [beN_val _ (by rw [beB_len]; omega), valN_ofInt _ _ hn.2 h0 h1 h2]
  refine ⟨?_, by omega, by have := drop_add h; rwa [beB_len] at this⟩
  unfold rdU
  rw [if_neg (by simp), if_neg (by omega), if_neg (by simp only [Int.toNat_natCast]; omega)]
  simp only [Int.toNat_natCast, ht, hv]
  rw [if_neg (by omega)]
  rw [Int.toNat_of_nonneg h0]
theorem rdR_app {b x r : List UInt8} {p n : Nat} (hp : p ≤ b.length) (h : b.drop p = x ++ r) (hx : x.length = n) : rdR b p 0 n = (x, p + n, 0) ∧ p + n ≤ b.length ∧ b.drop (p + n) = r := by
  have hl := len_of_drop h hp
  rw [List.length_append] at hl
  subst hx
  refine ⟨?_, by omega, drop_add h⟩
  unfold rdR
  rw [if_neg (by simp), if_neg (by omega), if_neg (by simp only [Int.toNat_natCast]; omega)]
  simp only [Int.toNat_natCast, h, List.take_left]
theorem lenAt_be {b r : List UInt8} {p : Nat} {x : UInt8} {y : UInt8} (h : b.drop p = x :: y :: r) : lenAt b p = x.toNat * 256 + y.toNat := by
  have e0 : b.getD p 0 = x := by
    have := congrArg (fun l => l.getD 0 0) h
    simpa [List.getD, List.getElem?_drop] using this
  have e1 : b.getD (p + 1) 0 = y := by
    have := congrArg (fun l => l.getD 1 0) h
    simpa [List.getD, List.getElem?_drop] using this
  rw [lenAt, e0, e1]
/-- a length in two bytes -/
def len2 (n : Nat) : List UInt8 := beB 2 (UInt64.ofInt (n : Int))
theorem len2_two (n : Nat) : ∃ x y, len2 n = [x, y] := ⟨_, _, rfl⟩
theorem len2_len (n : Nat) : (len2 n).length = 2 := beB_len _ _
theorem len2_val {n : Nat} (h : n ≤ 65535) {x y : UInt8} (hxy : len2 n = [x, y]) : x.toNat * 256 + y.toNat = n := by
  have := valN_ofInt 2 (n : Int) (by omega) (by omega) (by omega) (by simp; omega)
  rw [show beB 2 (UInt64.ofInt (n : Int)) = [x, y] from hxy] at this
  rw [valN_cons, valN_cons] at this
  simpa [valN] using this
theorem rdB_app {b x r : List UInt8} {p : Nat} {most : Int} (hp : p ≤ b.length) (h : b.drop p = len2 x.length ++ x ++ r) (hx : x.length ≤ 65535) (hm : (x.length : Int) ≤ most) :
    rdB b p 0 most = (x, p + 2 + x.length, 0) ∧ p + 2 + x.length ≤ b.length ∧ b.drop (p + 2 + x.length) = r := by
  have hl := len_of_drop h hp
  rw [List.length_append, List.length_append, len2_len] at hl
  obtain ⟨u, v, huv⟩ := len2_two x.length
  have hv := len2_val hx huv
  have hL : lenAt b p = x.length := by
    rw [lenAt_be (x := u) (y := v) (r := x ++ r) (by rw [h, huv]; rfl)]; exact hv
  have h2 : b.drop (p + 2) = x ++ r := by
    have := drop_add (x := len2 x.length) (r := x ++ r) (by rw [h, List.append_assoc])
    rwa [len2_len] at this
  refine ⟨?_, by omega, drop_add h2⟩
  unfold rdB
  rw [if_neg (by simp), if_neg (by omega), hL, if_neg (by omega), if_neg (by omega), h2, List.take_left]
theorem rdE_ok {b : List UInt8} {p : Nat} (hp : p ≤ b.length) (h : b.drop p = []) : rdE b p 0 = 0 := by
  have := len_of_drop h hp
  unfold rdE; rw [if_neg (by simp at this; omega)]

/-! ### What was read was written -/
theorem rdU_inv {b : List UInt8} {p q n : Nat} {e x : Int} (hp : p ≤ b.length) (hn : 1 ≤ n ∧ n ≤ 8) (h : rdU b p e n = (x, q, 0)) : e = 0 ∧ q = p + n ∧ q ≤ b.length ∧ b.drop p = beB n (UInt64.ofInt x) ++ b.drop q ∧ 0 ≤ x ∧ x < 9223372036854775808 ∧ x.toNat < 256 ^ n := by
  unfold rdU at h
  split at h
  · rename_i he; simp only [Prod.mk.injEq] at h; exact absurd h.2.2 he
  rename_i he
  split at h
  · simp at h
  split at h
  · simp at h
  rename_i hl
  split at h
  · simp at h
  rename_i hb
  simp only [Int.toNat_natCast, Prod.mk.injEq] at h hb hl
  obtain ⟨h1, h2, _⟩ := h
  have hlen : ((b.drop p).take n).length = n := by simp; omega
  rw [beN_val _ (by omega)] at h1 hb
  have hlt := valN_lt ((b.drop p).take n)
  rw [hlen] at hlt
  subst h1 h2
  refine ⟨by omega, rfl, by omega, ?_, by omega, by omega, by simpa using hlt⟩
  have hbb := beB_beN ((b.drop p).take n) (by omega) (by omega)
  rw [hlen] at hbb
  rw [hbb, ← List.drop_drop, List.take_append_drop]
theorem rdR_inv {b x : List UInt8} {p q n : Nat} {e : Int} (hp : p ≤ b.length) (h : rdR b p e n = (x, q, 0)) : e = 0 ∧ q = p + n ∧ q ≤ b.length ∧ b.drop p = x ++ b.drop q ∧ x.length = n := by
  unfold rdR at h
  split at h
  · rename_i he; simp only [Prod.mk.injEq] at h; exact absurd h.2.2 he
  rename_i he
  split at h
  · simp at h
  split at h
  · simp at h
  rename_i hl
  simp only [Int.toNat_natCast, Prod.mk.injEq] at h hl
  obtain ⟨h1, h2, _⟩ := h
  subst h1 h2
  refine ⟨by omega, rfl, by omega, ?_, by simp; omega⟩
  rw [← List.drop_drop, List.take_append_drop]
theorem two_of {b : List UInt8} {p : Nat} (h : p + 2 ≤ b.length) : b.drop p = b.getD p 0 :: b.getD (p + 1) 0 :: b.drop (p + 2) := by
  rw [List.drop_eq_getElem_cons (show p < b.length by omega), List.drop_eq_getElem_cons (show p + 1 < b.length by omega)]
  simp [List.getD, List.getElem?_eq_getElem (show p < b.length by omega), List.getElem?_eq_getElem (show p + 1 < b.length by omega)]
theorem rdB_inv {b x : List UInt8} {p q : Nat} {e most : Int} (hp : p ≤ b.length) (h : rdB b p e most = (x, q, 0)) : e = 0 ∧ q = p + 2 + x.length ∧ q ≤ b.length ∧ b.drop p = len2 x.length ++ x ++ b.drop q ∧ (x.length : Int) ≤ most ∧ x.length ≤ 65535 := by
  unfold rdB at h
  split at h
  · rename_i he; simp only [Prod.mk.injEq] at h; exact absurd h.2.2 he
  rename_i he
  split at h
  · simp at h
  rename_i h2
  split at h
  · simp at h
  rename_i h3
  split at h
  · simp at h
  rename_i h4
  simp only [Prod.mk.injEq] at h
  obtain ⟨h1, hq, _⟩ := h
  have hlen : ((b.drop (p + 2)).take (lenAt b p)).length = lenAt b p := by simp; omega
  have hx := (b.getD p 0).toNat_lt
  have hy := (b.getD (p + 1) 0).toNat_lt
  have hL : lenAt b p = (b.getD p 0).toNat * 256 + (b.getD (p + 1) 0).toNat := rfl
  have hxl : x.length = lenAt b p := by rw [← h1]; exact hlen
  have h2' := two_of (b := b) (p := p) (by omega)
  have hle : len2 (lenAt b p) = [b.getD p 0, b.getD (p + 1) 0] := by
    have hv : valN [b.getD p 0, b.getD (p + 1) 0] = lenAt b p := by rw [valN_cons, valN_cons, hL]; simp [valN]
    have := beB_beN [b.getD p 0, b.getD (p + 1) 0] (by simp) (by rw [hv]; omega)
    rw [hv] at this
    exact this
  refine ⟨by omega, by omega, by omega, ?_, by omega, by omega⟩
  rw [hxl, hle, h2', ← hq, ← h1, ← List.drop_drop (i := lenAt b p)]
  simp only [List.cons_append, List.nil_append, List.take_append_drop]
theorem rdE_inv {b : List UInt8} {p : Nat} {e : Int} (hp : p ≤ b.length) (h : rdE b p e = 0) : e = 0 ∧ b.drop p = [] := by
  unfold rdE at h
  split at h
  · omega
  · rename_i hn
    exact ⟨h, List.drop_eq_nil_of_le (by omega)⟩
theorem uintB_eq {b : List UInt8} {n : Nat} {x : Int} (hn : 1 ≤ n ∧ n ≤ 8) : uintB b n x = b ++ beB n (UInt64.ofInt x) := by
  unfold uintB; rw [if_neg (by omega), Int.toNat_natCast]
theorem blobB_eq {b x : List UInt8} (h : x.length ≤ 65535) : blobB b x = b ++ len2 x.length ++ x := by
  unfold blobB
  rw [List.take_of_length_le h, show (2 : Int) = ((2 : Nat) : Int) from rfl, uintB_eq (by omega)]; rfl
theorem rdB_len {b : List UInt8} {at' : Nat} {e most : Int} : (rdB b at' e most).1.length ≤ b.length := by
  unfold rdB; repeat' split
  all_goals simp only [List.length_take, List.length_drop, List.length_nil]; omega
theorem rdR_len {b : List UInt8} {at' : Nat} {e n : Int} : (rdR b at' e n).1.length ≤ b.length := by
  unfold rdR; repeat' split
  all_goals simp only [List.length_take, List.length_drop, List.length_nil]; omega
theorem uintB_l {b : List UInt8} {n : Nat} {x : Int} (hn : 1 ≤ n ∧ n ≤ 8) : (uintB b n x).length = b.length + n := by rw [uintB_eq hn, List.length_append, beB_len]
theorem uintB_l1 (b : List UInt8) (x : Int) : (uintB b 1 x).length = b.length + 1 := uintB_l (n := 1) (by omega)
theorem uintB_l2 (b : List UInt8) (x : Int) : (uintB b 2 x).length = b.length + 2 := uintB_l (n := 2) (by omega)
theorem uintB_l3 (b : List UInt8) (x : Int) : (uintB b 3 x).length = b.length + 3 := uintB_l (n := 3) (by omega)
theorem uintB_l4 (b : List UInt8) (x : Int) : (uintB b 4 x).length = b.length + 4 := uintB_l (n := 4) (by omega)
theorem uintB_l8 (b : List UInt8) (x : Int) : (uintB b 8 x).length = b.length + 8 := uintB_l (n := 8) (by omega)
theorem blobB_l (b x : List UInt8) : (blobB b x).length = b.length + 2 + min 65535 x.length := by rw [blobB, List.length_append, uintB_l2, List.length_take]
theorem uintB1 (b : List UInt8) : uintB b 1 1 = b ++ [1] := by rw [uintB, if_neg (by omega)]; rfl
theorem uintB0 (b : List UInt8) : uintB b 1 0 = b ++ [0] := by rw [uintB, if_neg (by omega)]; rfl
end Go.Ax
