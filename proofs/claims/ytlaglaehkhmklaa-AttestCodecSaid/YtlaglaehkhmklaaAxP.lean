/-
  Own text. The abstract machine: what the small operations are, in plain terms. From here on a computation does not unfold them. It claims nothing of any program.
-/
import Derived.Test.YtlaglaehkhmklaaAxO
namespace Go.Ax
open Go Go.RowKit Go.Eng
set_option linter.unusedVariables false
set_option linter.unusedSimpArgs false

theorem wrap64 {n : Int} (h : -9223372036854775808 ≤ n ∧ n ≤ 9223372036854775807) : IntKind.i64.wrap n = n := by
  have e1 : (2 : Int) ^ IntKind.i64.bits = 18446744073709551616 := rfl
  have e2 : (2 : Int) ^ (IntKind.i64.bits - 1) = 9223372036854775808 := rfl
  have e3 : IntKind.i64.signed = true := rfl
  unfold IntKind.wrap
  simp only [e1, e2, e3, Bool.true_and, decide_eq_true_eq]
  split <;> omega
theorem iadd_eq {a b : Int} (h : -9223372036854775808 ≤ a + b ∧ a + b ≤ 9223372036854775807) : iadd a b = a + b := by rw [iadd_d]; exact wrap64 h
theorem isub_eq {a b : Int} (h : -9223372036854775808 ≤ a - b ∧ a - b ≤ 9223372036854775807) : isub a b = a - b := by rw [isub_d]; exact wrap64 h
theorem imul_eq {a b : Int} (h : -9223372036854775808 ≤ a * b ∧ a * b ≤ 9223372036854775807) : imul a b = a * b := by rw [imul_d]; exact wrap64 h
theorem iquo_eq {a b : Int} (h : 0 ≤ a ∧ a ≤ 9223372036854775807 ∧ 1 ≤ b) : iquo a b = a / b := by
  have h1 : a.tdiv b = a / b := Int.tdiv_eq_ediv_of_nonneg h.1
  rw [iquo_d]; unfold iquo0; rw [h1]
  have h2 : 0 ≤ a / b := Int.ediv_nonneg h.1 (by omega)
  have h3 : a / b ≤ a := Int.ediv_le_self _ h.1
  exact wrap64 (by omega)
theorem irem_eq {a b : Int} (h : 0 ≤ a) : irem a b = a % b := by rw [irem_d]; exact Int.tmod_eq_emod_of_nonneg h
theorem ineg_eq {a : Int} (h : -9223372036854775807 ≤ a ∧ a ≤ 9223372036854775807) : ineg a = -a := by rw [ineg_d]; exact wrap64 (by omega)
theorem i64w_eq {a : Int} (h : -9223372036854775808 ≤ a ∧ a ≤ 9223372036854775807) : i64w a = a := by rw [i64w_d]; exact wrap64 h
theorem ieq_t {a b : Int} (h : a = b) : ieq a b = true := by simp [ieq_d, ieq0, h]
theorem ieq_f {a b : Int} (h : a ≠ b) : ieq a b = false := by simp [ieq_d, ieq0, h]
theorem ine_t {a b : Int} (h : a ≠ b) : ine a b = true := by simp [ine_d, ine0, h]
theorem ine_f {a b : Int} (h : a = b) : ine a b = false := by simp [ine_d, ine0, h]
theorem ilt_t {a b : Int} (h : a < b) : ilt a b = true := by simp [ilt_d, ilt0, h]
theorem ilt_f {a b : Int} (h : b ≤ a) : ilt a b = false := by simp [ilt_d, ilt0]; omega
theorem ile_t {a b : Int} (h : a ≤ b) : ile a b = true := by simp [ile_d, ile0, h]
theorem ile_f {a b : Int} (h : b < a) : ile a b = false := by simp [ile_d, ile0]; omega
theorem of_ieq_t {a b : Int} (h : ieq a b = true) : a = b := by simpa [ieq_d, ieq0] using h
theorem of_ieq_f {a b : Int} (h : ieq a b = false) : a ≠ b := by simpa [ieq_d, ieq0] using h
theorem of_ine_t {a b : Int} (h : ine a b = true) : a ≠ b := by simpa [ine_d, ine0] using h
theorem of_ine_f {a b : Int} (h : ine a b = false) : a = b := by simpa [ine_d, ine0] using h
theorem of_ilt_t {a b : Int} (h : ilt a b = true) : a < b := by simpa [ilt_d, ilt0] using h
theorem of_ilt_f {a b : Int} (h : ilt a b = false) : b ≤ a := by simpa [ilt_d, ilt0] using h
theorem of_ile_t {a b : Int} (h : ile a b = true) : a ≤ b := by simpa [ile_d, ile0] using h
theorem of_ile_f {a b : Int} (h : ile a b = false) : b < a := by simpa [ile_d, ile0] using h
theorem llen_eq {α : Type} (l : List α) : llen l = (l.length : Int) := by rw [llen_d]; rfl
theorem lapp_eq {α : Type} (l m : List α) : lapp l m = l ++ m := by rw [lapp_d]; rfl
theorem lcpy_eq {α : Type} (l m : List α) : lcpy l m = m.take l.length ++ l.drop m.length := by rw [lcpy_d]; rfl
theorem lrep_eq {α : Type} (n : Int) (a : α) : lrep n a = List.replicate n.toNat a := by rw [lrep_d]; rfl
theorem lset_eq {α : Type} (l : List α) (i : Int) (a : α) : lset l i a = l.set i.toNat a := by rw [lset_d]; rfl
theorem lemp_eq {α : Type} (l : List α) : lemp l = l.isEmpty := by rw [lemp_d]; rfl
theorem lget_s {α : Type} {l : List α} {i : Int} {a : α} (h : 0 ≤ i) (h2 : l[i.toNat]? = some a) : lget l i = some a := by rw [lget_d, lget0, if_pos h]; exact h2
theorem lget_none {α : Type} {l : List α} {i : Int} (h : i < 0 ∨ (l.length : Int) ≤ i) : lget l i = none := by
  rw [lget_d]; unfold lget0
  split
  · exact List.getElem?_eq_none (by omega)
  · rfl
theorem lget_nat {α : Type} (l : List α) (i : Nat) : lget l (i : Int) = l[i]? := by rw [lget_d, lget0, if_pos (by omega)]; rfl
theorem linb_t {α : Type} {l : List α} {i : Int} (h : 0 ≤ i ∧ i < l.length) : linb l i = true := by simp only [linb_d, linb0, decide_eq_true_eq]; exact h
theorem lcut_all {α : Type} (l : List α) : lcut l 0 (llen l) = some l := by
  rw [lcut_d, lcut0, if_pos (by simp [llen_eq])]
  simp [llen_eq]
theorem lcut_s {α : Type} {l : List α} {lo hi : Int} (h : 0 ≤ lo ∧ lo ≤ hi ∧ hi ≤ l.length) : lcut l lo hi = some ((l.drop lo.toNat).take (hi - lo).toNat) := by rw [lcut_d, lcut0, if_pos h]
theorem lcut_none {α : Type} {l : List α} {lo hi : Int} (h : ¬ (0 ≤ lo ∧ lo ≤ hi ∧ hi ≤ l.length)) : lcut l lo hi = none := by rw [lcut_d, lcut0, if_neg h]
theorem fits_t {α : Type} {l : List α} {b : Nat} (h : l.length * b ≤ 140737488355328) : fits l b = true := by simp only [fits_d, fits0, decide_eq_true_eq]; exact h
theorem fitn_t {n : Int} {b : Nat} (h : 0 ≤ n ∧ b * n.toNat ≤ 281474976710656) : fitn n b = true := by simp only [fitn_d, fitn0, decide_eq_true_eq]; exact h
theorem seq_t {a b : List UInt8} (h : a = b) : seq' a b = true := by simp [seq_d, seq0, h]
theorem seq_f {a b : List UInt8} (h : a ≠ b) : seq' a b = false := by simp [seq_d, seq0, h]
theorem bnot_eq (a : Bool) : bnot a = !a := by rw [bnot_d]; rfl
theorem and_eq (a b : Bool) : and' a b = (a && b) := by rw [and_d]; rfl
theorem beq_eq (a b : Bool) : beq' a b = (a == b) := by rw [beq_d]; rfl
theorem u8i_eq (a : UInt8) : u8i a = (a.toNat : Int) := by rw [u8i_d]; rfl
theorem iu8_eq (a : Int) : iu8 a = UInt8.ofInt a := by rw [iu8_d]; rfl
theorem iu64_eq (a : Int) : iu64 a = UInt64.ofInt a := by rw [iu64_d]; rfl
theorem u64u8_eq (a : UInt64) : u64u8 a = a.toUInt8 := by rw [u64u8_d]; rfl
theorem u8u64_eq (a : UInt8) : u8u64 a = a.toUInt64 := by rw [u8u64_d]; rfl
theorem u64i_eq {a : UInt64} (h : a.toNat ≤ 9223372036854775807) : u64i a = (a.toNat : Int) := by rw [u64i_d]; exact wrap64 (by omega)
theorem u64_ofInt {c : Int} (h : 0 ≤ c ∧ c < 18446744073709551616) : (UInt64.ofInt c).toNat = c.toNat := by
  have h1 : UInt64.ofInt c = UInt64.ofNat c.toNat := by
    unfold UInt64.ofInt
    congr 1
    rw [Int.emod_eq_of_lt h.1 (by omega)]
  rw [h1, UInt64.toNat_ofNat', Nat.mod_eq_of_lt (by omega)]
theorem u8_ofInt {c : Int} (h : 0 ≤ c ∧ c < 256) : (UInt8.ofInt c).toNat = c.toNat := by
  have h1 : UInt8.ofInt c = UInt8.ofNat c.toNat := by
    unfold UInt8.ofInt
    congr 1
    rw [Int.emod_eq_of_lt h.1 (by omega)]
  rw [h1, UInt8.toNat_ofNat', Nat.mod_eq_of_lt (by omega)]
theorem u64shr_eq {a : UInt64} {c : Nat} (h : c < 64) : u64shr a c = a >>> UInt64.ofNat c := by
  apply UInt64.toNat_inj.1
  rw [u64shr_d]; unfold u64shr0
  rw [UInt64.toNat_shiftRight, Nat.shiftRight_eq_div_pow, UInt64.toNat_ofNat', UInt64.toNat_ofNat', Nat.min_eq_left (by omega)]
  have h2 : c % 2 ^ 64 % 64 = c := by omega
  rw [h2]
  have := a.toNat_lt
  exact Nat.mod_eq_of_lt (Nat.lt_of_le_of_lt (Nat.div_le_self _ _) this)
theorem u64shl_eq {a : UInt64} {c : Nat} (h : c < 64) : u64shl a c = a <<< UInt64.ofNat c := by
  rw [u64shl_d]; unfold u64shl0
  apply UInt64.toNat_inj.1
  rw [Nat.min_eq_left (by omega), UInt64.toNat_shiftLeft, Nat.shiftLeft_eq, UInt64.toNat_ofNat']
  have h2 : c % 2 ^ 64 % 64 = c := by omega
  rw [h2]
  have h3 : (a.toNat : Int) * 2 ^ c = ((a.toNat * 2 ^ c : Nat) : Int) := by simp
  rw [h3]
  have h4 : ((a.toNat * 2 ^ c : Nat) : Int) % 2 ^ 64 = (((a.toNat * 2 ^ c) % 2 ^ 64 : Nat) : Int) := by simp
  unfold UInt64.ofInt
  rw [h4, Int.toNat_natCast, UInt64.toNat_ofNat', Nat.mod_mod]
theorem u64or_eq (a b : UInt64) : u64op .or a b = a ||| b := by rw [u64op_d]; rfl
theorem u64gt_t {a b : UInt64} (h : b.toNat < a.toNat) : u64cmp .gtr a b = true := by rw [u64cmp_d]; simp [u64cmp0, cmpB]; omega
theorem u64gt_f {a b : UInt64} (h : a.toNat ≤ b.toNat) : u64cmp .gtr a b = false := by rw [u64cmp_d]; simp [u64cmp0, cmpB]; omega
theorem ishl8 (a : UInt8) : ishl (a.toNat : Int) 8 = (a.toNat : Int) * 2 ^ (8 : Int).toNat := by
  have := a.toNat_lt
  rw [ishl_d]; unfold ishl0
  rw [show min 8 64 = 8 from rfl, show (2 : Int) ^ (8 : Int).toNat = 256 from rfl, show (2 : Int) ^ 8 = 256 from rfl]
  exact wrap64 (by omega)
theorem ior_eq (a b : Int) : ibit .or a b = bits .or .i64 a b := by rw [ibit_d]; rfl
end Go.Ax
