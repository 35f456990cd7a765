/-
  Own text. The abstract machine: more of what the small operations are, in plain terms. It claims nothing of any program.
-/
import Derived.Test.YtlaglaehkhmklaaPlA
import Derived.Laws.BitsLemmas
namespace Go.Ax
open Go Go.RowKit Go.Eng
set_option linter.unusedVariables false
set_option linter.unusedSimpArgs false

theorem lget_n {α : Type} {l : List α} {n : Nat} (h : n < l.length) : lget l (n : Int) = some (l[n]'h) := by rw [lget_nat, List.getElem?_eq_getElem h]
theorem lget_i {α : Type} {l : List α} {i : Int} (h : 0 ≤ i ∧ i < l.length) : lget l i = some (l[i.toNat]'(by omega)) := by rw [lget_d, lget0, if_pos h.1, List.getElem?_eq_getElem]
theorem linb_n {α : Type} {l : List α} {i : Nat} (h : i < l.length) : linb l (i : Int) = true := linb_t (by omega)
theorem of_seq_t {a b : List UInt8} (h : seq' a b = true) : a = b := by simpa [seq_d, seq0] using h
theorem of_seq_f {a b : List UInt8} (h : seq' a b = false) : a ≠ b := by simpa [seq_d, seq0] using h
theorem seq_eq (a b : List UInt8) : seq' a b = decide (a = b) := by rw [seq_d]; rfl
theorem of_beq_t {a b : Bool} (h : beq' a b = true) : a = b := by rw [beq_eq] at h; simpa using h
theorem of_beq_f {a b : Bool} (h : beq' a b = false) : a ≠ b := by rw [beq_eq] at h; simpa using h
theorem ieq_beq (a b : Int) : ieq a b = (a == b) := by simp only [ieq_d, ieq0]
theorem ieq_eq (a b : Int) : ieq a b = decide (a = b) := by simp only [ieq_d, ieq0]; rfl
theorem ine_eq (a b : Int) : ine a b = !decide (a = b) := by simp only [ine_d, ine0]; rfl
theorem ilt_eq (a b : Int) : ilt a b = decide (a < b) := by rw [ilt_d]; rfl
theorem ile_eq (a b : Int) : ile a b = decide (a ≤ b) := by rw [ile_d]; rfl
theorem u8cmp_eql (a b : UInt8) : u8cmp .eql a b = ieq (a.toNat : Int) b.toNat := by rw [u8cmp_d, ieq_d]; rfl
theorem u8cmp_neq (a b : UInt8) : u8cmp .neq a b = ine (a.toNat : Int) b.toNat := by rw [u8cmp_d, ine_d]; rfl
theorem u8cmp_lss (a b : UInt8) : u8cmp .lss a b = ilt (a.toNat : Int) b.toNat := by rw [u8cmp_d, ilt_d]; rfl
theorem u8cmp_leq (a b : UInt8) : u8cmp .leq a b = ile (a.toNat : Int) b.toNat := by rw [u8cmp_d, ile_d]; rfl
theorem u8cmp_gtr (a b : UInt8) : u8cmp .gtr a b = ilt (b.toNat : Int) a.toNat := by rw [u8cmp_d, ilt_d]; rfl
theorem u8cmp_geq (a b : UInt8) : u8cmp .geq a b = ile (b.toNat : Int) a.toNat := by rw [u8cmp_d, ile_d]; rfl
theorem u64cmp_eql (a b : UInt64) : u64cmp .eql a b = ieq (a.toNat : Int) b.toNat := by rw [u64cmp_d, ieq_d]; rfl
theorem u64cmp_neq (a b : UInt64) : u64cmp .neq a b = ine (a.toNat : Int) b.toNat := by rw [u64cmp_d, ine_d]; rfl
theorem u64cmp_lss (a b : UInt64) : u64cmp .lss a b = ilt (a.toNat : Int) b.toNat := by rw [u64cmp_d, ilt_d]; rfl
theorem u64cmp_leq (a b : UInt64) : u64cmp .leq a b = ile (a.toNat : Int) b.toNat := by rw [u64cmp_d, ile_d]; rfl
theorem u64cmp_gtr (a b : UInt64) : u64cmp .gtr a b = ilt (b.toNat : Int) a.toNat := by rw [u64cmp_d, ilt_d]; rfl
theorem u64cmp_geq (a b : UInt64) : u64cmp .geq a b = ile (b.toNat : Int) a.toNat := by rw [u64cmp_d, ile_d]; rfl
theorem u8xor_eq (a b : UInt8) : u8op .xor a b = a ^^^ b := by rw [u8op_d]; rfl
theorem u8and_eq (a b : UInt8) : u8op .and a b = a &&& b := by rw [u8op_d]; rfl
theorem u8or_eq (a b : UInt8) : u8op .or a b = a ||| b := by rw [u8op_d]; rfl
theorem mul8_eq {c : Int} (h : 0 ≤ c ∧ c ≤ 8) : (u64op .mul (UInt64.ofNat 8) (iu64 c)).toNat = (8 * c).toNat := by
  rw [u64op_d, iu64_eq]
  show ((UInt64.ofNat 8) * (UInt64.ofInt c)).toNat = _
  rw [UInt64.toNat_mul, u64_ofInt (by omega)]
  have : (UInt64.ofNat 8).toNat = 8 := by decide
  rw [this]; omega
theorem and_mask (k : Nat) (hk : k ≤ 62) (n : Int) : bits .and .i64 n ((2 ^ k - 1 : Nat) : Int) = n % ((2 ^ k : Nat) : Int) := by
  have hp : 0 < 2 ^ k := Nat.pow_pos (by omega)
  have hlt : 2 ^ k ≤ 2 ^ 62 := Nat.pow_le_pow_right (by omega) hk
  have h1 : (BitVec.ofInt 64 ((2 ^ k - 1 : Nat) : Int)).toNat = 2 ^ k - 1 := by
    rw [BitVec.toNat_ofInt]
    have : (((2 ^ k - 1 : Nat) : Int) % ((2 ^ 64 : Nat) : Int)) = ((2 ^ k - 1 : Nat) : Int) := Int.emod_eq_of_lt (by omega) (by omega)
    rw [this, Int.toNat_natCast]
  have key : (BitVec.ofInt 64 n &&& BitVec.ofInt 64 ((2 ^ k - 1 : Nat) : Int)).toNat = (n % ((2 ^ 64 : Nat) : Int)).toNat % 2 ^ k := by
    rw [BitVec.toNat_and, BitVec.toNat_ofInt, h1, Nat.and_two_pow_sub_one_eq_mod]
  show IntKind.i64.wrap ((BitVec.ofInt 64 n &&& BitVec.ofInt 64 ((2 ^ k - 1 : Nat) : Int)).toNat : Nat) = n % _
  rw [key, IntKind.wrap_i64]
  have hd : ((2 ^ k : Nat) : Int) ∣ ((2 ^ 64 : Nat) : Int) := by
    refine ⟨((2 ^ (64 - k) : Nat) : Int), ?_⟩
    rw [← Int.natCast_mul, ← Nat.pow_add]; congr 2; omega
  have h2 : ((((n % ((2 ^ 64 : Nat) : Int)).toNat % 2 ^ k : Nat)) : Int) = n % ((2 ^ k : Nat) : Int) := by
    rw [Int.natCast_emod, Int.toNat_of_nonneg (Int.emod_nonneg _ (by decide)), Int.emod_emod_of_dvd _ hd]
  rw [h2]
  have h3 := Int.emod_nonneg n (show ((2 ^ k : Nat) : Int) ≠ 0 by omega)
  have h4 := Int.emod_lt_of_pos n (show (0 : Int) < ((2 ^ k : Nat) : Int) by omega)
  generalize n % ((2 ^ k : Nat) : Int) = z at *
  omega
theorem iand_mask (k : Nat) (hk : k ≤ 62) (n : Int) : ibit .and n ((2 ^ k - 1 : Nat) : Int) = n % ((2 ^ k : Nat) : Int) := by rw [ibit_d]; exact and_mask k hk n
theorem iand_1 (n : Int) : ibit .and n 1 = n % 2 := iand_mask 1 (by omega) n
theorem iand_3 (n : Int) : ibit .and n 3 = n % 4 := iand_mask 2 (by omega) n
theorem iand_7 (n : Int) : ibit .and n 7 = n % 8 := iand_mask 3 (by omega) n
theorem iand_255 (n : Int) : ibit .and n 255 = n % 256 := iand_mask 8 (by omega) n
theorem iand_65535 (n : Int) : ibit .and n 65535 = n % 65536 := iand_mask 16 (by omega) n
theorem iand_62 (n : Int) : ibit .and n 4611686018427387903 = n % 4611686018427387904 := iand_mask 62 (by omega) n
end Go.Ax
