/-
  Own text: byte forms in plain terms. No program is named here.
-/
import Derived.Test.YtlaglaehkhmklaaAxP
namespace Go.Ax
open Go Go.Eng Go.RowKit
set_option linter.unusedVariables false
/-- the lowest bytes of x, the most significant one first -/
def beB : Nat → UInt64 → List UInt8
  | 0, _ => []
  | k + 1, x => (x >>> UInt64.ofNat (8 * k)).toUInt8 :: beB k x
theorem beB_len (k : Nat) (x : UInt64) : (beB k x).length = k := by induction k with | zero => rfl | succ k ih => simp [beB, ih]
def uintB (b : List UInt8) (size n : Int) : List UInt8 := if size < 1 ∨ 8 < size then b else b ++ beB size.toNat (UInt64.ofInt n)
theorem uintB_len (b : List UInt8) (size n : Int) : (uintB b size n).length ≤ b.length + 8 := by
  unfold uintB; split
  · omega
  · simp [beB_len]; omega
theorem beB_take {k j : Nat} (x : UInt64) (h : j < k) : (beB k x).take (j + 1) = (beB k x).take j ++ [(x >>> UInt64.ofNat (8 * (k - 1 - j))).toUInt8] := by
  induction k generalizing j with
  | zero => omega
  | succ k ih =>
    cases j with
    | zero => simp [beB]
    | succ j => simp only [beB, List.take_succ_cons, List.cons_append]; rw [ih (by omega)]; congr 3; congr 3; omega
def blobB (b x : List UInt8) : List UInt8 := uintB b 2 ((x.take 65535).length : Int) ++ x.take 65535
theorem blobB_len (b x : List UInt8) : (blobB b x).length ≤ b.length + 65543 := by
  have := uintB_len b 2 ((x.take 65535).length : Int)
  unfold blobB
  rw [List.length_append]
  have h : (x.take 65535).length ≤ 65535 := by rw [List.length_take]; omega
  omega
theorem or_bytes (x y : UInt8) : bits .or .i64 ((x.toNat : Int) * 2 ^ (8 : Int).toNat) (y.toNat : Int) = ((x.toNat * 256 + y.toNat : Nat) : Int) := by
  have hx := x.toNat_lt
  have hy := y.toNat_lt
  have h := bits_i64_or (x.toNat * 256) y.toNat (by omega) (by omega)
  rw [show ((x.toNat : Int) * 2 ^ (8 : Int).toNat) = ((x.toNat * 256 : Nat) : Int) from by simp, h]
  have := Nat.shiftLeft_add_eq_or_of_lt (i := 8) (show y.toNat < 2 ^ 8 by omega) x.toNat
  rw [Nat.shiftLeft_eq] at this
  rw [← this]
/-! ### Reading: the bytes, the place, the error -/
def beN (l : List UInt8) : UInt64 := l.foldl (fun n x => n <<< 8 ||| x.toUInt64) 0
theorem beN_succ (l : List UInt8) (j : Nat) (h : j < l.length) : beN (l.take (j + 1)) = beN (l.take j) <<< 8 ||| (l.getD j 0).toUInt64 := by
  have h2 : l.getD j 0 = l[j] := by simp [List.getD, h]
  rw [List.take_succ_eq_append_getElem h, h2, beN, List.foldl_append]
  rfl
def takeS (b : List UInt8) (at' : Nat) (n : Nat) : List UInt8 × Int := if b.length < at' + n then ([], 2) else ((b.drop at').take n, 0)
def rdU (b : List UInt8) (at' : Nat) (e size : Int) : Int × Nat × Int :=
  if e ≠ 0 then (0, at', e) else if size < 1 ∨ 8 < size then (0, at', 1) else if b.length < at' + size.toNat then (0, at', 2)
  else if 9223372036854775807 < (beN ((b.drop at').take size.toNat)).toNat then (0, at', 4) else ((beN ((b.drop at').take size.toNat)).toNat, at' + size.toNat, 0)
def rdR (b : List UInt8) (at' : Nat) (e n : Int) : List UInt8 × Nat × Int :=
  if e ≠ 0 then ([], at', e) else if n < 0 then ([], at', 1) else if b.length < at' + n.toNat then ([], at', 2) else ((b.drop at').take n.toNat, at' + n.toNat, 0)
def lenAt (b : List UInt8) (at' : Nat) : Nat := (b.getD at' 0).toNat * 256 + (b.getD (at' + 1) 0).toNat
def rdB (b : List UInt8) (at' : Nat) (e most : Int) : List UInt8 × Nat × Int :=
  if e ≠ 0 then ([], at', e) else if b.length < at' + 2 then ([], at', 2) else if most < lenAt b at' then ([], at', 4)
  else if b.length < at' + 2 + lenAt b at' then ([], at', 2) else ((b.drop (at' + 2)).take (lenAt b at'), at' + 2 + lenAt b at', 0)
def rdE (b : List UInt8) (at' : Nat) (e : Int) : Int := if e = 0 ∧ at' < b.length then 3 else e
theorem rdU_le {b : List UInt8} {at' : Nat} {e size : Int} (h : at' ≤ b.length) : (rdU b at' e size).2.1 ≤ b.length := by
  unfold rdU; repeat' split
  all_goals first | exact h | (simp only; omega)
theorem rdR_le {b : List UInt8} {at' : Nat} {e n : Int} (h : at' ≤ b.length) : (rdR b at' e n).2.1 ≤ b.length := by
  unfold rdR; repeat' split
  all_goals first | exact h | (simp only; omega)
theorem rdB_le {b : List UInt8} {at' : Nat} {e most : Int} (h : at' ≤ b.length) : (rdB b at' e most).2.1 ≤ b.length := by
  unfold rdB; repeat' split
  all_goals first | exact h | (simp only; omega)
end Go.Ax
