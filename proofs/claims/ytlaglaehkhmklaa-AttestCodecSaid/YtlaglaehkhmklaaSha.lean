/-
  Own text: the two hash functions and the frames as plain functions on lists. No program is named here.
-/
import Derived.Test.YtlaglaehkhmklaaTyp
namespace Go.Eng
set_option linter.unusedVariables false

def rol (x : UInt32) (s : Nat) : UInt32 := (x <<< UInt32.ofNat s) ||| (x >>> UInt32.ofNat (32 - s))
def ror (x : UInt32) (s : Nat) : UInt32 := (x >>> UInt32.ofNat s) ||| (x <<< UInt32.ofNat (32 - s))
theorem rol_ror (x : UInt32) (s t : Nat) (h : s + t = 32) : rol x s = ror x t := by
  have e1 : 32 - s = t := by omega
  have e2 : 32 - t = s := by omega
  simp only [rol, ror, e1, e2]
  exact UInt32.or_comm _ _
def be32 (l : List UInt8) (k : Nat) : UInt32 :=
  (l.getD k 0).toUInt32 <<< 24 ||| (l.getD (k + 1) 0).toUInt32 <<< 16 ||| (l.getD (k + 2) 0).toUInt32 <<< 8 ||| (l.getD (k + 3) 0).toUInt32

/-! ### Padding -/
def zerosN (n : Nat) : Nat := (119 - n % 64) % 64
def be64 (n : UInt64) : List UInt8 := (List.range 8).map fun m => (n >>> UInt64.ofNat (56 - 8 * m)).toUInt8
def padB (l : List UInt8) : List UInt8 := l ++ [128] ++ List.replicate (zerosN l.length) 0 ++ be64 (UInt64.ofInt (l.length : Int) * 8)
theorem padB_len (l : List UInt8) : (padB l).length = 64 * ((l.length + 72) / 64) := by
  simp [padB, be64, zerosN]; omega
theorem be64_take (n : UInt64) (m : Nat) (h : m < 8) : (be64 n).take (m + 1) = (be64 n).take m ++ [(n >>> UInt64.ofNat (56 - 8 * m)).toUInt8] := by
  rw [List.take_succ_eq_append_getElem (by simpa [be64] using h)]
  simp [be64]
theorem be64_take8 (n : UInt64) : (be64 n).take 8 = be64 n := List.take_of_length_le (by simp [be64])

/-! ### SHA-256 -/
def k256 : List UInt32 := [
    0x428a2f98, 0x71374491, 0xb5c0fbcf, 0xe9b5dba5, 0x3956c25b, 0x59f111f1, 0x923f82a4, 0xab1c5ed5,
    0xd807aa98, 0x12835b01, 0x243185be, 0x550c7dc3, 0x72be5d74, 0x80deb1fe, 0x9bdc06a7, 0xc19bf174,
    0xe49b69c1, 0xefbe4786, 0x0fc19dc6, 0x240ca1cc, 0x2de92c6f, 0x4a7484aa, 0x5cb0a9dc, 0x76f988da,
    0x983e5152, 0xa831c66d, 0xb00327c8, 0xbf597fc7, 0xc6e00bf3, 0xd5a79147, 0x06ca6351, 0x14292967,
    0x27b70a85, 0x2e1b2138, 0x4d2c6dfc, 0x53380d13, 0x650a7354, 0x766a0abb, 0x81c2c92e, 0x92722c85,
    0xa2bfe8a1, 0xa81a664b, 0xc24b8b70, 0xc76c51a3, 0xd192e819, 0xd6990624, 0xf40e3585, 0x106aa070,
    0x19a4c116, 0x1e376c08, 0x2748774c, 0x34b0bcb5, 0x391c0cb3, 0x4ed8aa4a, 0x5b9cca4f, 0x682e6ff3,
    0x748f82ee, 0x78a5636f, 0x84c87814, 0x8cc70208, 0x90befffa, 0xa4506ceb, 0xbef9a3f7, 0xc67178f2]
def h256 : List UInt32 := [0x6a09e667, 0xbb67ae85, 0x3c6ef372, 0xa54ff53a, 0x510e527f, 0x9b05688c, 0x1f83d9ab, 0x5be0cd19]
def h1 : List UInt32 := [0x67452301, 0xefcdab89, 0x98badcfe, 0x10325476, 0xc3d2e1f0]

def sg0 (x : UInt32) : UInt32 := ror x 7 ^^^ ror x 18 ^^^ x >>> 3
def sg1 (x : UInt32) : UInt32 := ror x 17 ^^^ ror x 19 ^^^ x >>> 10
def next256 (b : List UInt8) (ws : List UInt32) (t : Nat) : UInt32 :=
  if t < 16 then be32 b (4 * t) else sg1 (ws.getD (t - 2) 0) + ws.getD (t - 7) 0 + sg0 (ws.getD (t - 15) 0) + ws.getD (t - 16) 0
def sch256 (b : List UInt8) : Nat → List UInt32
  | 0 => []
  | t + 1 => sch256 b t ++ [next256 b (sch256 b t) t]
theorem sch256_len (b : List UInt8) (t : Nat) : (sch256 b t).length = t := by
  induction t with
  | zero => rfl
  | succ t ih => simp [sch256, ih]
/-- one round; the state: eight words -/
def rnd256 (k w : UInt32) (s : List UInt32) : List UInt32 :=
  let a := s.getD 0 0
  let e := s.getD 4 0
  let t1 := s.getD 7 0 + (ror e 6 ^^^ ror e 11 ^^^ ror e 25) + (e &&& s.getD 5 0 ^^^ ~~~e &&& s.getD 6 0) + k + w
  let t2 := (ror a 2 ^^^ ror a 13 ^^^ ror a 22) + (a &&& s.getD 1 0 ^^^ a &&& s.getD 2 0 ^^^ s.getD 1 0 &&& s.getD 2 0)
  [t1 + t2, s.getD 0 0, s.getD 1 0, s.getD 2 0, s.getD 3 0 + t1, s.getD 4 0, s.getD 5 0, s.getD 6 0]
def rnds256 (ws s : List UInt32) : Nat → List UInt32
  | 0 => s
  | t + 1 => rnd256 (k256.getD t 0) (ws.getD t 0) (rnds256 ws s t)
theorem rnds256_len (ws s : List UInt32) (hs : s.length = 8) (t : Nat) : (rnds256 ws s t).length = 8 := by
  cases t with
  | zero => exact hs
  | succ t => rfl
def addl (h s : List UInt32) (i : Nat) : List UInt32 := (List.zipWith (· + ·) (h.take i) (s.take i)) ++ h.drop i
theorem addl_len (h s : List UInt32) (i : Nat) (hl : h.length = s.length) (hi : i ≤ h.length) : (addl h s i).length = h.length := by
  simp [addl]; omega
theorem addl_get (h s : List UInt32) (i : Nat) (hl : h.length = s.length) (hi : i < h.length) : (addl h s i).getD i 0 = h.getD i 0 := by
  have h1 : (List.zipWith (· + ·) (h.take i) (s.take i)).length = i := by simp; omega
  simp only [List.getD, addl]
  rw [List.getElem?_append_right (by omega), h1, Nat.sub_self, List.getElem?_drop]
  simp
theorem addl_set (h s : List UInt32) (i : Nat) (hl : h.length = s.length) (hi : i < h.length) : (addl h s i).set i (h.getD i 0 + s.getD i 0) = addl h s (i + 1) := by
  have h1 : (List.zipWith (· + ·) (h.take i) (s.take i)).length = i := by simp; omega
  have hs : i < s.length := by omega
  unfold addl
  rw [List.set_append_right _ _ (by omega), h1, Nat.sub_self, List.drop_eq_getElem_cons hi, List.set_cons_zero, List.take_succ_eq_append_getElem hi, List.take_succ_eq_append_getElem hs,
    List.zipWith_append (by simp; omega)]
  simp [List.getD, hi, hs]
def comp256 (h : List UInt32) (b : List UInt8) : List UInt32 := addl h (rnds256 (sch256 b 64) h 64) 8

/-! ### SHA-1 -/
def next1 (b : List UInt8) (ws : List UInt32) (t : Nat) : UInt32 :=
  if t < 16 then be32 b (4 * t) else rol (ws.getD (t - 3) 0 ^^^ ws.getD (t - 8) 0 ^^^ ws.getD (t - 14) 0 ^^^ ws.getD (t - 16) 0) 1
def sch1 (b : List UInt8) : Nat → List UInt32
  | 0 => []
  | t + 1 => sch1 b t ++ [next1 b (sch1 b t) t]
theorem sch1_len (b : List UInt8) (t : Nat) : (sch1 b t).length = t := by
  induction t with
  | zero => rfl
  | succ t ih => simp [sch1, ih]
def f1 (t : Nat) (b c d : UInt32) : UInt32 :=
  if t < 20 then b &&& c ^^^ ~~~b &&& d else if t < 40 then b ^^^ c ^^^ d else if t < 60 then b &&& c ^^^ b &&& d ^^^ c &&& d else b ^^^ c ^^^ d
def k1 (t : Nat) : UInt32 := if t < 20 then 0x5a827999 else if t < 40 then 0x6ed9eba1 else if t < 60 then 0x8f1bbcdc else 0xca62c1d6
structure S5 where
  a : UInt32
  b : UInt32
  c : UInt32
  d : UInt32
  e : UInt32
def rnd1 (t : Nat) (w : UInt32) (s : S5) : S5 := ⟨rol s.a 5 + f1 t s.b s.c s.d + s.e + k1 t + w, s.a, rol s.b 30, s.c, s.d⟩
def rnds1 (ws : List UInt32) (s : S5) : Nat → S5
  | 0 => s
  | t + 1 => rnd1 t (ws.getD t 0) (rnds1 ws s t)
def comp1 (h : List UInt32) (b : List UInt8) : List UInt32 :=
  let s := rnds1 (sch1 b 80) ⟨h.getD 0 0, h.getD 1 0, h.getD 2 0, h.getD 3 0, h.getD 4 0⟩ 80
  [h.getD 0 0 + s.a, h.getD 1 0 + s.b, h.getD 2 0 + s.c, h.getD 3 0 + s.d, h.getD 4 0 + s.e]

/-! ### Blocks, digests -/
def fold64 (f : List UInt32 → List UInt8 → List UInt32) : Nat → List UInt32 → List UInt8 → List UInt32
  | 0, h, _ => h
  | n + 1, h, p => fold64 f n (f h (p.take 64)) (p.drop 64)
def wb (w : UInt32) : List UInt8 := [(w >>> 24).toUInt8, (w >>> 16).toUInt8, (w >>> 8).toUInt8, w.toUInt8]
def spreadB (ws : List UInt32) : List UInt8 := ws.flatMap wb
def sha256 (l : List UInt8) : List UInt8 := spreadB (fold64 comp256 ((padB l).length / 64) h256 (padB l))
def sha1 (l : List UInt8) : List UInt8 := spreadB (fold64 comp1 ((padB l).length / 64) h1 (padB l))
theorem comp256_len (h : List UInt32) (b : List UInt8) (hh : h.length = 8) : (comp256 h b).length = 8 := by
  have := rnds256_len (sch256 b 64) h hh 64
  simp [comp256, addl, hh, this]
theorem comp1_len (h : List UInt32) (b : List UInt8) : (comp1 h b).length = 5 := rfl
theorem fold64_len {f : List UInt32 → List UInt8 → List UInt32} {m : Nat} (hf : ∀ h b, h.length = m → (f h b).length = m) : ∀ (n : Nat) (h : List UInt32) (p : List UInt8), h.length = m → (fold64 f n h p).length = m := by
  intro n
  induction n with
  | zero => intro h p hh; exact hh
  | succ n ih => intro h p hh; exact ih _ _ (hf _ _ hh)
theorem spreadB_len (ws : List UInt32) : (spreadB ws).length = 4 * ws.length := by
  induction ws with
  | nil => rfl
  | cons w r ih => simp only [spreadB, List.flatMap_cons, List.length_append, List.length_cons] at *; rw [ih]; simp [wb]; omega
theorem sha256_len (l : List UInt8) : (sha256 l).length = 32 := by
  rw [sha256, spreadB_len, fold64_len (m := 8) comp256_len _ _ _ rfl]
theorem sha1_len (l : List UInt8) : (sha1 l).length = 20 := by
  rw [sha1, spreadB_len, fold64_len (m := 5) (fun h b _ => comp1_len h b) _ _ _ rfl]
def sumB (alg : Int) (l : List UInt8) : List UInt8 := if alg = 0 then sha1 l else if alg = 1 then sha256 l else []
end Go.Eng
