/-
  Own text: frames as plain lists; two frames are equal only if tag and fields are. No program is named here.
-/
import Derived.Test.YtlaglaehkhmklaaOps2
namespace Go.Eng
open Go
set_option linter.unusedVariables false

def len4 (l : List UInt8) : List UInt8 := wb (UInt32.ofInt (l.length : Int))
def fieldsB (ls : List (List UInt8)) : List UInt8 := ls.flatMap fun l => len4 l ++ l
def frameB (tag : Int) (ls : List (List UInt8)) : List UInt8 := UInt8.ofInt tag :: fieldsB ls

theorem len4_len (l : List UInt8) : (len4 l).length = 4 := rfl
theorem fieldsB_snoc (ls : List (List UInt8)) (i : Nat) (l : List UInt8) (h : ls[i]? = some l) : fieldsB (ls.take (i + 1)) = fieldsB (ls.take i) ++ len4 l ++ l := by
  obtain ⟨hi, he⟩ := List.getElem?_eq_some_iff.1 h
  rw [List.take_succ_eq_append_getElem hi, he]
  simp [fieldsB]
theorem u32_of_len (n : Nat) (h : n < 4294967296) : (UInt32.ofInt (n : Int)).toNat = n := by
  simp [UInt32.ofInt]; omega
theorem wb_toNat (x : UInt32) : wb x = [UInt8.ofNat (x.toNat / 16777216), UInt8.ofNat (x.toNat / 65536), UInt8.ofNat (x.toNat / 256), UInt8.ofNat x.toNat] := by
  have h24 : ((24 : UInt32).toNat % 32) = 24 := rfl
  have h16 : ((16 : UInt32).toNat % 32) = 16 := rfl
  have h8 : ((8 : UInt32).toNat % 32) = 8 := rfl
  simp only [wb]
  congr 1
  · apply UInt8.toNat_inj.1
    rw [UInt32.toNat_toUInt8, UInt32.toNat_shiftRight, h24, Nat.shiftRight_eq_div_pow, UInt8.toNat_ofNat']
  congr 1
  · apply UInt8.toNat_inj.1
    rw [UInt32.toNat_toUInt8, UInt32.toNat_shiftRight, h16, Nat.shiftRight_eq_div_pow, UInt8.toNat_ofNat']
  congr 1
  · apply UInt8.toNat_inj.1
    rw [UInt32.toNat_toUInt8, UInt32.toNat_shiftRight, h8, Nat.shiftRight_eq_div_pow, UInt8.toNat_ofNat']
theorem wb_inj {x y : UInt32} (h : wb x = wb y) : x = y := by
  rw [wb_toNat, wb_toNat] at h
  simp only [List.cons.injEq, and_true] at h
  obtain ⟨h1, h2, h3, h4⟩ := h
  have e1 := congrArg UInt8.toNat h1
  have e2 := congrArg UInt8.toNat h2
  have e3 := congrArg UInt8.toNat h3
  have e4 := congrArg UInt8.toNat h4
  simp only [UInt8.toNat_ofNat'] at e1 e2 e3 e4
  have hx := x.toNat_lt
  have hy := y.toNat_lt
  apply UInt32.toNat_inj.1
  omega
theorem u8_ofInt_nat (n : Nat) : UInt8.ofInt (n : Int) = UInt8.ofNat n := by
  apply UInt8.toNat_inj.1
  simp [UInt8.ofInt]
  omega
theorem ref4 (n : Nat) (h : n < 4294967296) : [UInt8.ofInt ((n : Int) / 2 ^ 24), UInt8.ofInt ((n : Int) / 2 ^ 16), UInt8.ofInt ((n : Int) / 2 ^ 8), UInt8.ofInt (n : Int)] = wb (UInt32.ofInt (n : Int)) := by
  rw [wb_toNat, u32_of_len n h]
  have e (k : Nat) : (n : Int) / 2 ^ k = ((n / 2 ^ k : Nat) : Int) := by simp
  rw [e, e, e, u8_ofInt_nat, u8_ofInt_nat, u8_ofInt_nat, u8_ofInt_nat]
theorem len4_inj {a b : List UInt8} (ha : a.length < 4294967296) (hb : b.length < 4294967296) (h : len4 a = len4 b) : a.length = b.length := by
  have := wb_inj h
  have := congrArg UInt32.toNat this
  rw [u32_of_len _ ha, u32_of_len _ hb] at this
  exact this
theorem fieldsB_inj : ∀ {a b : List (List UInt8)}, (∀ l ∈ a, l.length < 4294967296) → (∀ l ∈ b, l.length < 4294967296) → fieldsB a = fieldsB b → a = b
  | [], [], _, _, _ => rfl
  | [], y :: b, _, _, h => by
    have := congrArg List.length h
    simp only [fieldsB, List.flatMap_nil, List.flatMap_cons, List.length_nil, List.length_append, len4_len] at this
    omega
  | x :: a, [], _, _, h => by
    have := congrArg List.length h
    simp only [fieldsB, List.flatMap_nil, List.flatMap_cons, List.length_nil, List.length_append, len4_len] at this
    omega
  | x :: a, y :: b, ha, hb, h => by
    have hx := ha x (by simp)
    have hy := hb y (by simp)
    simp only [fieldsB, List.flatMap_cons, List.append_assoc] at h
    obtain ⟨h1, h2⟩ := List.append_inj h rfl
    have hl := len4_inj hx hy h1
    obtain ⟨rfl, h4⟩ := List.append_inj h2 hl
    rw [fieldsB_inj (fun l hl => ha l (by simp [hl])) (fun l hl => hb l (by simp [hl])) h4]
theorem frameB_inj {s t : Int} {a b : List (List UInt8)} (ha : ∀ l ∈ a, l.length < 4294967296) (hb : ∀ l ∈ b, l.length < 4294967296) : frameB s a = frameB t b ↔ UInt8.ofInt s = UInt8.ofInt t ∧ a = b := by
  constructor
  · intro h
    simp only [frameB, List.cons.injEq] at h
    exact ⟨h.1, fieldsB_inj ha hb h.2⟩
  · rintro ⟨h1, rfl⟩
    simp only [frameB, h1]
theorem fieldsB_len_le {ls : List (List UInt8)} {m : Nat} (h : ∀ l ∈ ls, l.length ≤ m) : (fieldsB ls).length ≤ (m + 4) * ls.length := by
  induction ls with
  | nil => simp [fieldsB]
  | cons x r ih =>
    have := ih (fun l hl => h l (by simp [hl]))
    have hx := h x (by simp)
    simp only [fieldsB, List.flatMap_cons, List.length_append, len4_len, List.length_cons] at this ⊢
    rw [Nat.mul_add]
    omega

/-! ### Lists of byte strings in the memory -/
abbrev Vals (w : World) (v : Value) (vs : List Value) : Prop := Hold (fun x : Value => x) w v vs
structure Rw (w : World) (vs : List Value) (ls : List (List UInt8)) : Prop where
  len : vs.length = ls.length
  row : ∀ (i : Nat) (u : Value) (l : List UInt8), vs[i]? = some u → ls[i]? = some l → Bytes w u l
theorem Rw.ext {w w' : World} {vs : List Value} {ls : List (List UInt8)} (h : Rw w vs ls) (he : Ext w w') : Rw w' vs ls := ⟨h.len, fun i u l h1 h2 => (h.row i u l h1 h2).ext he⟩
theorem Rw.at {w : World} {vs : List Value} {ls : List (List UInt8)} (h : Rw w vs ls) (i : Nat) (hi : i < ls.length) : ∃ u, vs[i]? = some u ∧ Bytes w u (ls.getD i []) := by
  have hv : i < vs.length := by rw [h.len]; exact hi
  refine ⟨vs[i], List.getElem?_eq_getElem hv, h.row i _ _ (List.getElem?_eq_getElem hv) ?_⟩
  rw [List.getD, List.getElem?_eq_getElem hi]; rfl
def Mat (w : World) (v : Value) (ls : List (List UInt8)) : Prop := ∃ vs, Vals w v vs ∧ Rw w vs ls
theorem Mat.ext {w w' : World} {v : Value} {ls : List (List UInt8)} (h : Mat w v ls) (he : Ext w w') : Mat w' v ls := by
  obtain ⟨vs, h1, h2⟩ := h; exact ⟨vs, h1.ext he, h2.ext he⟩
theorem vals_open {w : World} {v : Value} {l : List Value} (h : Vals w v l) (hl : 0 < l.length) : ∃ p cap, v = .slice (some p) l.length cap ∧ Cs w p l := by
  obtain ⟨a, cap, rfl, _, _, _, h5, h6⟩ := h
  cases a with
  | none => have := (h5 rfl).1; omega
  | some p => exact ⟨p, cap, rfl, by have := h6 p rfl; simpa using this⟩
theorem OP_eqb {P : Program} {L : Lst} {w : World} {ty : TypeId} {K : SV → World → Prop} {t yt : TypeId} {x y : Operand} {a b : Bool} (ht : P.underlying t = some .bool) (hx : evo L x = some (.v (.bool a))) (hy : evo L y = some (.v (.bool b)))
    (hk : K (.v (.bool (a == b))) w) : OP P L (.binOp .eql t x y yt) ty w K := by
  refine OP_run (fun e he => ?_) hk
  have hg : (eqGuard .eql t x y (.bool a) (.bool b)).run P w = .ok () w := by unfold eqGuard; simp
  simp only [execOp, he x _ hx, he y _ hy, SV.den, Sem.run_bind, hg, Result.andThen_ok, run_eql_bool w t a b ht]
  rfl
theorem OP_eqs {P : Program} {L : Lst} {w : World} {ty : TypeId} {K : SV → World → Prop} {t yt : TypeId} {x y : Operand} {l m : List UInt8} (hx : evo L x = some (.v (.string ⟨l.toArray⟩))) (hy : evo L y = some (.v (.string ⟨m.toArray⟩)))
    (hk : K (.v (.bool (decide (l = m)))) w) : OP P L (.binOp .eql t x y yt) ty w K := by
  refine OP_run (fun e he => ?_) hk
  have hg : (eqGuard .eql t x y (.string ⟨l.toArray⟩) (.string ⟨m.toArray⟩)).run P w = .ok () w := by unfold eqGuard; simp
  have hb : (l == m) = decide (l = m) := by rw [Bool.eq_iff_iff, beq_iff_eq, decide_eq_true_eq]
  have hs : (binOp .eql t (.string ⟨l.toArray⟩) (.string ⟨m.toArray⟩)).run P w = .ok (.bool (decide (l = m))) w := by
    simp [binOp, Op.stringOp, hb]
  simp only [execOp, he x _ hx, he y _ hy, SV.den, Sem.run_bind, hg, Result.andThen_ok, hs]
  rfl
end Go.Eng
