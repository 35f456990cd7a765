/-
  Own text: the byte form of quotes in plain terms. No program is named here.
-/
import Derived.Test.YtlaglaehkhmklaaPlB
namespace Go.Ax
open Go Go.Eng Go.RowKit
set_option linter.unusedVariables false
set_option linter.unusedSimpArgs false
/-! ### Quotes -/
structure Att where
  key : List UInt8
  nonce : List UInt8
  resets : Int
  restarts : Int
  clock : Int
  safe : Bool
  updates : Int
  s0 : Int
  s1 : Int
  digest : List UInt8
def magicB : List UInt8 := [83, 87, 81, 49]
def encA (a : Att) : List UInt8 :=
  uintB (uintB (uintB (uintB (uintB (uintB (uintB (blobB (blobB magicB a.key) a.nonce) 8 a.resets) 8 a.restarts) 8 a.clock) 1 (bif a.safe then 1 else 0)) 8 a.updates) 2 a.s0) 2 a.s1 ++ a.digest
def att0 : Att := ⟨[], [], 0, 0, 0, false, 0, 0, 0, []⟩
def decA (b : List UInt8) : Att × Int :=
  let h := rdR b 0 0 4
  if h.2.2 ≠ 0 then (att0, h.2.2) else if h.1 ≠ magicB then (att0, 5) else
  let k := rdB b h.2.1 0 32
  let o := rdB b k.2.1 k.2.2 128
  let u := rdU b o.2.1 o.2.2 8
  let v := rdU b u.2.1 u.2.2 8
  let c := rdU b v.2.1 v.2.2 8
  let s := rdU b c.2.1 c.2.2 1
  let w := rdU b s.2.1 s.2.2 8
  let x := rdU b w.2.1 w.2.2 2
  let y := rdU b x.2.1 x.2.2 2
  let d := rdR b y.2.1 y.2.2 32
  let e := rdE b d.2.1 d.2.2
  if e ≠ 0 then (att0, e) else if k.1.length ≠ 32 ∨ 1 < s.1 then (att0, 1) else
  (⟨k.1, o.1, u.1, v.1, c.1, s.1 == 1, w.1, x.1, y.1, d.1⟩, 0)
def flatA (a : Att) (safe : Int) : List UInt8 :=
  magicB ++ (len2 a.key.length ++ a.key ++ (len2 a.nonce.length ++ a.nonce ++ (beB 8 (UInt64.ofInt a.resets) ++ (beB 8 (UInt64.ofInt a.restarts) ++ (beB 8 (UInt64.ofInt a.clock) ++ (beB 1 (UInt64.ofInt safe) ++
   (beB 8 (UInt64.ofInt a.updates) ++ (beB 2 (UInt64.ofInt a.s0) ++ (beB 2 (UInt64.ofInt a.s1) ++ (a.digest ++ []))))))))))
theorem encA_flat (a : Att) (hk : a.key.length ≤ 65535) (hn : a.nonce.length ≤ 65535) : encA a = flatA a (bif a.safe then 1 else 0) := by
  unfold encA flatA
  rw [show (8 : Int) = ((8 : Nat) : Int) from rfl, show (2 : Int) = ((2 : Nat) : Int) from rfl, show ∀ b x, uintB b 1 x = uintB b ((1 : Nat) : Int) x from fun _ _ => rfl]
  rw [blobB_eq hk, blobB_eq hn]
  simp only [uintB_eq (show 1 ≤ 8 ∧ 8 ≤ 8 by omega), uintB_eq (show 1 ≤ 2 ∧ 2 ≤ 8 by omega), uintB_eq (show 1 ≤ 1 ∧ 1 ≤ 8 by omega), List.append_assoc, List.append_nil]
theorem encA_le (a : Att) (hk : a.key.length ≤ 60) (hn : a.nonce.length ≤ 200) (hd : a.digest.length ≤ 60) : (encA a).length ≤ 1000 := by
  rw [encA_flat a (by omega) (by omega)]
  simp only [flatA, List.length_append, len2_len, beB_len, magicB, List.length_cons, List.length_nil]
  omega
structure OkA (a : Att) : Prop where
  key : a.key.length = 32
  nonce : a.nonce.length ≤ 128
  resets : 0 ≤ a.resets ∧ a.resets < 9223372036854775808
  restarts : 0 ≤ a.restarts ∧ a.restarts < 9223372036854775808
  clock : 0 ≤ a.clock ∧ a.clock < 9223372036854775808
  updates : 0 ≤ a.updates ∧ a.updates < 9223372036854775808
  s0 : 0 ≤ a.s0 ∧ a.s0 < 65536
  s1 : 0 ≤ a.s1 ∧ a.s1 < 65536
  digest : a.digest.length = 32
theorem dec_enc {a : Att} (h : OkA a) : decA (encA a) = (a, 0) := by
  obtain ⟨hk, hn, hr, hs, hc, hu, h0, h1, hd⟩ := h
  rw [encA_flat a (by omega) (by omega)]
  generalize hb : flatA a (bif a.safe then 1 else 0) = b
  have e8 : (256 : Nat) ^ 8 = 18446744073709551616 := by decide
  have e2 : (256 : Nat) ^ 2 = 65536 := by decide
  have e1 : (256 : Nat) ^ 1 = 256 := by decide
  obtain ⟨q0, l0, d0⟩ := rdR_app (b := b) (p := 0) (n := 4) (Nat.zero_le _) (by rw [← hb]; exact rfl) rfl
  obtain ⟨q1, l1, d1⟩ := rdB_app (most := 32) l0 d0 (by omega) (by omega)
  obtain ⟨q2, l2, d2⟩ := rdB_app (most := 128) l1 d1 (by omega) (by omega)
  obtain ⟨q3, l3, d3⟩ := rdU_app l2 (by omega) d2 hr.1 hr.2 (by omega)
  obtain ⟨q4, l4, d4⟩ := rdU_app l3 (by omega) d3 hs.1 hs.2 (by omega)
  obtain ⟨q5, l5, d5⟩ := rdU_app l4 (by omega) d4 hc.1 hc.2 (by omega)
  obtain ⟨q6, l6, d6⟩ := rdU_app l5 (by omega) d5 (by cases a.safe <;> decide) (by cases a.safe <;> decide) (by cases a.safe <;> decide)
  obtain ⟨q7, l7, d7⟩ := rdU_app l6 (by omega) d6 hu.1 hu.2 (by omega)
  obtain ⟨q8, l8, d8⟩ := rdU_app l7 (by omega) d7 h0.1 (by omega) (by omega)
  obtain ⟨q9, l9, d9⟩ := rdU_app l8 (by omega) d8 h1.1 (by omega) (by omega)
  obtain ⟨q10, l10, d10⟩ := rdR_app l9 d9 hd
  have qe := rdE_ok l10 d10
  replace q0 : rdR b 0 0 4 = _ := q0
  replace q3 : rdU b _ 0 8 = _ := q3
  replace q4 : rdU b _ 0 8 = _ := q4
  replace q5 : rdU b _ 0 8 = _ := q5
  replace q6 : rdU b _ 0 1 = _ := q6
  replace q7 : rdU b _ 0 8 = _ := q7
  replace q8 : rdU b _ 0 2 = _ := q8
  replace q9 : rdU b _ 0 2 = _ := q9
  replace q10 : rdR b _ 0 32 = _ := q10
  unfold decA
  simp only [q0, q1, q2, q3, q4, q5, q6, q7, q8, q9, q10, qe, ne_eq, not_true_eq_false, if_false]
  rw [if_neg (by rw [hk]; cases a.safe <;> decide)]
  cases a; rename_i key nonce resets restarts clock safe updates s0 s1 digest
  cases safe <;> rfl
theorem enc_dec {b : List UInt8} {a : Att} (h : decA b = (a, 0)) : encA a = b := by
  unfold decA at h
  dsimp only at h
  split at h
  · rename_i he; simp only [Prod.mk.injEq] at h; exact absurd h.2 he
  rename_i he0
  split at h
  · simp at h
  rename_i hm
  split at h
  · rename_i he; simp only [Prod.mk.injEq] at h; exact absurd h.2 he
  rename_i heE
  split at h
  · simp at h
  rename_i hks
  simp only [Prod.mk.injEq, and_true] at h
  have heE := Classical.not_not.1 heE
  have hm := Classical.not_not.1 hm
  have he0 := Classical.not_not.1 he0
  generalize g0 : rdR b 0 0 4 = x0 at *
  generalize g1 : rdB b x0.2.1 0 32 = x1 at *
  generalize g2 : rdB b x1.2.1 x1.2.2 128 = x2 at *
  generalize g3 : rdU b x2.2.1 x2.2.2 8 = x3 at *
  generalize g4 : rdU b x3.2.1 x3.2.2 8 = x4 at *
  generalize g5 : rdU b x4.2.1 x4.2.2 8 = x5 at *
  generalize g6 : rdU b x5.2.1 x5.2.2 1 = x6 at *
  generalize g7 : rdU b x6.2.1 x6.2.2 8 = x7 at *
  generalize g8 : rdU b x7.2.1 x7.2.2 2 = x8 at *
  generalize g9 : rdU b x8.2.1 x8.2.2 2 = x9 at *
  generalize g10 : rdR b x9.2.1 x9.2.2 32 = x10 at *
  obtain ⟨m, p0, e0⟩ := x0; obtain ⟨k, p1, e1⟩ := x1; obtain ⟨o, p2, e2⟩ := x2; obtain ⟨u, p3, e3⟩ := x3; obtain ⟨v, p4, e4⟩ := x4; obtain ⟨c, p5, e5⟩ := x5
  obtain ⟨s, p6, e6⟩ := x6; obtain ⟨w, p7, e7⟩ := x7; obtain ⟨x, p8, e8⟩ := x8; obtain ⟨y, p9, e9⟩ := x9; obtain ⟨d, p10, e10⟩ := x10
  simp only at *
  have k0 := (rdR_le (b := b) (at' := 0) (e := 0) (n := 4) (Nat.zero_le _)); rw [g0] at k0
  have k1 := (rdB_le (b := b) (at' := p0) (e := 0) (most := 32) k0); rw [g1] at k1
  have k2 := (rdB_le (b := b) (at' := p1) (e := e1) (most := 128) k1); rw [g2] at k2
  have k3 := (rdU_le (b := b) (at' := p2) (e := e2) (size := 8) k2); rw [g3] at k3
  have k4 := (rdU_le (b := b) (at' := p3) (e := e3) (size := 8) k3); rw [g4] at k4
  have k5 := (rdU_le (b := b) (at' := p4) (e := e4) (size := 8) k4); rw [g5] at k5
  have k6 := (rdU_le (b := b) (at' := p5) (e := e5) (size := 1) k5); rw [g6] at k6
  have k7 := (rdU_le (b := b) (at' := p6) (e := e6) (size := 8) k6); rw [g7] at k7
  have k8 := (rdU_le (b := b) (at' := p7) (e := e7) (size := 2) k7); rw [g8] at k8
  have k9 := (rdU_le (b := b) (at' := p8) (e := e8) (size := 2) k8); rw [g9] at k9
  have k10 := (rdR_le (b := b) (at' := p9) (e := e9) (n := 32) k9); rw [g10] at k10
  obtain ⟨rfl, z11⟩ := rdE_inv k10 heE
  obtain ⟨rfl, _, _, i10, j10⟩ := rdR_inv (n := 32) k9 g10
  obtain ⟨rfl, _, _, i9, _⟩ := rdU_inv (n := 2) k8 (by omega) g9
  obtain ⟨rfl, _, _, i8, _⟩ := rdU_inv (n := 2) k7 (by omega) g8
  obtain ⟨rfl, _, _, i7, _⟩ := rdU_inv (n := 8) k6 (by omega) g7
  obtain ⟨rfl, _, _, i6, j6, _⟩ := rdU_inv (n := 1) k5 (by omega) g6
  obtain ⟨rfl, _, _, i5, _⟩ := rdU_inv (n := 8) k4 (by omega) g5
  obtain ⟨rfl, _, _, i4, _⟩ := rdU_inv (n := 8) k3 (by omega) g4
  obtain ⟨rfl, _, _, i3, _⟩ := rdU_inv (n := 8) k2 (by omega) g3
  obtain ⟨rfl, _, _, i2, _, j2⟩ := rdB_inv k1 g2
  obtain ⟨_, _, _, i1, _, j1⟩ := rdB_inv k0 g1
  subst he0
  obtain ⟨_, _, _, i0, _⟩ := rdR_inv (n := 4) (Nat.zero_le _) g0
  have hs : s = (bif (s == 1) then (1 : Int) else 0) := by
    rcases (show s = 0 ∨ s = 1 by omega) with rfl | rfl <;> rfl
  rw [← h, encA_flat _ (by simpa using j1) (by simpa using j2)]
  simp only [flatA]
  rw [← hs, ← hm]
  rw [z11] at i10
  rw [← i10, ← i9, ← i8, ← i7, ← i6, ← i5, ← i4, ← i3, ← i2, ← i1, ← i0]
  rfl
theorem decA_of {b v0 v1 v2 v10 : List UInt8} {v3 v4 v5 v6 v7 v8 v9 er1 er2 er3 er4 er5 er6 er7 er8 er9 er10 : Int} {p0 p1 p2 p3 p4 p5 p6 p7 p8 p9 p10 : Nat}
    (g0 : rdR b 0 0 4 = (v0, p0, 0)) (hm : v0 = magicB) (g1 : rdB b p0 0 32 = (v1, p1, er1)) (g2 : rdB b p1 er1 128 = (v2, p2, er2)) (g3 : rdU b p2 er2 8 = (v3, p3, er3)) (g4 : rdU b p3 er3 8 = (v4, p4, er4)) (g5 : rdU b p4 er4 8 = (v5, p5, er5))
    (g6 : rdU b p5 er5 1 = (v6, p6, er6)) (g7 : rdU b p6 er6 8 = (v7, p7, er7)) (g8 : rdU b p7 er7 2 = (v8, p8, er8)) (g9 : rdU b p8 er8 2 = (v9, p9, er9)) (g10 : rdR b p9 er9 32 = (v10, p10, er10)) :
    decA b = if rdE b p10 er10 ≠ 0 then (att0, rdE b p10 er10) else if v1.length ≠ 32 ∨ 1 < v6 then (att0, 1) else (⟨v1, v2, v3, v4, v5, v6 == 1, v7, v8, v9, v10⟩, 0) := by
  subst hm
  simp only [decA, g0, g1, g2, g3, g4, g5, g6, g7, g8, g9, g10, ne_eq, not_true_eq_false, if_false]
theorem decA_e {b v0 : List UInt8} {p0 : Nat} {er0 : Int} (g0 : rdR b 0 0 4 = (v0, p0, er0)) (h : er0 ≠ 0) : decA b = (att0, er0) := by
  simp only [decA, g0]; rw [if_pos h]
theorem decA_m {b v0 : List UInt8} {p0 : Nat} (g0 : rdR b 0 0 4 = (v0, p0, 0)) (h : v0 ≠ magicB) : decA b = (att0, 5) := by
  simp only [decA, g0]; rw [if_neg (by simp), if_pos h]
end Go.Ax
