/-
  Own texts, laid together for this claim: contracts of functions of the program and its references, used by the statements of this seat.
-/
import Derived.Test.YtchdeeghccdphaaDoorMsa
/-
  Own text: collisions in plain terms. No program is named here.
-/
namespace Go.Ax
open Go.Eng
def collB (a b : List UInt8) (n : Int) : Bool := decide (0 ≤ n ∧ n ≤ 32 ∧ a ≠ b ∧ (sha256 a).take n.toNat = (sha256 b).take n.toNat)
end Go.Ax
/-
  Own text: when two byte strings collide.
-/
namespace Go.Proofs.YtchdeeghccdphaaDoor
open Go Go.Ax Go.Eng
set_option linter.unusedVariables false
set_option linter.unusedSimpArgs false
attribute [local irreducible] iadd isub imul iquo irem ibit ineg ieq ine ilt ile ishl ishr beq' bnot and' seq' u8op u8rem u32op u64op u8shr u8shl u64shr u64shl u32shr u32shl i64w u8i u64i iu8 iu32 iu64 u8u64 u64u8 u32u8 u64cmp u8cmp u32cmp llen lget linb lset lcut lrep lapp lcpy lemp fits fitn sealed drawChk fpSame
set_option maxHeartbeats 1000000
set_option maxRecDepth 100000
theorem ev_collide (a b : List UInt8) (n : Int) (ha : a.length ≤ 4294967296) (hb : b.length ≤ 4294967296) : Y E0 (.call 28 [.sl .u8 a, .sl .u8 b, .i n] []) = some (.ret (.b (collB a b n)) []) := by
  rw [Y_go]; conv => lhs; whnf
  rcases Bool.eq_false_or_eq_true (ile 0 n) with hc0 | hc0
  · rw [hc0]; replace hc0 := of_ile_t hc0; try simp only [llen_eq] at hc0
    conv => lhs; whnf
    rcases Bool.eq_false_or_eq_true (ile n 32) with hc1 | hc1
    · rw [hc1]; replace hc1 := of_ile_t hc1; try simp only [llen_eq] at hc1
      conv => lhs; whnf
      rw [toReq_call]
      rw [ev_same _ _ (by omega)]
      conv => lhs; whnf
      rw [bnot_eq]; conv => lhs; whnf
      rcases Bool.eq_false_or_eq_true (decide (a = b)) with hc2 | hc2
      · rw [hc2]; replace hc2 := of_decide_eq_true hc2; try simp only at hc2
        conv => lhs; whnf
        rw [drw (by kernel_rfl)]; conv => lhs; whnf
        (rw [show collB a b n = false from decide_eq_false (fun h => by first | omega | exact absurd hc2 h.2.2.1)])
      · rw [hc2]; replace hc2 := of_decide_eq_false hc2; try simp only at hc2
        conv => lhs; whnf
        rw [toReq_call]
        rw [ev_sum256 _ (by omega)]
        conv => lhs; whnf
        rw [lcut_0 (by (simp only [sha256_len, LL] at * <;> omega))]
        conv => lhs; whnf
        rw [toReq_call]
        rw [ev_sum256 _ (by omega)]
        conv => lhs; whnf
        rw [lcut_0 (by (simp only [sha256_len, LL] at * <;> omega))]
        conv => lhs; whnf
        rw [toReq_call]
        rw [ev_same _ _ (by (simp only [sha256_len, LL] at * <;> omega))]
        conv => lhs; whnf
        rw [drw (by kernel_rfl)]; conv => lhs; whnf
        (congr 3; unfold collB; rw [decide_eq_decide]; constructor; (intro h; exact ⟨hc0, hc1, hc2, h⟩); (intro h; exact h.2.2.2))
    · rw [hc1]; replace hc1 := of_ile_f hc1; try simp only [llen_eq] at hc1
      conv => lhs; whnf
      rw [drw (by kernel_rfl)]; conv => lhs; whnf
      (rw [show collB a b n = false from decide_eq_false (fun h => by first | omega | exact absurd hc2 h.2.2.1)])
  · rw [hc0]; replace hc0 := of_ile_f hc0; try simp only [llen_eq] at hc0
    conv => lhs; whnf
    rw [drw (by kernel_rfl)]; conv => lhs; whnf
    (rw [show collB a b n = false from decide_eq_false (fun h => by first | omega | exact absurd hc2 h.2.2.1)])
end Go.Proofs.YtchdeeghccdphaaDoor
/-
  Own text: public areas and evidence, their byte forms, in plain terms. No program is named here.
-/
namespace Go.Ax
open Go Go.Eng Go.RowKit
set_option linter.unusedVariables false
set_option linter.unusedSimpArgs false
theorem ibit_eq (op : BinOp) (a b : Int) : ibit op a b = bits op .i64 a b := by rw [ibit_d]; rfl
theorem fr1_len (tag : Int) (a : List UInt8) : (frameB tag [a]).length = 5 + a.length := by
  simp [frameB, fieldsB, len4_len]; omega
theorem fr2_len (tag : Int) (a b : List UInt8) : (frameB tag [a, b]).length = 9 + a.length + b.length := by
  simp [frameB, fieldsB, len4_len]; omega
theorem fr3_len (tag : Int) (a b c : List UInt8) : (frameB tag [a, b, c]).length = 13 + a.length + b.length + c.length := by
  simp [frameB, fieldsB, len4_len]; omega
theorem irem_bd (n : Int) {m : Int} (h : 1 ≤ m) : -m < irem n m ∧ irem n m < m := by
  rw [irem_d]
  exact ⟨Int.lt_tmod_of_pos n (by omega), Int.tmod_lt_of_pos n (by omega)⟩
theorem irem_mod (n : Int) {m : Int} (h : 1 ≤ m) : n % m = irem n m % m := by
  rw [irem_d]
  show n % m = n.tmod m % m
  rw [Int.tmod_def, Int.sub_mul_emod_self_left]
theorem irem_pos {n m : Int} (h : 1 ≤ m) (h0 : 0 ≤ irem n m) : irem n m = n % m := by
  rw [irem_mod n h, Int.emod_eq_of_lt h0 (irem_bd n h).2]
theorem irem_neg {n m : Int} (h : 1 ≤ m) (h0 : irem n m < 0) : irem n m + m = n % m := by
  have hb := irem_bd n h
  rw [irem_mod n h, ← Int.add_emod_right, Int.emod_eq_of_lt (by omega) (by omega)]
theorem beB_one (x : Int) : beB 1 (UInt64.ofInt x) = [UInt8.ofInt x] := by
  have h : (UInt64.ofInt x).toUInt8 = UInt8.ofInt x := by
    apply UInt8.toNat_inj.1
    rw [UInt64.toNat_toUInt8, UInt64.ofInt, UInt8.ofInt, UInt64.toNat_ofNat', UInt8.toNat_ofNat']
    omega
  have h2 : (UInt64.ofInt x) >>> UInt64.ofNat (8 * 0) = UInt64.ofInt x := by
    apply UInt64.toNat_inj.1
    rw [UInt64.toNat_shiftRight]; simp
  rw [beB, h2, h]; rfl
theorem uintB_one (b : List UInt8) (x : Int) : uintB b 1 x = b ++ [UInt8.ofInt x] := by
  rw [show (1 : Int) = ((1 : Nat) : Int) from rfl, uintB_eq (by omega), beB_one]
/-! ### Public areas -/
structure Pub where
  kind : Int
  attr : Int
  height : Int
  policy : List UInt8
  unique : List UInt8
deriving DecidableEq
def pub0 : Pub := ⟨0, 0, 0, [], []⟩
def uniq (k : Int) : Int := if k = 2 then 17 else 32
theorem uniq_bd (k : Int) : 17 ≤ uniq k ∧ uniq k ≤ 32 := by unfold uniq; split <;> omega
def chkP (p : Pub) : Int :=
  if p.kind < 1 ∨ 3 < p.kind then 19
  else if p.attr < 0 ∨ 7 < p.attr ∨ (bits .and .i64 p.attr 4 ≠ 0 ∧ p.kind ≠ 2) ∨ (bits .and .i64 p.attr 1 = 0 ∧ p.policy.length = 0) then 20
  else if p.height < 0 ∨ 3 < p.height ∨ (p.height ≠ 0 ∧ p.kind ≠ 2) ∨ (p.policy.length ≠ 0 ∧ p.policy.length ≠ 32) ∨ (p.unique.length : Int) ≠ uniq p.kind then 1 else 0
def encP (p : Pub) : List UInt8 := blobB (blobB [UInt8.ofInt p.kind, UInt8.ofInt p.attr, UInt8.ofInt p.height] p.policy) p.unique
def decP (b : List UInt8) : Pub × Int :=
  let k := rdU b 0 0 1
  let a := rdU b k.2.1 k.2.2 1
  let h := rdU b a.2.1 a.2.2 1
  let o := rdB b h.2.1 h.2.2 32
  let u := rdB b o.2.1 o.2.2 32
  let e := rdE b u.2.1 u.2.2
  if e ≠ 0 then (pub0, e) else if chkP ⟨k.1, a.1, h.1, o.1, u.1⟩ ≠ 0 then (pub0, chkP ⟨k.1, a.1, h.1, o.1, u.1⟩) else (⟨k.1, a.1, h.1, o.1, u.1⟩, 0)
structure OkP (p : Pub) : Prop where
  kind : 1 ≤ p.kind ∧ p.kind ≤ 3
  attr : 0 ≤ p.attr ∧ p.attr ≤ 7
  height : 0 ≤ p.height ∧ p.height ≤ 3
  policy : p.policy.length ≤ 32
  unique : p.unique.length ≤ 32
theorem okP_of {p : Pub} (h : chkP p = 0) : OkP p := by
  unfold chkP at h
  split at h
  · simp at h
  rename_i h1
  split at h
  · simp at h
  rename_i h2
  split at h
  · simp at h
  rename_i h3
  have hu : uniq p.kind = 17 ∨ uniq p.kind = 32 := by unfold uniq; split; exact .inl rfl; exact .inr rfl
  refine ⟨by omega, by omega, by omega, by omega, by omega⟩
def flatP (p : Pub) : List UInt8 :=
  beB 1 (UInt64.ofInt p.kind) ++ (beB 1 (UInt64.ofInt p.attr) ++ (beB 1 (UInt64.ofInt p.height) ++ (len2 p.policy.length ++ p.policy ++ (len2 p.unique.length ++ p.unique ++ []))))
theorem encP_flat {p : Pub} (hp : p.policy.length ≤ 65535) (hu : p.unique.length ≤ 65535) : encP p = flatP p := by
  unfold encP flatP
  rw [blobB_eq hp, blobB_eq hu, beB_one, beB_one, beB_one]
  simp only [List.append_assoc, List.append_nil, List.cons_append, List.nil_append]
theorem encP_len {p : Pub} (hp : p.policy.length ≤ 65535) (hu : p.unique.length ≤ 65535) : (encP p).length = 7 + p.policy.length + p.unique.length := by
  rw [encP_flat hp hu]
  simp only [flatP, List.length_append, beB_len, len2_len, List.length_nil]; omega
theorem dec_encP {p : Pub} (h : chkP p = 0) : decP (encP p) = (p, 0) := by
  have hok := okP_of h
  obtain ⟨hk, ha, hh, hp, hu⟩ := hok
  rw [encP_flat (by omega) (by omega)]
  generalize hb : flatP p = b
  have e1 : (256 : Nat) ^ 1 = 256 := by decide
  obtain ⟨q0, l0, d0⟩ := rdU_app (b := b) (p := 0) (n := 1) (x := p.kind) (Nat.zero_le _) (by omega) (by rw [← hb]; exact rfl) (by omega) (by omega) (by omega)
  obtain ⟨q1, l1, d1⟩ := rdU_app l0 (by omega) d0 ha.1 (by omega) (by omega)
  obtain ⟨q2, l2, d2⟩ := rdU_app l1 (by omega) d1 hh.1 (by omega) (by omega)
  obtain ⟨q3, l3, d3⟩ := rdB_app (most := 32) l2 d2 (by omega) (by omega)
  obtain ⟨q4, l4, d4⟩ := rdB_app (most := 32) l3 d3 (by omega) (by omega)
  have qe := rdE_ok l4 d4
  replace q0 : rdU b 0 0 1 = _ := q0
  replace q1 : rdU b _ 0 1 = _ := q1
  replace q2 : rdU b _ 0 1 = _ := q2
  unfold decP
  simp only [q0, q1, q2, q3, q4, qe, ne_eq, not_true_eq_false, if_false]
  cases p
  rw [if_neg (by simpa using h)]
theorem enc_decP {b : List UInt8} {p : Pub} (h : decP b = (p, 0)) : encP p = b ∧ chkP p = 0 := by
  unfold decP at h
  dsimp only at h
  split at h
  · rename_i he; simp only [Prod.mk.injEq] at h; exact absurd h.2 he
  rename_i heE
  split at h
  · rename_i he; simp only [Prod.mk.injEq] at h; exact absurd h.2 he
  rename_i hc
  simp only [Prod.mk.injEq, and_true] at h
  have heE := Classical.not_not.1 heE
  have hc := Classical.not_not.1 hc
  generalize g0 : rdU b 0 0 1 = x0 at *
  generalize g1 : rdU b x0.2.1 x0.2.2 1 = x1 at *
  generalize g2 : rdU b x1.2.1 x1.2.2 1 = x2 at *
  generalize g3 : rdB b x2.2.1 x2.2.2 32 = x3 at *
  generalize g4 : rdB b x3.2.1 x3.2.2 32 = x4 at *
  obtain ⟨k, p0, e0⟩ := x0; obtain ⟨a, p1, e1⟩ := x1; obtain ⟨t, p2, e2⟩ := x2; obtain ⟨o, p3, e3⟩ := x3; obtain ⟨u, p4, e4⟩ := x4
  simp only at *
  have k0 := (rdU_le (b := b) (at' := 0) (e := 0) (size := 1) (Nat.zero_le _)); rw [g0] at k0
  have k1 := (rdU_le (b := b) (at' := p0) (e := e0) (size := 1) k0); rw [g1] at k1
  have k2 := (rdU_le (b := b) (at' := p1) (e := e1) (size := 1) k1); rw [g2] at k2
  have k3 := (rdB_le (b := b) (at' := p2) (e := e2) (most := 32) k2); rw [g3] at k3
  have k4 := (rdB_le (b := b) (at' := p3) (e := e3) (most := 32) k3); rw [g4] at k4
  obtain ⟨rfl, z5⟩ := rdE_inv k4 heE
  obtain ⟨rfl, _, _, i4, _, j4⟩ := rdB_inv k3 g4
  obtain ⟨rfl, _, _, i3, _, j3⟩ := rdB_inv k2 g3
  obtain ⟨rfl, _, _, i2, _⟩ := rdU_inv (n := 1) k1 (by omega) g2
  obtain ⟨rfl, _, _, i1, _⟩ := rdU_inv (n := 1) k0 (by omega) g1
  obtain ⟨_, _, _, i0, _⟩ := rdU_inv (n := 1) (Nat.zero_le _) (by omega) g0
  subst h
  refine ⟨?_, hc⟩
  rw [encP_flat (by simpa using j3) (by simpa using j4)]
  simp only [flatP]
  rw [z5] at i4
  rw [← i4, ← i3, ← i2, ← i1, ← i0]
  rfl
theorem encP_inj {p q : Pub} (hp : chkP p = 0) (hq : chkP q = 0) (h : encP p = encP q) : p = q := by
  have := dec_encP hp
  rw [h, dec_encP hq] at this
  simpa using this.symm
theorem decP_of {b v3 v4 : List UInt8} {v0 v1 v2 er0 er1 er2 er3 er4 : Int} {p0 p1 p2 p3 p4 : Nat}
    (g0 : rdU b 0 0 1 = (v0, p0, er0)) (g1 : rdU b p0 er0 1 = (v1, p1, er1)) (g2 : rdU b p1 er1 1 = (v2, p2, er2)) (g3 : rdB b p2 er2 32 = (v3, p3, er3)) (g4 : rdB b p3 er3 32 = (v4, p4, er4)) :
    decP b = if rdE b p4 er4 ≠ 0 then (pub0, rdE b p4 er4) else if chkP ⟨v0, v1, v2, v3, v4⟩ ≠ 0 then (pub0, chkP ⟨v0, v1, v2, v3, v4⟩) else (⟨v0, v1, v2, v3, v4⟩, 0) := by
  simp only [decP, g0, g1, g2, g3, g4]
theorem decP_err (b : List UInt8) : (decP b).2 ≠ 0 → (decP b).1 = pub0 := by
  unfold decP; dsimp only
  split
  · intro _; rfl
  · split
    · intro _; rfl
    · intro h; exact absurd rfl h
/-! ### Evidence -/
structure Evi where
  machine : Int
  attest : List UInt8
  sig : List UInt8
  log : List UInt8
deriving DecidableEq
def evi0 : Evi := ⟨0, [], [], []⟩
def CanE (x : Evi) : Prop := 1 ≤ x.machine ∧ x.machine ≤ 4 ∧ x.attest.length ≤ 1024 ∧ x.sig.length ≤ 1024 ∧ x.log.length ≤ 8192
instance (x : Evi) : Decidable (CanE x) := by unfold CanE; infer_instance
def formE (x : Evi) : List UInt8 := blobB (blobB (blobB [UInt8.ofInt x.machine] x.attest) x.sig) x.log
def encE (x : Evi) : List UInt8 := if CanE x then formE x else []
def decE (b : List UInt8) : Evi × Int :=
  let m := rdU b 0 0 1
  let a := rdB b m.2.1 m.2.2 1024
  let s := rdB b a.2.1 a.2.2 1024
  let l := rdB b s.2.1 s.2.2 8192
  if rdE b l.2.1 l.2.2 ≠ 0 ∨ m.1 < 1 ∨ 4 < m.1 then (evi0, 30) else (⟨m.1, a.1, s.1, l.1⟩, 0)
def flatE (x : Evi) : List UInt8 := beB 1 (UInt64.ofInt x.machine) ++ (len2 x.attest.length ++ x.attest ++ (len2 x.sig.length ++ x.sig ++ (len2 x.log.length ++ x.log ++ [])))
theorem formE_flat {x : Evi} (ha : x.attest.length ≤ 65535) (hs : x.sig.length ≤ 65535) (hl : x.log.length ≤ 65535) : formE x = flatE x := by
  unfold formE flatE
  rw [blobB_eq ha, blobB_eq hs, blobB_eq hl, beB_one]
  simp only [List.append_assoc, List.append_nil, List.cons_append, List.nil_append]
theorem formE_len {x : Evi} (ha : x.attest.length ≤ 65535) (hs : x.sig.length ≤ 65535) (hl : x.log.length ≤ 65535) : (formE x).length = 7 + x.attest.length + x.sig.length + x.log.length := by
  rw [formE_flat ha hs hl]
  simp only [flatE, List.length_append, beB_len, len2_len, List.length_nil]; omega
theorem encE_len {x : Evi} (h : CanE x) : (encE x).length = 7 + x.attest.length + x.sig.length + x.log.length := by
  rw [encE, if_pos h]
  obtain ⟨_, _, ha, hs, hl⟩ := h
  exact formE_len (by omega) (by omega) (by omega)
theorem dec_encE {x : Evi} (h : CanE x) : decE (encE x) = (x, 0) := by
  have hc := h
  obtain ⟨h1, h2, ha, hs, hl⟩ := h
  rw [encE, if_pos hc, formE_flat (by omega) (by omega) (by omega)]
  generalize hb : flatE x = b
  have e1 : (256 : Nat) ^ 1 = 256 := by decide
  obtain ⟨q0, l0, d0⟩ := rdU_app (b := b) (p := 0) (n := 1) (x := x.machine) (Nat.zero_le _) (by omega) (by rw [← hb]; exact rfl) (by omega) (by omega) (by omega)
  obtain ⟨q1, l1, d1⟩ := rdB_app (most := 1024) l0 d0 (by omega) (by omega)
  obtain ⟨q2, l2, d2⟩ := rdB_app (most := 1024) l1 d1 (by omega) (by omega)
  obtain ⟨q3, l3, d3⟩ := rdB_app (most := 8192) l2 d2 (by omega) (by omega)
  have qe := rdE_ok l3 d3
  replace q0 : rdU b 0 0 1 = _ := q0
  unfold decE
  simp only [q0, q1, q2, q3, qe, ne_eq, not_true_eq_false, false_or]
  rw [if_neg (by omega)]
theorem decE_nil : decE [] = (evi0, 30) := by
  have : rdE [] (rdB [] (rdB [] (rdB [] (rdU [] 0 0 1).2.1 (rdU [] 0 0 1).2.2 1024).2.1 (rdB [] (rdU [] 0 0 1).2.1 (rdU [] 0 0 1).2.2 1024).2.2 1024).2.1 (rdB [] (rdB [] (rdU [] 0 0 1).2.1 (rdU [] 0 0 1).2.2 1024).2.1 (rdB [] (rdU [] 0 0 1).2.1 (rdU [] 0 0 1).2.2 1024).2.2 1024).2.2 8192).2.1 2 = 2 := by
    unfold rdE; simp
  have h0 : rdU [] 0 0 1 = (0, 0, 2) := by unfold rdU; simp
  have h1 : ∀ m, rdB [] 0 2 m = ([], 0, 2) := by intro m; unfold rdB; simp
  unfold decE
  simp only [h0, h1]
  rw [if_pos (.inr (.inl (by omega)))]
theorem enc_decE {b : List UInt8} {x : Evi} (h : decE b = (x, 0)) : encE x = b ∧ CanE x := by
  unfold decE at h
  dsimp only at h
  split at h
  · simp at h
  rename_i heE
  simp only [Prod.mk.injEq, and_true] at h
  rw [not_or, not_or] at heE
  obtain ⟨heE, hm1, hm2⟩ := heE
  have heE := Classical.not_not.1 heE
  generalize g0 : rdU b 0 0 1 = x0 at *
  generalize g1 : rdB b x0.2.1 x0.2.2 1024 = x1 at *
  generalize g2 : rdB b x1.2.1 x1.2.2 1024 = x2 at *
  generalize g3 : rdB b x2.2.1 x2.2.2 8192 = x3 at *
  obtain ⟨m, p0, e0⟩ := x0; obtain ⟨a, p1, e1⟩ := x1; obtain ⟨s, p2, e2⟩ := x2; obtain ⟨l, p3, e3⟩ := x3
  simp only at *
  have k0 := (rdU_le (b := b) (at' := 0) (e := 0) (size := 1) (Nat.zero_le _)); rw [g0] at k0
  have k1 := (rdB_le (b := b) (at' := p0) (e := e0) (most := 1024) k0); rw [g1] at k1
  have k2 := (rdB_le (b := b) (at' := p1) (e := e1) (most := 1024) k1); rw [g2] at k2
  have k3 := (rdB_le (b := b) (at' := p2) (e := e2) (most := 8192) k2); rw [g3] at k3
  obtain ⟨rfl, z4⟩ := rdE_inv k3 heE
  obtain ⟨rfl, _, _, i3, w3, j3⟩ := rdB_inv k2 g3
  obtain ⟨rfl, _, _, i2, w2, j2⟩ := rdB_inv k1 g2
  obtain ⟨rfl, _, _, i1, w1, j1⟩ := rdB_inv k0 g1
  obtain ⟨_, _, _, i0, _⟩ := rdU_inv (n := 1) (Nat.zero_le _) (by omega) g0
  subst h
  have hc : CanE ⟨m, a, s, l⟩ := ⟨by simp only; omega, by simp only; omega, by simp only; omega, by simp only; omega, by simp only; omega⟩
  refine ⟨?_, hc⟩
  rw [encE, if_pos hc, formE_flat j1 j2 j3]
  simp only [flatE]
  rw [z4] at i3
  rw [← i3, ← i2, ← i1, ← i0]
  rfl
theorem decE_of {b v1 v2 v3 : List UInt8} {v0 er0 er1 er2 er3 : Int} {p0 p1 p2 p3 : Nat}
    (g0 : rdU b 0 0 1 = (v0, p0, er0)) (g1 : rdB b p0 er0 1024 = (v1, p1, er1)) (g2 : rdB b p1 er1 1024 = (v2, p2, er2)) (g3 : rdB b p2 er2 8192 = (v3, p3, er3)) :
    decE b = if rdE b p3 er3 ≠ 0 ∨ v0 < 1 ∨ 4 < v0 then (evi0, 30) else (⟨v0, v1, v2, v3⟩, 0) := by
  simp only [decE, g0, g1, g2, g3]
end Go.Ax
/-
  Own text: evidence.
-/
namespace Go.Ax
abbrev eviX (x : Evi) : List AV := [.i x.machine, .sl .u8 x.attest, .sl .u8 x.sig, .sl .u8 x.log]
end Go.Ax
namespace Go.Proofs.YtchdeeghccdphaaDoor
open Go Go.Ax Go.Eng
set_option linter.unusedVariables false
set_option linter.unusedSimpArgs false
attribute [local irreducible] iadd isub imul iquo irem ibit ineg ieq ine ilt ile ishl ishr beq' bnot and' seq' u8op u8rem u32op u64op u8shr u8shl u64shr u64shl u32shr u32shl i64w u8i u64i iu8 iu32 iu64 u8u64 u64u8 u32u8 u64cmp u8cmp u32cmp llen lget linb lset lcut lrep lapp lcpy lemp fits fitn sealed drawChk fpSame
set_option maxHeartbeats 4000000
set_option maxRecDepth 100000
theorem ev_canE (machine : Int) (attest sig log : List UInt8) : Y E0 (.call 67 [.agg [.i machine, .sl .u8 attest, .sl .u8 sig, .sl .u8 log]] []) = some (.ret (.b (decide (CanE ⟨machine, attest, sig, log⟩))) []) := by
  rw [Y_go]; conv => lhs; whnf
  rcases Bool.eq_false_or_eq_true (ile 1 machine) with hc0 | hc0
  · rw [hc0]; replace hc0 := of_ile_t hc0; try simp only [llen_eq] at hc0
    conv => lhs; whnf
    rcases Bool.eq_false_or_eq_true (ile machine 4) with hc1 | hc1
    · rw [hc1]; replace hc1 := of_ile_t hc1; try simp only [llen_eq] at hc1
      conv => lhs; whnf
      rcases Bool.eq_false_or_eq_true (ile (llen attest) 1024) with hc2 | hc2
      · rw [hc2]; replace hc2 := of_ile_t hc2; try simp only [llen_eq] at hc2
        conv => lhs; whnf
        rcases Bool.eq_false_or_eq_true (ile (llen sig) 1024) with hc3 | hc3
        · rw [hc3]; replace hc3 := of_ile_t hc3; try simp only [llen_eq] at hc3
          conv => lhs; whnf
          exact congrArg (fun b => some (Rsp.ret (AV.b b) [])) (by rw [ile_eq, llen_eq]; apply decide_eq_decide.2; unfold CanE; simp only; omega)
        · rw [hc3]; replace hc3 := of_ile_f hc3; try simp only [llen_eq] at hc3
          conv => lhs; whnf
          (rw [decide_eq_false (show ¬ CanE _ from fun h => (by obtain ⟨q1, q2, q3, q4, q5⟩ := h; simp only at *; omega))])
      · rw [hc2]; replace hc2 := of_ile_f hc2; try simp only [llen_eq] at hc2
        conv => lhs; whnf
        (rw [decide_eq_false (show ¬ CanE _ from fun h => (by obtain ⟨q1, q2, q3, q4, q5⟩ := h; simp only at *; omega))])
    · rw [hc1]; replace hc1 := of_ile_f hc1; try simp only [llen_eq] at hc1
      conv => lhs; whnf
      (rw [decide_eq_false (show ¬ CanE _ from fun h => (by obtain ⟨q1, q2, q3, q4, q5⟩ := h; simp only at *; omega))])
  · rw [hc0]; replace hc0 := of_ile_f hc0; try simp only [llen_eq] at hc0
    conv => lhs; whnf
    (rw [decide_eq_false (show ¬ CanE _ from fun h => (by obtain ⟨q1, q2, q3, q4, q5⟩ := h; simp only at *; omega))])
theorem ev_eenc (machine : Int) (attest sig log : List UInt8) : Y E0 (.call 31 [.agg [.i machine, .sl .u8 attest, .sl .u8 sig, .sl .u8 log]] []) = some (.ret (.sl .u8 (encE ⟨machine, attest, sig, log⟩)) []) := by
  by_cases hcan : CanE ⟨machine, attest, sig, log⟩
  · have h' := hcan
    obtain ⟨q1, q2, q3, q4, q5⟩ := h'
    simp only at q1 q2 q3 q4 q5
    rw [Y_go]; conv => lhs; whnf
    rw [toReq_call]
    rw [ev_canE, decide_eq_true hcan]
    conv => lhs; whnf
    rw [bnot_eq]; conv => lhs; whnf
    rw [toReq_call]
    rw [ev_uint _ _ _ (by (simp only [uintB_l2, uintB_l1, blobB_l, seedB_len, sha256_len, fr1_len, fr2_len, fr3_len, LL] at * <;> omega))]
    conv => lhs; whnf
    rw [toReq_call]
    rw [ev_blob _ _ (by (simp only [uintB_l2, uintB_l1, blobB_l, seedB_len, sha256_len, fr1_len, fr2_len, fr3_len, LL] at * <;> omega))]
    conv => lhs; whnf
    rw [toReq_call]
    rw [ev_blob _ _ (by (simp only [uintB_l2, uintB_l1, blobB_l, seedB_len, sha256_len, fr1_len, fr2_len, fr3_len, LL] at * <;> omega))]
    conv => lhs; whnf
    rw [toReq_call]
    rw [ev_blob _ _ (by (simp only [uintB_l2, uintB_l1, blobB_l, seedB_len, sha256_len, fr1_len, fr2_len, fr3_len, LL] at * <;> omega))]
    conv => lhs; whnf
    (rw [encE, if_pos hcan, formE, uintB_one]; rfl)
  · rw [Y_go]; conv => lhs; whnf
    rw [toReq_call]
    rw [ev_canE, decide_eq_false hcan]
    conv => lhs; whnf
    rw [bnot_eq]; conv => lhs; whnf
    (rw [encE, if_neg hcan])
theorem ev_r36enc (machine : Int) (attest sig log : List UInt8) : Y E0 (.call 32 [.agg [.i machine, .sl .u8 attest, .sl .u8 sig, .sl .u8 log]] []) = some (.ret (.nm 0) [some (.row 5 .u8 (encE ⟨machine, attest, sig, log⟩))]) := by
  by_cases hcan : CanE ⟨machine, attest, sig, log⟩
  · have h' := hcan
    obtain ⟨q1, q2, q3, q4, q5⟩ := h'
    simp only at q1 q2 q3 q4 q5
    rw [Y_go]; conv => lhs; whnf
    rw [ilt_f (by omega)]
    conv => lhs; whnf
    rw [ilt_f (by omega)]
    conv => lhs; whnf
    rw [ilt_f (by (simp only [uintB_l2, uintB_l1, blobB_l, seedB_len, sha256_len, fr1_len, fr2_len, fr3_len, LL] at * <;> omega))]
    conv => lhs; whnf
    rw [ilt_f (by (simp only [uintB_l2, uintB_l1, blobB_l, seedB_len, sha256_len, fr1_len, fr2_len, fr3_len, LL] at * <;> omega))]
    conv => lhs; whnf
    rw [ilt_f (by (simp only [uintB_l2, uintB_l1, blobB_l, seedB_len, sha256_len, fr1_len, fr2_len, fr3_len, LL] at * <;> omega))]
    conv => lhs; whnf
    rw [Y_go]; conv => lhs; whnf
    rw [toReq_call]
    rw [ev_r3blob _ _ (by (simp only [uintB_l2, uintB_l1, blobB_l, seedB_len, sha256_len, fr1_len, fr2_len, fr3_len, LL] at * <;> omega))]
    conv => lhs; whnf
    rw [toReq_call]
    rw [ev_r3blob _ _ (by (simp only [uintB_l2, uintB_l1, blobB_l, seedB_len, sha256_len, fr1_len, fr2_len, fr3_len, LL] at * <;> omega))]
    conv => lhs; whnf
    rw [toReq_call]
    rw [ev_r3blob _ _ (by (simp only [uintB_l2, uintB_l1, blobB_l, seedB_len, sha256_len, fr1_len, fr2_len, fr3_len, LL] at * <;> omega))]
    conv => lhs; whnf
    rw [drw (by kernel_rfl)]; conv => lhs; whnf
    (rw [encE, if_pos hcan, formE, ← iu8_eq])
  · have h' : ¬ (1 ≤ machine ∧ machine ≤ 4 ∧ attest.length ≤ 1024 ∧ sig.length ≤ 1024 ∧ log.length ≤ 8192) := hcan
    rw [Y_go]; conv => lhs; whnf
    rcases Bool.eq_false_or_eq_true (ilt machine 1) with hc0 | hc0
    · rw [hc0]; replace hc0 := of_ilt_t hc0; try simp only [llen_eq] at hc0
      conv => lhs; whnf
      (rw [encE, if_neg hcan])
    · rw [hc0]; replace hc0 := of_ilt_f hc0; try simp only [llen_eq] at hc0
      conv => lhs; whnf
      rcases Bool.eq_false_or_eq_true (ilt 4 machine) with hc1 | hc1
      · rw [hc1]; replace hc1 := of_ilt_t hc1; try simp only [llen_eq] at hc1
        conv => lhs; whnf
        (rw [encE, if_neg hcan])
      · rw [hc1]; replace hc1 := of_ilt_f hc1; try simp only [llen_eq] at hc1
        conv => lhs; whnf
        rcases Bool.eq_false_or_eq_true (ilt 1024 (llen attest)) with hc2 | hc2
        · rw [hc2]; replace hc2 := of_ilt_t hc2; try simp only [llen_eq] at hc2
          conv => lhs; whnf
          (rw [encE, if_neg hcan])
        · rw [hc2]; replace hc2 := of_ilt_f hc2; try simp only [llen_eq] at hc2
          conv => lhs; whnf
          rcases Bool.eq_false_or_eq_true (ilt 1024 (llen sig)) with hc3 | hc3
          · rw [hc3]; replace hc3 := of_ilt_t hc3; try simp only [llen_eq] at hc3
            conv => lhs; whnf
            (rw [encE, if_neg hcan])
          · rw [hc3]; replace hc3 := of_ilt_f hc3; try simp only [llen_eq] at hc3
            conv => lhs; whnf
            rw [ilt_t (by (simp only [uintB_l2, uintB_l1, blobB_l, seedB_len, sha256_len, fr1_len, fr2_len, fr3_len, LL] at * <;> omega))]
            conv => lhs; whnf
            (rw [encE, if_neg hcan])
theorem ev_edec (b : List UInt8) (hb : b.length ≤ 4294967296) : Y E0 (.call 33 [.sl .u8 b] []) = some (.ret (.tup [.agg (eviX (decE b).1), .i (decE b).2]) []) := by
  rw [Y_go]; conv => lhs; whnf
  rw [toReq_call]
  rw [ev_new _ (by omega)]
  conv => lhs; whnf
  rw [toReq_call]
  rw [show Y E0 (.call 71 [.pa 0 0, .i 1] [.var [.sl .u8 b, .i 0, .i 0]]) = _ from ev_ruint b 0 0 1 hb (Nat.zero_le _)]; generalize g0 : rdU b 0 0 1 = x0; obtain ⟨v0, p0, er0⟩ := x0; have k0 : p0 ≤ b.length := (by have := rdU_le (b := b) (at' := 0) (e := 0) (size := 1) (Nat.zero_le _); rw [g0] at this; exact this)
  conv => lhs; whnf
  rw [toReq_call]
  rw [ev_rblob b p0 er0 1024 hb k0]; generalize g1 : rdB b p0 er0 1024 = x1; obtain ⟨v1, p1, er1⟩ := x1; have k1 : p1 ≤ b.length := (by have := rdB_le (b := b) (at' := p0) (e := er0) (most := 1024) k0; rw [g1] at this; exact this); have l1 : v1.length ≤ b.length := (by have := rdB_len (b := b) (at' := p0) (e := er0) (most := 1024); rw [g1] at this; exact this); have m1 : v1.length ≤ 1024 := (by have := rdB_most (b := b) (at' := p0) (e := er0) (most := 1024) (by decide); rw [g1] at this; simp only at this; omega)
  conv => lhs; whnf
  rw [toReq_call]
  rw [ev_rblob b p1 er1 1024 hb k1]; generalize g2 : rdB b p1 er1 1024 = x2; obtain ⟨v2, p2, er2⟩ := x2; have k2 : p2 ≤ b.length := (by have := rdB_le (b := b) (at' := p1) (e := er1) (most := 1024) k1; rw [g2] at this; exact this); have l2 : v2.length ≤ b.length := (by have := rdB_len (b := b) (at' := p1) (e := er1) (most := 1024); rw [g2] at this; exact this); have m2 : v2.length ≤ 1024 := (by have := rdB_most (b := b) (at' := p1) (e := er1) (most := 1024) (by decide); rw [g2] at this; simp only at this; omega)
  conv => lhs; whnf
  rw [toReq_call]
  rw [ev_rblob b p2 er2 8192 hb k2]; generalize g3 : rdB b p2 er2 8192 = x3; obtain ⟨v3, p3, er3⟩ := x3; have k3 : p3 ≤ b.length := (by have := rdB_le (b := b) (at' := p2) (e := er2) (most := 8192) k2; rw [g3] at this; exact this); have l3 : v3.length ≤ b.length := (by have := rdB_len (b := b) (at' := p2) (e := er2) (most := 8192); rw [g3] at this; exact this); have m3 : v3.length ≤ 8192 := (by have := rdB_most (b := b) (at' := p2) (e := er2) (most := 8192) (by decide); rw [g3] at this; simp only at this; omega)
  conv => lhs; whnf
  rw [toReq_call]
  rw [ev_rend _ _ _ (by omega) (by omega)]
  conv => lhs; whnf
  rcases Bool.eq_false_or_eq_true (ine (rdE b (v3, p3, er3).snd.fst (v3, p3, er3).snd.snd) 0) with hc0 | hc0
  · rw [hc0]; replace hc0 := of_ine_t hc0; try simp only [llen_eq] at hc0
    conv => lhs; whnf
    (rw [decE_of g0 g1 g2 g3, if_pos (by omega)]; rfl)
  · rw [hc0]; replace hc0 := of_ine_f hc0; try simp only [llen_eq] at hc0
    conv => lhs; whnf
    rw [toReq_call]
    rw [ev_canE]
    conv => lhs; whnf
    rw [bnot_eq]; conv => lhs; whnf
    rcases Bool.eq_false_or_eq_true (decide (CanE { machine := ((v0, p0, er0).fst, (v1, p1, er1).fst, (v2, p2, er2).fst, (v3, p3, er3).fst).fst, attest := ((v0, p0, er0).fst, (v1, p1, er1).fst, (v2, p2, er2).fst, (v3, p3, er3).fst).snd.fst, sig := ((v0, p0, er0).fst, (v1, p1, er1).fst, (v2, p2, er2).fst, (v3, p3, er3).fst).snd.snd.fst, log := ((v0, p0, er0).fst, (v1, p1, er1).fst, (v2, p2, er2).fst, (v3, p3, er3).fst).snd.snd.snd })) with hc1 | hc1
    · rw [hc1]; replace hc1 := of_decide_eq_true hc1; try simp only at hc1
      conv => lhs; whnf
      (rw [decE_of g0 g1 g2 g3, if_neg (by obtain ⟨q1, q2, q3, q4, q5⟩ := hc1; simp only at *; omega)])
    · rw [hc1]; replace hc1 := of_decide_eq_false hc1; try simp only at hc1
      conv => lhs; whnf
      (rw [decE_of g0 g1 g2 g3, if_pos (by have hn : ¬ (1 ≤ v0 ∧ v0 ≤ 4 ∧ v1.length ≤ 1024 ∧ v2.length ≤ 1024 ∧ v3.length ≤ 8192) := hc1; omega)]; rfl)
theorem ev_r36dec (b : List UInt8) (hb : b.length ≤ 4294967296) : Y E0 (.call 35 [.sl .u8 b] []) = some (.ret (.tup [.agg (eviX (decE b).1), .i (decE b).2]) []) := by
  rw [Y_go]; conv => lhs; whnf
  rw [toReq_call]
  rw [ev_r3new _]
  conv => lhs; whnf
  rw [toReq_call]
  rw [show Y E0 (.call 75 [.pa 0 0, .i 1] [.var [.sl .u8 b, .i 0, .i 0]]) = _ from ev_r3ruint b 0 0 1 hb (Nat.zero_le _)]; generalize g0 : rdU b 0 0 1 = x0; obtain ⟨v0, p0, er0⟩ := x0; have k0 : p0 ≤ b.length := (by have := rdU_le (b := b) (at' := 0) (e := 0) (size := 1) (Nat.zero_le _); rw [g0] at this; exact this)
  conv => lhs; whnf
  rw [toReq_call]
  rw [ev_r3rblob b p0 er0 1024 hb k0]; generalize g1 : rdB b p0 er0 1024 = x1; obtain ⟨v1, p1, er1⟩ := x1; have k1 : p1 ≤ b.length := (by have := rdB_le (b := b) (at' := p0) (e := er0) (most := 1024) k0; rw [g1] at this; exact this); have l1 : v1.length ≤ b.length := (by have := rdB_len (b := b) (at' := p0) (e := er0) (most := 1024); rw [g1] at this; exact this); have m1 : v1.length ≤ 1024 := (by have := rdB_most (b := b) (at' := p0) (e := er0) (most := 1024) (by decide); rw [g1] at this; simp only at this; omega)
  conv => lhs; whnf
  rw [toReq_call]
  rw [ev_r3rblob b p1 er1 1024 hb k1]; generalize g2 : rdB b p1 er1 1024 = x2; obtain ⟨v2, p2, er2⟩ := x2; have k2 : p2 ≤ b.length := (by have := rdB_le (b := b) (at' := p1) (e := er1) (most := 1024) k1; rw [g2] at this; exact this); have l2 : v2.length ≤ b.length := (by have := rdB_len (b := b) (at' := p1) (e := er1) (most := 1024); rw [g2] at this; exact this); have m2 : v2.length ≤ 1024 := (by have := rdB_most (b := b) (at' := p1) (e := er1) (most := 1024) (by decide); rw [g2] at this; simp only at this; omega)
  conv => lhs; whnf
  rw [toReq_call]
  rw [ev_r3rblob b p2 er2 8192 hb k2]; generalize g3 : rdB b p2 er2 8192 = x3; obtain ⟨v3, p3, er3⟩ := x3; have k3 : p3 ≤ b.length := (by have := rdB_le (b := b) (at' := p2) (e := er2) (most := 8192) k2; rw [g3] at this; exact this); have l3 : v3.length ≤ b.length := (by have := rdB_len (b := b) (at' := p2) (e := er2) (most := 8192); rw [g3] at this; exact this); have m3 : v3.length ≤ 8192 := (by have := rdB_most (b := b) (at' := p2) (e := er2) (most := 8192) (by decide); rw [g3] at this; simp only at this; omega)
  conv => lhs; whnf
  rw [toReq_call]
  rw [ev_r3end _ _ _ (by omega) (by omega)]
  conv => lhs; whnf
  rcases Bool.eq_false_or_eq_true (ine (rdE b (v3, p3, er3).snd.fst (v3, p3, er3).snd.snd) 0) with hc0 | hc0
  · rw [hc0]; replace hc0 := of_ine_t hc0; try simp only [llen_eq] at hc0
    conv => lhs; whnf
    (rw [decE_of g0 g1 g2 g3, if_pos (by omega)]; rfl)
  · rw [hc0]; replace hc0 := of_ine_f hc0; try simp only [llen_eq] at hc0
    conv => lhs; whnf
    rcases Bool.eq_false_or_eq_true (ilt (v0, p0, er0).fst 1) with hc1 | hc1
    · rw [hc1]; replace hc1 := of_ilt_t hc1; try simp only [llen_eq] at hc1
      conv => lhs; whnf
      (rw [decE_of g0 g1 g2 g3, if_pos (by omega)]; rfl)
    · rw [hc1]; replace hc1 := of_ilt_f hc1; try simp only [llen_eq] at hc1
      conv => lhs; whnf
      rcases Bool.eq_false_or_eq_true (ilt 4 (v0, p0, er0).fst) with hc2 | hc2
      · rw [hc2]; replace hc2 := of_ilt_t hc2; try simp only [llen_eq] at hc2
        conv => lhs; whnf
        (rw [decE_of g0 g1 g2 g3, if_pos (by omega)]; rfl)
      · rw [hc2]; replace hc2 := of_ilt_f hc2; try simp only [llen_eq] at hc2
        conv => lhs; whnf
        (rw [decE_of g0 g1 g2 g3, if_neg (by omega)])
theorem ev_enonce (nonce : List UInt8) (m : Int) (log : List UInt8) (h1 : nonce.length ≤ 1000) (h2 : log.length ≤ 10000) : Y E0 (.call 25 [.sl .u8 nonce, .i m, .sl .u8 log] []) = some (.ret (.sl .u8 (sha256 (frameB 23 [nonce, uintB [] 2 m, log]))) []) := by
  rw [Y_go]; conv => lhs; whnf
  rw [toReq_call]
  rw [ev_uint _ _ _ (by (simp only [uintB_l2, uintB_l1, blobB_l, seedB_len, sha256_len, fr1_len, fr2_len, fr3_len, LL] at * <;> omega))]
  conv => lhs; whnf
  rw [toReq_call]
  rw [ev_dig_hash _ _ (by (simp only [uintB_l2, uintB_l1, blobB_l, seedB_len, sha256_len, fr1_len, fr2_len, fr3_len, LL] at * <;> omega)) (by (simp only [uintB_l2, uintB_l1, blobB_l, seedB_len, sha256_len, fr1_len, fr2_len, fr3_len, LL] at * <;> omega))]
  conv => lhs; whnf
theorem ev_r36nonce (nonce : List UInt8) (m : Int) (log : List UInt8) (h1 : nonce.length ≤ 1000) (h2 : log.length ≤ 10000) : Y E0 (.call 27 [.sl .u8 nonce, .i m, .sl .u8 log] []) = some (.ret (.sl .u8 (sha256 (frameB 23 [nonce, uintB [] 2 m, log]))) []) := by
  rw [Y_go]; conv => lhs; whnf
  rw [toReq_call]
  rw [ev_r3uint _ _ _ (by (simp only [uintB_l2, uintB_l1, blobB_l, seedB_len, sha256_len, fr1_len, fr2_len, fr3_len, LL] at * <;> omega))]
  conv => lhs; whnf
  rw [toReq_call]
  rw [ev_ref_hash _ _ (by (simp only [uintB_l2, uintB_l1, blobB_l, seedB_len, sha256_len, fr1_len, fr2_len, fr3_len, LL] at * <;> omega)) (by (simp only [uintB_l2, uintB_l1, blobB_l, seedB_len, sha256_len, fr1_len, fr2_len, fr3_len, LL] at * <;> omega))]
  conv => lhs; whnf
end Go.Proofs.YtchdeeghccdphaaDoor
/-
  Own text: valid public areas made of any plain data, in plain terms.
-/
namespace Go.Ax
open Go Go.Eng Go.RowKit
set_option linter.unusedVariables false
set_option linter.unusedSimpArgs false
def fillB (n : Nat) (b : List UInt8) : List UInt8 := b.take n ++ (List.replicate n 0).drop b.length
theorem fillB_len (n : Nat) (b : List UInt8) : (fillB n b).length = n := by simp [fillB]; omega
/-- the attributes of a valid area -/
def vattr (k a : Int) (pol : Bool) : Int :=
  let x := if k = 2 then a else bits .andNot .i64 a 4
  if pol then x else bits .or .i64 x 1
def validP (p : Pub) : Pub :=
  ⟨1 + p.kind % 3, vattr (1 + p.kind % 3) (p.attr % 8) (decide (0 < p.policy.length)), if 1 + p.kind % 3 = 2 then p.height % 2 else 0,
   if 0 < p.policy.length then seedB p.policy else [], fillB (uniq (1 + p.kind % 3)).toNat p.unique⟩
theorem eight {a : Int} (h : 0 ≤ a ∧ a ≤ 7) : a = 0 ∨ a = 1 ∨ a = 2 ∨ a = 3 ∨ a = 4 ∨ a = 5 ∨ a = 6 ∨ a = 7 := by omega
theorem vattr_ok {k a : Int} {pol : Bool} (h : 0 ≤ a ∧ a ≤ 7) : 0 ≤ vattr k a pol ∧ vattr k a pol ≤ 7 ∧ (k = 2 ∨ bits .and .i64 (vattr k a pol) 4 = 0) ∧ (pol = true ∨ bits .and .i64 (vattr k a pol) 1 ≠ 0) := by
  unfold vattr
  rcases eight h with rfl | rfl | rfl | rfl | rfl | rfl | rfl | rfl <;> (cases pol <;> (by_cases hk : k = 2 <;> simp only [hk, if_true, if_false, true_or, false_or] <;> decide))
theorem validP_chk (p : Pub) : chkP (validP p) = 0 := by
  have hv := vattr_ok (k := 1 + p.kind % 3) (a := p.attr % 8) (pol := decide (0 < p.policy.length)) (by omega)
  have hl := fillB_len (uniq (1 + p.kind % 3)).toNat p.unique
  have hu : uniq (1 + p.kind % 3) = 17 ∨ uniq (1 + p.kind % 3) = 32 := by unfold uniq; split; exact .inl rfl; exact .inr rfl
  have hs := seedB_len p.policy
  have hp : (validP p).policy.length = if 0 < p.policy.length then 32 else 0 := by
    simp only [validP]; split
    · exact hs
    · rfl
  generalize hA : vattr (1 + p.kind % 3) (p.attr % 8) (decide (0 < p.policy.length)) = A at hv
  have e2 : (validP p).attr = A := hA
  have e3 : (validP p).height = if 1 + p.kind % 3 = 2 then p.height % 2 else 0 := rfl
  unfold chkP
  rw [hp, e2, e3, show (validP p).kind = 1 + p.kind % 3 from rfl, show (validP p).unique.length = _ from hl]
  simp only [decide_eq_true_eq] at hv
  obtain ⟨v1, v2, v3, v4⟩ := hv
  rw [if_neg (by omega), if_neg, if_neg]
  · rintro (h | h | h | h | h)
    · split at h <;> omega
    · split at h <;> omega
    · obtain ⟨h1, h2⟩ := h
      rw [if_neg h2] at h1; exact h1 rfl
    · obtain ⟨h1, h2⟩ := h
      split at h2 <;> simp_all
    · omega
  · rintro (h | h | h | h)
    · omega
    · omega
    · rcases v3 with v3 | v3
      · exact h.2 v3
      · exact h.1 v3
    · obtain ⟨h1, h2⟩ := h
      rcases v4 with v4 | v4
      · rw [if_pos v4] at h2; simp at h2
      · exact v4 h1
theorem validP_policy (p : Pub) : (validP p).policy.length ≤ 32 := (okP_of (validP_chk p)).policy
theorem validP_unique (p : Pub) : (validP p).unique.length ≤ 32 := (okP_of (validP_chk p)).unique
def fewPub (p : Pub) : Bool := decide ((p.policy.length : Int) ≤ 60) && decide ((p.unique.length : Int) ≤ 60)
theorem fewPub_t {p : Pub} (h : fewPub p = true) : p.policy.length ≤ 60 ∧ p.unique.length ≤ 60 := by
  simp only [fewPub, Bool.and_eq_true, decide_eq_true_eq] at h; omega
theorem fewPub_f {p : Pub} (h : 60 < p.policy.length ∨ 60 < p.unique.length) : fewPub p = false := by
  cases hf : fewPub p with
  | false => rfl
  | true => have := fewPub_t hf; omega
def sameP (p q : Pub) : Bool := decide (p.kind = q.kind) && (decide (p.attr = q.attr) && (decide (p.height = q.height) && (decide (p.policy = q.policy) && decide (p.unique = q.unique))))
theorem sameP_iff (p q : Pub) : sameP p q = decide (p = q) := by
  cases p; cases q
  simp only [sameP, Pub.mk.injEq, Bool.decide_and]
/-! ### Names of indices and hierarchies -/
structure Idx where
  n : Int
  kind : Int
  attr : Int
  size : Int
  policy : List UInt8
  auth : List UInt8
  written : Bool
  data : List UInt8
def idxB (x : Idx) : List UInt8 := uintB [UInt8.ofInt x.n, UInt8.ofInt x.kind, UInt8.ofInt x.attr] 2 x.size ++ [if x.written then 1 else 0]
def nameB (p : Pub) : List UInt8 := sha256 (frameB 6 [encP p])
def idxNameB (x : Idx) : List UInt8 := sha256 (frameB 7 [idxB x, x.policy])
def hierB (h : Int) : List UInt8 := if h < 0 ∨ 3 < h then [] else sha256 (frameB 11 [[UInt8.ofInt h]])
theorem idxB_len (x : Idx) : (idxB x).length = 6 := by rw [idxB, List.length_append, uintB_l2]; rfl
end Go.Ax
/-
  Own text: public areas and names.
-/
namespace Go.Ax
abbrev pubX (p : Pub) : List AV := [.i p.kind, .i p.attr, .i p.height, .sl .u8 p.policy, .sl .u8 p.unique]
abbrev idxX (x : Idx) : List AV := [.i x.n, .i x.kind, .i x.attr, .i x.size, .sl .u8 x.policy, .sl .u8 x.auth, .b x.written, .sl .u8 x.data]
end Go.Ax
namespace Go.Proofs.YtchdeeghccdphaaDoor
open Go Go.Ax Go.Eng
set_option linter.unusedVariables false
set_option linter.unusedSimpArgs false
attribute [local irreducible] iadd isub imul iquo irem ibit ineg ieq ine ilt ile ishl ishr beq' bnot and' seq' u8op u8rem u32op u64op u8shr u8shl u64shr u64shl u32shr u32shl i64w u8i u64i iu8 iu32 iu64 u8u64 u64u8 u32u8 u64cmp u8cmp u32cmp llen lget linb lset lcut lrep lapp lcpy lemp fits fitn sealed drawChk fpSame
set_option maxHeartbeats 4000000
set_option maxRecDepth 100000
theorem ev_asize (k : Int) : Y E0 (.call 80 [.i k] []) = some (.ret (.i (uniq k)) []) := by
  rw [Y_go]; conv => lhs; whnf
  rcases Bool.eq_false_or_eq_true (ieq k 2) with hc0 | hc0
  · rw [hc0]; replace hc0 := of_ieq_t hc0; try simp only [llen_eq] at hc0
    subst hc0
    conv => lhs; whnf
    unfold uniq; (repeat (first | rw [if_pos (by first | omega | decide | assumption | (simp only [uintB_l2, uintB_l1, blobB_l, seedB_len, fillB_len, idxB_len, sha256_len, fr1_len, fr2_len, fr3_len, LL] at * <;> omega) | (simp; omega))] | rw [if_neg (by first | omega | decide | assumption | (simp only [uintB_l2, uintB_l1, blobB_l, seedB_len, fillB_len, idxB_len, sha256_len, fr1_len, fr2_len, fr3_len, LL] at * <;> omega) | (simp; omega))])); try simp only [NO]
  · rw [hc0]; replace hc0 := of_ieq_f hc0; try simp only [llen_eq] at hc0
    conv => lhs; whnf
    unfold uniq; (repeat (first | rw [if_pos (by first | omega | decide | assumption | (simp only [uintB_l2, uintB_l1, blobB_l, seedB_len, fillB_len, idxB_len, sha256_len, fr1_len, fr2_len, fr3_len, LL] at * <;> omega) | (simp; omega))] | rw [if_neg (by first | omega | decide | assumption | (simp only [uintB_l2, uintB_l1, blobB_l, seedB_len, fillB_len, idxB_len, sha256_len, fr1_len, fr2_len, fr3_len, LL] at * <;> omega) | (simp; omega))])); try simp only [NO]
theorem ev_r10size (k : Int) : Y E0 (.call 79 [.i k] []) = some (.ret (.i (uniq k)) []) := by
  rw [Y_go]; conv => lhs; whnf
  rcases Bool.eq_false_or_eq_true (ieq k 2) with hc0 | hc0
  · rw [hc0]; replace hc0 := of_ieq_t hc0; try simp only [llen_eq] at hc0
    subst hc0
    conv => lhs; whnf
    unfold uniq; (repeat (first | rw [if_pos (by first | omega | decide | assumption | (simp only [uintB_l2, uintB_l1, blobB_l, seedB_len, fillB_len, idxB_len, sha256_len, fr1_len, fr2_len, fr3_len, LL] at * <;> omega) | (simp; omega))] | rw [if_neg (by first | omega | decide | assumption | (simp only [uintB_l2, uintB_l1, blobB_l, seedB_len, fillB_len, idxB_len, sha256_len, fr1_len, fr2_len, fr3_len, LL] at * <;> omega) | (simp; omega))])); try simp only [NO]
  · rw [hc0]; replace hc0 := of_ieq_f hc0; try simp only [llen_eq] at hc0
    conv => lhs; whnf
    unfold uniq; (repeat (first | rw [if_pos (by first | omega | decide | assumption | (simp only [uintB_l2, uintB_l1, blobB_l, seedB_len, fillB_len, idxB_len, sha256_len, fr1_len, fr2_len, fr3_len, LL] at * <;> omega) | (simp; omega))] | rw [if_neg (by first | omega | decide | assumption | (simp only [uintB_l2, uintB_l1, blobB_l, seedB_len, fillB_len, idxB_len, sha256_len, fr1_len, fr2_len, fr3_len, LL] at * <;> omega) | (simp; omega))])); try simp only [NO]
theorem ev_acheck (kind attr height : Int) (policy unique : List UInt8) : Y E0 (.call 39 [.agg [.i kind, .i attr, .i height, .sl .u8 policy, .sl .u8 unique]] []) = some (.ret (.i (chkP ⟨kind, attr, height, policy, unique⟩)) []) := by
  rw [Y_go]; conv => lhs; whnf
  rcases Bool.eq_false_or_eq_true (ilt kind 1) with hc0 | hc0
  · rw [hc0]; replace hc0 := of_ilt_t hc0; try simp only [llen_eq] at hc0
    conv => lhs; whnf
    (try simp only [ibit_eq] at *); unfold chkP; dsimp only; (repeat (first | rw [if_pos (by omega)] | rw [if_neg (by omega)])); done
  · rw [hc0]; replace hc0 := of_ilt_f hc0; try simp only [llen_eq] at hc0
    conv => lhs; whnf
    rcases Bool.eq_false_or_eq_true (ilt 3 kind) with hc1 | hc1
    · rw [hc1]; replace hc1 := of_ilt_t hc1; try simp only [llen_eq] at hc1
      conv => lhs; whnf
      (try simp only [ibit_eq] at *); unfold chkP; dsimp only; (repeat (first | rw [if_pos (by omega)] | rw [if_neg (by omega)])); done
    · rw [hc1]; replace hc1 := of_ilt_f hc1; try simp only [llen_eq] at hc1
      conv => lhs; whnf
      rcases Bool.eq_false_or_eq_true (ilt attr 0) with hc2 | hc2
      · rw [hc2]; replace hc2 := of_ilt_t hc2; try simp only [llen_eq] at hc2
        conv => lhs; whnf
        (try simp only [ibit_eq] at *); unfold chkP; dsimp only; (repeat (first | rw [if_pos (by omega)] | rw [if_neg (by omega)])); done
      · rw [hc2]; replace hc2 := of_ilt_f hc2; try simp only [llen_eq] at hc2
        conv => lhs; whnf
        rcases Bool.eq_false_or_eq_true (ilt 7 attr) with hc3 | hc3
        · rw [hc3]; replace hc3 := of_ilt_t hc3; try simp only [llen_eq] at hc3
          conv => lhs; whnf
          (try simp only [ibit_eq] at *); unfold chkP; dsimp only; (repeat (first | rw [if_pos (by omega)] | rw [if_neg (by omega)])); done
        · rw [hc3]; replace hc3 := of_ilt_f hc3; try simp only [llen_eq] at hc3
          conv => lhs; whnf
          rcases Bool.eq_false_or_eq_true (ine (ibit BinOp.and attr 4) 0) with hc4 | hc4
          · rw [hc4]; replace hc4 := of_ine_t hc4; try simp only [llen_eq] at hc4
            conv => lhs; whnf
            rw [bnot_eq]; conv => lhs; whnf
            rcases Bool.eq_false_or_eq_true (ieq kind 2) with hc5 | hc5
            · rw [hc5]; replace hc5 := of_ieq_t hc5; try simp only [llen_eq] at hc5
              subst hc5
              conv => lhs; whnf
              rcases Bool.eq_false_or_eq_true (ieq (ibit BinOp.and attr 1) 0) with hc6 | hc6
              · rw [hc6]; replace hc6 := of_ieq_t hc6; try simp only [llen_eq] at hc6
                conv => lhs; whnf
                rcases Bool.eq_false_or_eq_true (ieq (llen policy) 0) with hc7 | hc7
                · rw [hc7]; replace hc7 := of_ieq_t hc7; try simp only [llen_eq] at hc7
                  conv => lhs; whnf
                  rw [Y_go]; conv => lhs; whnf
                  (try simp only [ibit_eq] at *); unfold chkP; dsimp only; (repeat (first | rw [if_pos (by omega)] | rw [if_neg (by omega)])); done
                · rw [hc7]; replace hc7 := of_ieq_f hc7; try simp only [llen_eq] at hc7
                  conv => lhs; whnf
                  rcases Bool.eq_false_or_eq_true (ilt height 0) with hc8 | hc8
                  · rw [hc8]; replace hc8 := of_ilt_t hc8; try simp only [llen_eq] at hc8
                    conv => lhs; whnf
                    rw [Y_go]; conv => lhs; whnf
                    (try simp only [ibit_eq] at *); unfold chkP; dsimp only; (repeat (first | rw [if_pos (by omega)] | rw [if_neg (by omega)])); done
                  · rw [hc8]; replace hc8 := of_ilt_f hc8; try simp only [llen_eq] at hc8
                    conv => lhs; whnf
                    rw [Y_go]; conv => lhs; whnf
                    rcases Bool.eq_false_or_eq_true (ilt 3 height) with hc9 | hc9
                    · rw [hc9]; replace hc9 := of_ilt_t hc9; try simp only [llen_eq] at hc9
                      conv => lhs; whnf
                      (try simp only [ibit_eq] at *); unfold chkP; dsimp only; (repeat (first | rw [if_pos (by omega)] | rw [if_neg (by omega)])); done
                    · rw [hc9]; replace hc9 := of_ilt_f hc9; try simp only [llen_eq] at hc9
                      conv => lhs; whnf
                      rcases Bool.eq_false_or_eq_true (ine height 0) with hc10 | hc10
                      · rw [hc10]; replace hc10 := of_ine_t hc10; try simp only [llen_eq] at hc10
                        conv => lhs; whnf
                        rw [bnot_eq]; conv => lhs; whnf
                        rw [ine_t (by (simp only [uintB_l2, uintB_l1, blobB_l, seedB_len, fillB_len, idxB_len, sha256_len, fr1_len, fr2_len, fr3_len, LL] at * <;> omega))]
                        conv => lhs; whnf
                        rcases Bool.eq_false_or_eq_true (ine (llen policy) 32) with hc11 | hc11
                        · rw [hc11]; replace hc11 := of_ine_t hc11; try simp only [llen_eq] at hc11
                          conv => lhs; whnf
                          (try simp only [ibit_eq] at *); unfold chkP; dsimp only; (repeat (first | rw [if_pos (by omega)] | rw [if_neg (by omega)])); done
                        · rw [hc11]; replace hc11 := of_ine_f hc11; try simp only [llen_eq] at hc11
                          conv => lhs; whnf
                          rw [toReq_call]
                          rw [ev_asize _]
                          conv => lhs; whnf
                          rw [drw (by kernel_rfl)]; conv => lhs; whnf
                          rcases Bool.eq_false_or_eq_true (ine (llen unique) (uniq 2)) with hc12 | hc12
                          · rw [hc12]; replace hc12 := of_ine_t hc12; try simp only [llen_eq] at hc12
                            conv => lhs; whnf
                            (try simp only [ibit_eq] at *); unfold chkP; dsimp only; (repeat (first | rw [if_pos (by omega)] | rw [if_neg (by omega)])); done
                          · rw [hc12]; replace hc12 := of_ine_f hc12; try simp only [llen_eq] at hc12
                            conv => lhs; whnf
                            rw [Y_go]; conv => lhs; whnf
                            (try simp only [ibit_eq] at *); unfold chkP; dsimp only; (repeat (first | rw [if_pos (by omega)] | rw [if_neg (by omega)])); done
                      · rw [hc10]; replace hc10 := of_ine_f hc10; try simp only [llen_eq] at hc10
                        subst hc10
                        conv => lhs; whnf
                        rw [ine_t (by (simp only [uintB_l2, uintB_l1, blobB_l, seedB_len, fillB_len, idxB_len, sha256_len, fr1_len, fr2_len, fr3_len, LL] at * <;> omega))]
                        conv => lhs; whnf
                        rcases Bool.eq_false_or_eq_true (ine (llen policy) 32) with hc13 | hc13
                        · rw [hc13]; replace hc13 := of_ine_t hc13; try simp only [llen_eq] at hc13
                          conv => lhs; whnf
                          (try simp only [ibit_eq] at *); unfold chkP; dsimp only; (repeat (first | rw [if_pos (by omega)] | rw [if_neg (by omega)])); done
                        · rw [hc13]; replace hc13 := of_ine_f hc13; try simp only [llen_eq] at hc13
                          conv => lhs; whnf
                          rw [toReq_call]
                          rw [ev_asize _]
                          conv => lhs; whnf
                          rw [drw (by kernel_rfl)]; conv => lhs; whnf
                          rcases Bool.eq_false_or_eq_true (ine (llen unique) (uniq 2)) with hc14 | hc14
                          · rw [hc14]; replace hc14 := of_ine_t hc14; try simp only [llen_eq] at hc14
                            conv => lhs; whnf
                            (try simp only [ibit_eq] at *); unfold chkP; dsimp only; (repeat (first | rw [if_pos (by omega)] | rw [if_neg (by omega)])); done
                          · rw [hc14]; replace hc14 := of_ine_f hc14; try simp only [llen_eq] at hc14
                            conv => lhs; whnf
                            rw [Y_go]; conv => lhs; whnf
                            (try simp only [ibit_eq] at *); unfold chkP; dsimp only; (repeat (first | rw [if_pos (by omega)] | rw [if_neg (by omega)])); done
              · rw [hc6]; replace hc6 := of_ieq_f hc6; try simp only [llen_eq] at hc6
                conv => lhs; whnf
                rcases Bool.eq_false_or_eq_true (ilt height 0) with hc15 | hc15
                · rw [hc15]; replace hc15 := of_ilt_t hc15; try simp only [llen_eq] at hc15
                  conv => lhs; whnf
                  rw [Y_go]; conv => lhs; whnf
                  (try simp only [ibit_eq] at *); unfold chkP; dsimp only; (repeat (first | rw [if_pos (by omega)] | rw [if_neg (by omega)])); done
                · rw [hc15]; replace hc15 := of_ilt_f hc15; try simp only [llen_eq] at hc15
                  conv => lhs; whnf
                  rw [Y_go]; conv => lhs; whnf
                  rcases Bool.eq_false_or_eq_true (ilt 3 height) with hc16 | hc16
                  · rw [hc16]; replace hc16 := of_ilt_t hc16; try simp only [llen_eq] at hc16
                    conv => lhs; whnf
                    (try simp only [ibit_eq] at *); unfold chkP; dsimp only; (repeat (first | rw [if_pos (by omega)] | rw [if_neg (by omega)])); done
                  · rw [hc16]; replace hc16 := of_ilt_f hc16; try simp only [llen_eq] at hc16
                    conv => lhs; whnf
                    rcases Bool.eq_false_or_eq_true (ine height 0) with hc17 | hc17
                    · rw [hc17]; replace hc17 := of_ine_t hc17; try simp only [llen_eq] at hc17
                      conv => lhs; whnf
                      rw [bnot_eq]; conv => lhs; whnf
                      rcases Bool.eq_false_or_eq_true (ine (llen policy) 0) with hc18 | hc18
                      · rw [hc18]; replace hc18 := of_ine_t hc18; try simp only [llen_eq] at hc18
                        conv => lhs; whnf
                        rcases Bool.eq_false_or_eq_true (ine (llen policy) 32) with hc19 | hc19
                        · rw [hc19]; replace hc19 := of_ine_t hc19; try simp only [llen_eq] at hc19
                          conv => lhs; whnf
                          (try simp only [ibit_eq] at *); unfold chkP; dsimp only; (repeat (first | rw [if_pos (by omega)] | rw [if_neg (by omega)])); done
                        · rw [hc19]; replace hc19 := of_ine_f hc19; try simp only [llen_eq] at hc19
                          conv => lhs; whnf
                          rw [toReq_call]
                          rw [ev_asize _]
                          conv => lhs; whnf
                          rw [drw (by kernel_rfl)]; conv => lhs; whnf
                          rcases Bool.eq_false_or_eq_true (ine (llen unique) (uniq 2)) with hc20 | hc20
                          · rw [hc20]; replace hc20 := of_ine_t hc20; try simp only [llen_eq] at hc20
                            conv => lhs; whnf
                            (try simp only [ibit_eq] at *); unfold chkP; dsimp only; (repeat (first | rw [if_pos (by omega)] | rw [if_neg (by omega)])); done
                          · rw [hc20]; replace hc20 := of_ine_f hc20; try simp only [llen_eq] at hc20
                            conv => lhs; whnf
                            rw [Y_go]; conv => lhs; whnf
                            (try simp only [ibit_eq] at *); unfold chkP; dsimp only; (repeat (first | rw [if_pos (by omega)] | rw [if_neg (by omega)])); done
                      · rw [hc18]; replace hc18 := of_ine_f hc18; try simp only [llen_eq] at hc18
                        conv => lhs; whnf
                        rw [toReq_call]
                        rw [ev_asize _]
                        conv => lhs; whnf
                        rw [drw (by kernel_rfl)]; conv => lhs; whnf
                        rcases Bool.eq_false_or_eq_true (ine (llen unique) (uniq 2)) with hc21 | hc21
                        · rw [hc21]; replace hc21 := of_ine_t hc21; try simp only [llen_eq] at hc21
                          conv => lhs; whnf
                          (try simp only [ibit_eq] at *); unfold chkP; dsimp only; (repeat (first | rw [if_pos (by omega)] | rw [if_neg (by omega)])); done
                        · rw [hc21]; replace hc21 := of_ine_f hc21; try simp only [llen_eq] at hc21
                          conv => lhs; whnf
                          rw [Y_go]; conv => lhs; whnf
                          (try simp only [ibit_eq] at *); unfold chkP; dsimp only; (repeat (first | rw [if_pos (by omega)] | rw [if_neg (by omega)])); done
                    · rw [hc17]; replace hc17 := of_ine_f hc17; try simp only [llen_eq] at hc17
                      subst hc17
                      conv => lhs; whnf
                      rcases Bool.eq_false_or_eq_true (ine (llen policy) 0) with hc22 | hc22
                      · rw [hc22]; replace hc22 := of_ine_t hc22; try simp only [llen_eq] at hc22
                        conv => lhs; whnf
                        rcases Bool.eq_false_or_eq_true (ine (llen policy) 32) with hc23 | hc23
                        · rw [hc23]; replace hc23 := of_ine_t hc23; try simp only [llen_eq] at hc23
                          conv => lhs; whnf
                          (try simp only [ibit_eq] at *); unfold chkP; dsimp only; (repeat (first | rw [if_pos (by omega)] | rw [if_neg (by omega)])); done
                        · rw [hc23]; replace hc23 := of_ine_f hc23; try simp only [llen_eq] at hc23
                          conv => lhs; whnf
                          rw [toReq_call]
                          rw [ev_asize _]
                          conv => lhs; whnf
                          rw [drw (by kernel_rfl)]; conv => lhs; whnf
                          rcases Bool.eq_false_or_eq_true (ine (llen unique) (uniq 2)) with hc24 | hc24
                          · rw [hc24]; replace hc24 := of_ine_t hc24; try simp only [llen_eq] at hc24
                            conv => lhs; whnf
                            (try simp only [ibit_eq] at *); unfold chkP; dsimp only; (repeat (first | rw [if_pos (by omega)] | rw [if_neg (by omega)])); done
                          · rw [hc24]; replace hc24 := of_ine_f hc24; try simp only [llen_eq] at hc24
                            conv => lhs; whnf
                            rw [Y_go]; conv => lhs; whnf
                            (try simp only [ibit_eq] at *); unfold chkP; dsimp only; (repeat (first | rw [if_pos (by omega)] | rw [if_neg (by omega)])); done
                      · rw [hc22]; replace hc22 := of_ine_f hc22; try simp only [llen_eq] at hc22
                        conv => lhs; whnf
                        rw [toReq_call]
                        rw [ev_asize _]
                        conv => lhs; whnf
                        rw [drw (by kernel_rfl)]; conv => lhs; whnf
                        rcases Bool.eq_false_or_eq_true (ine (llen unique) (uniq 2)) with hc25 | hc25
                        · rw [hc25]; replace hc25 := of_ine_t hc25; try simp only [llen_eq] at hc25
                          conv => lhs; whnf
                          (try simp only [ibit_eq] at *); unfold chkP; dsimp only; (repeat (first | rw [if_pos (by omega)] | rw [if_neg (by omega)])); done
                        · rw [hc25]; replace hc25 := of_ine_f hc25; try simp only [llen_eq] at hc25
                          conv => lhs; whnf
                          rw [Y_go]; conv => lhs; whnf
                          (try simp only [ibit_eq] at *); unfold chkP; dsimp only; (repeat (first | rw [if_pos (by omega)] | rw [if_neg (by omega)])); done
            · rw [hc5]; replace hc5 := of_ieq_f hc5; try simp only [llen_eq] at hc5
              conv => lhs; whnf
              (try simp only [ibit_eq] at *); unfold chkP; dsimp only; (repeat (first | rw [if_pos (by omega)] | rw [if_neg (by omega)])); done
          · rw [hc4]; replace hc4 := of_ine_f hc4; try simp only [llen_eq] at hc4
            conv => lhs; whnf
            rcases Bool.eq_false_or_eq_true (ieq (ibit BinOp.and attr 1) 0) with hc26 | hc26
            · rw [hc26]; replace hc26 := of_ieq_t hc26; try simp only [llen_eq] at hc26
              conv => lhs; whnf
              rcases Bool.eq_false_or_eq_true (ieq (llen policy) 0) with hc27 | hc27
              · rw [hc27]; replace hc27 := of_ieq_t hc27; try simp only [llen_eq] at hc27
                conv => lhs; whnf
                (try simp only [ibit_eq] at *); unfold chkP; dsimp only; (repeat (first | rw [if_pos (by omega)] | rw [if_neg (by omega)])); done
              · rw [hc27]; replace hc27 := of_ieq_f hc27; try simp only [llen_eq] at hc27
                conv => lhs; whnf
                rcases Bool.eq_false_or_eq_true (ilt height 0) with hc28 | hc28
                · rw [hc28]; replace hc28 := of_ilt_t hc28; try simp only [llen_eq] at hc28
                  conv => lhs; whnf
                  rw [Y_go]; conv => lhs; whnf
                  (try simp only [ibit_eq] at *); unfold chkP; dsimp only; (repeat (first | rw [if_pos (by omega)] | rw [if_neg (by omega)])); done
                · rw [hc28]; replace hc28 := of_ilt_f hc28; try simp only [llen_eq] at hc28
                  conv => lhs; whnf
                  rw [Y_go]; conv => lhs; whnf
                  rcases Bool.eq_false_or_eq_true (ilt 3 height) with hc29 | hc29
                  · rw [hc29]; replace hc29 := of_ilt_t hc29; try simp only [llen_eq] at hc29
                    conv => lhs; whnf
                    (try simp only [ibit_eq] at *); unfold chkP; dsimp only; (repeat (first | rw [if_pos (by omega)] | rw [if_neg (by omega)])); done
                  · rw [hc29]; replace hc29 := of_ilt_f hc29; try simp only [llen_eq] at hc29
                    conv => lhs; whnf
                    rcases Bool.eq_false_or_eq_true (ine height 0) with hc30 | hc30
                    · rw [hc30]; replace hc30 := of_ine_t hc30; try simp only [llen_eq] at hc30
                      conv => lhs; whnf
                      rw [bnot_eq]; conv => lhs; whnf
                      rcases Bool.eq_false_or_eq_true (ieq kind 2) with hc31 | hc31
                      · rw [hc31]; replace hc31 := of_ieq_t hc31; try simp only [llen_eq] at hc31
                        subst hc31
                        conv => lhs; whnf
                        rw [ine_t (by (simp only [uintB_l2, uintB_l1, blobB_l, seedB_len, fillB_len, idxB_len, sha256_len, fr1_len, fr2_len, fr3_len, LL] at * <;> omega))]
                        conv => lhs; whnf
                        rcases Bool.eq_false_or_eq_true (ine (llen policy) 32) with hc32 | hc32
                        · rw [hc32]; replace hc32 := of_ine_t hc32; try simp only [llen_eq] at hc32
                          conv => lhs; whnf
                          (try simp only [ibit_eq] at *); unfold chkP; dsimp only; (repeat (first | rw [if_pos (by omega)] | rw [if_neg (by omega)])); done
                        · rw [hc32]; replace hc32 := of_ine_f hc32; try simp only [llen_eq] at hc32
                          conv => lhs; whnf
                          rw [toReq_call]
                          rw [ev_asize _]
                          conv => lhs; whnf
                          rw [drw (by kernel_rfl)]; conv => lhs; whnf
                          rcases Bool.eq_false_or_eq_true (ine (llen unique) (uniq 2)) with hc33 | hc33
                          · rw [hc33]; replace hc33 := of_ine_t hc33; try simp only [llen_eq] at hc33
                            conv => lhs; whnf
                            (try simp only [ibit_eq] at *); unfold chkP; dsimp only; (repeat (first | rw [if_pos (by omega)] | rw [if_neg (by omega)])); done
                          · rw [hc33]; replace hc33 := of_ine_f hc33; try simp only [llen_eq] at hc33
                            conv => lhs; whnf
                            rw [Y_go]; conv => lhs; whnf
                            (try simp only [ibit_eq] at *); unfold chkP; dsimp only; (repeat (first | rw [if_pos (by omega)] | rw [if_neg (by omega)])); done
                      · rw [hc31]; replace hc31 := of_ieq_f hc31; try simp only [llen_eq] at hc31
                        conv => lhs; whnf
                        (try simp only [ibit_eq] at *); unfold chkP; dsimp only; (repeat (first | rw [if_pos (by omega)] | rw [if_neg (by omega)])); done
                    · rw [hc30]; replace hc30 := of_ine_f hc30; try simp only [llen_eq] at hc30
                      subst hc30
                      conv => lhs; whnf
                      rw [ine_t (by (simp only [uintB_l2, uintB_l1, blobB_l, seedB_len, fillB_len, idxB_len, sha256_len, fr1_len, fr2_len, fr3_len, LL] at * <;> omega))]
                      conv => lhs; whnf
                      rcases Bool.eq_false_or_eq_true (ine (llen policy) 32) with hc34 | hc34
                      · rw [hc34]; replace hc34 := of_ine_t hc34; try simp only [llen_eq] at hc34
                        conv => lhs; whnf
                        (try simp only [ibit_eq] at *); unfold chkP; dsimp only; (repeat (first | rw [if_pos (by omega)] | rw [if_neg (by omega)])); done
                      · rw [hc34]; replace hc34 := of_ine_f hc34; try simp only [llen_eq] at hc34
                        conv => lhs; whnf
                        rw [toReq_call]
                        rw [ev_asize _]
                        conv => lhs; whnf
                        rw [drw (by kernel_rfl)]; conv => lhs; whnf
                        rcases Bool.eq_false_or_eq_true (ine (llen unique) (uniq kind)) with hc35 | hc35
                        · rw [hc35]; replace hc35 := of_ine_t hc35; try simp only [llen_eq] at hc35
                          conv => lhs; whnf
                          (try simp only [ibit_eq] at *); unfold chkP; dsimp only; (repeat (first | rw [if_pos (by omega)] | rw [if_neg (by omega)])); done
                        · rw [hc35]; replace hc35 := of_ine_f hc35; try simp only [llen_eq] at hc35
                          conv => lhs; whnf
                          rw [Y_go]; conv => lhs; whnf
                          (try simp only [ibit_eq] at *); unfold chkP; dsimp only; (repeat (first | rw [if_pos (by omega)] | rw [if_neg (by omega)])); done
            · rw [hc26]; replace hc26 := of_ieq_f hc26; try simp only [llen_eq] at hc26
              conv => lhs; whnf
              rcases Bool.eq_false_or_eq_true (ilt height 0) with hc36 | hc36
              · rw [hc36]; replace hc36 := of_ilt_t hc36; try simp only [llen_eq] at hc36
                conv => lhs; whnf
                rw [Y_go]; conv => lhs; whnf
                (try simp only [ibit_eq] at *); unfold chkP; dsimp only; (repeat (first | rw [if_pos (by omega)] | rw [if_neg (by omega)])); done
              · rw [hc36]; replace hc36 := of_ilt_f hc36; try simp only [llen_eq] at hc36
                conv => lhs; whnf
                rw [Y_go]; conv => lhs; whnf
                rcases Bool.eq_false_or_eq_true (ilt 3 height) with hc37 | hc37
                · rw [hc37]; replace hc37 := of_ilt_t hc37; try simp only [llen_eq] at hc37
                  conv => lhs; whnf
                  (try simp only [ibit_eq] at *); unfold chkP; dsimp only; (repeat (first | rw [if_pos (by omega)] | rw [if_neg (by omega)])); done
                · rw [hc37]; replace hc37 := of_ilt_f hc37; try simp only [llen_eq] at hc37
                  conv => lhs; whnf
                  rcases Bool.eq_false_or_eq_true (ine height 0) with hc38 | hc38
                  · rw [hc38]; replace hc38 := of_ine_t hc38; try simp only [llen_eq] at hc38
                    conv => lhs; whnf
                    rw [bnot_eq]; conv => lhs; whnf
                    rcases Bool.eq_false_or_eq_true (ieq kind 2) with hc39 | hc39
                    · rw [hc39]; replace hc39 := of_ieq_t hc39; try simp only [llen_eq] at hc39
                      subst hc39
                      conv => lhs; whnf
                      rcases Bool.eq_false_or_eq_true (ine (llen policy) 0) with hc40 | hc40
                      · rw [hc40]; replace hc40 := of_ine_t hc40; try simp only [llen_eq] at hc40
                        conv => lhs; whnf
                        rcases Bool.eq_false_or_eq_true (ine (llen policy) 32) with hc41 | hc41
                        · rw [hc41]; replace hc41 := of_ine_t hc41; try simp only [llen_eq] at hc41
                          conv => lhs; whnf
                          (try simp only [ibit_eq] at *); unfold chkP; dsimp only; (repeat (first | rw [if_pos (by omega)] | rw [if_neg (by omega)])); done
                        · rw [hc41]; replace hc41 := of_ine_f hc41; try simp only [llen_eq] at hc41
                          conv => lhs; whnf
                          rw [toReq_call]
                          rw [ev_asize _]
                          conv => lhs; whnf
                          rw [drw (by kernel_rfl)]; conv => lhs; whnf
                          rcases Bool.eq_false_or_eq_true (ine (llen unique) (uniq 2)) with hc42 | hc42
                          · rw [hc42]; replace hc42 := of_ine_t hc42; try simp only [llen_eq] at hc42
                            conv => lhs; whnf
                            (try simp only [ibit_eq] at *); unfold chkP; dsimp only; (repeat (first | rw [if_pos (by omega)] | rw [if_neg (by omega)])); done
                          · rw [hc42]; replace hc42 := of_ine_f hc42; try simp only [llen_eq] at hc42
                            conv => lhs; whnf
                            rw [Y_go]; conv => lhs; whnf
                            (try simp only [ibit_eq] at *); unfold chkP; dsimp only; (repeat (first | rw [if_pos (by omega)] | rw [if_neg (by omega)])); done
                      · rw [hc40]; replace hc40 := of_ine_f hc40; try simp only [llen_eq] at hc40
                        conv => lhs; whnf
                        rw [toReq_call]
                        rw [ev_asize _]
                        conv => lhs; whnf
                        rw [drw (by kernel_rfl)]; conv => lhs; whnf
                        rcases Bool.eq_false_or_eq_true (ine (llen unique) (uniq 2)) with hc43 | hc43
                        · rw [hc43]; replace hc43 := of_ine_t hc43; try simp only [llen_eq] at hc43
                          conv => lhs; whnf
                          (try simp only [ibit_eq] at *); unfold chkP; dsimp only; (repeat (first | rw [if_pos (by omega)] | rw [if_neg (by omega)])); done
                        · rw [hc43]; replace hc43 := of_ine_f hc43; try simp only [llen_eq] at hc43
                          conv => lhs; whnf
                          rw [Y_go]; conv => lhs; whnf
                          (try simp only [ibit_eq] at *); unfold chkP; dsimp only; (repeat (first | rw [if_pos (by omega)] | rw [if_neg (by omega)])); done
                    · rw [hc39]; replace hc39 := of_ieq_f hc39; try simp only [llen_eq] at hc39
                      conv => lhs; whnf
                      (try simp only [ibit_eq] at *); unfold chkP; dsimp only; (repeat (first | rw [if_pos (by omega)] | rw [if_neg (by omega)])); done
                  · rw [hc38]; replace hc38 := of_ine_f hc38; try simp only [llen_eq] at hc38
                    subst hc38
                    conv => lhs; whnf
                    rcases Bool.eq_false_or_eq_true (ine (llen policy) 0) with hc44 | hc44
                    · rw [hc44]; replace hc44 := of_ine_t hc44; try simp only [llen_eq] at hc44
                      conv => lhs; whnf
                      rcases Bool.eq_false_or_eq_true (ine (llen policy) 32) with hc45 | hc45
                      · rw [hc45]; replace hc45 := of_ine_t hc45; try simp only [llen_eq] at hc45
                        conv => lhs; whnf
                        (try simp only [ibit_eq] at *); unfold chkP; dsimp only; (repeat (first | rw [if_pos (by omega)] | rw [if_neg (by omega)])); done
                      · rw [hc45]; replace hc45 := of_ine_f hc45; try simp only [llen_eq] at hc45
                        conv => lhs; whnf
                        rw [toReq_call]
                        rw [ev_asize _]
                        conv => lhs; whnf
                        rw [drw (by kernel_rfl)]; conv => lhs; whnf
                        rcases Bool.eq_false_or_eq_true (ine (llen unique) (uniq kind)) with hc46 | hc46
                        · rw [hc46]; replace hc46 := of_ine_t hc46; try simp only [llen_eq] at hc46
                          conv => lhs; whnf
                          (try simp only [ibit_eq] at *); unfold chkP; dsimp only; (repeat (first | rw [if_pos (by omega)] | rw [if_neg (by omega)])); done
                        · rw [hc46]; replace hc46 := of_ine_f hc46; try simp only [llen_eq] at hc46
                          conv => lhs; whnf
                          rw [Y_go]; conv => lhs; whnf
                          (try simp only [ibit_eq] at *); unfold chkP; dsimp only; (repeat (first | rw [if_pos (by omega)] | rw [if_neg (by omega)])); done
                    · rw [hc44]; replace hc44 := of_ine_f hc44; try simp only [llen_eq] at hc44
                      conv => lhs; whnf
                      rw [toReq_call]
                      rw [ev_asize _]
                      conv => lhs; whnf
                      rw [drw (by kernel_rfl)]; conv => lhs; whnf
                      rcases Bool.eq_false_or_eq_true (ine (llen unique) (uniq kind)) with hc47 | hc47
                      · rw [hc47]; replace hc47 := of_ine_t hc47; try simp only [llen_eq] at hc47
                        conv => lhs; whnf
                        (try simp only [ibit_eq] at *); unfold chkP; dsimp only; (repeat (first | rw [if_pos (by omega)] | rw [if_neg (by omega)])); done
                      · rw [hc47]; replace hc47 := of_ine_f hc47; try simp only [llen_eq] at hc47
                        conv => lhs; whnf
                        rw [Y_go]; conv => lhs; whnf
                        (try simp only [ibit_eq] at *); unfold chkP; dsimp only; (repeat (first | rw [if_pos (by omega)] | rw [if_neg (by omega)])); done
theorem ev_r10check (kind attr height : Int) (policy unique : List UInt8) : Y E0 (.call 40 [.agg [.i kind, .i attr, .i height, .sl .u8 policy, .sl .u8 unique]] []) = some (.ret (.i (chkP ⟨kind, attr, height, policy, unique⟩)) []) := by
  rw [Y_go]; conv => lhs; whnf
  rcases Bool.eq_false_or_eq_true (ilt kind 1) with hc0 | hc0
  · rw [hc0]; replace hc0 := of_ilt_t hc0; try simp only [llen_eq] at hc0
    conv => lhs; whnf
    (try simp only [ibit_eq] at *); unfold chkP; dsimp only; (repeat (first | rw [if_pos (by omega)] | rw [if_neg (by omega)])); done
  · rw [hc0]; replace hc0 := of_ilt_f hc0; try simp only [llen_eq] at hc0
    conv => lhs; whnf
    rcases Bool.eq_false_or_eq_true (ilt 3 kind) with hc1 | hc1
    · rw [hc1]; replace hc1 := of_ilt_t hc1; try simp only [llen_eq] at hc1
      conv => lhs; whnf
      (try simp only [ibit_eq] at *); unfold chkP; dsimp only; (repeat (first | rw [if_pos (by omega)] | rw [if_neg (by omega)])); done
    · rw [hc1]; replace hc1 := of_ilt_f hc1; try simp only [llen_eq] at hc1
      conv => lhs; whnf
      rcases Bool.eq_false_or_eq_true (ilt attr 0) with hc2 | hc2
      · rw [hc2]; replace hc2 := of_ilt_t hc2; try simp only [llen_eq] at hc2
        conv => lhs; whnf
        (try simp only [ibit_eq] at *); unfold chkP; dsimp only; (repeat (first | rw [if_pos (by omega)] | rw [if_neg (by omega)])); done
      · rw [hc2]; replace hc2 := of_ilt_f hc2; try simp only [llen_eq] at hc2
        conv => lhs; whnf
        rcases Bool.eq_false_or_eq_true (ilt 7 attr) with hc3 | hc3
        · rw [hc3]; replace hc3 := of_ilt_t hc3; try simp only [llen_eq] at hc3
          conv => lhs; whnf
          (try simp only [ibit_eq] at *); unfold chkP; dsimp only; (repeat (first | rw [if_pos (by omega)] | rw [if_neg (by omega)])); done
        · rw [hc3]; replace hc3 := of_ilt_f hc3; try simp only [llen_eq] at hc3
          conv => lhs; whnf
          rcases Bool.eq_false_or_eq_true (ine (ibit BinOp.and attr 4) 0) with hc4 | hc4
          · rw [hc4]; replace hc4 := of_ine_t hc4; try simp only [llen_eq] at hc4
            conv => lhs; whnf
            rcases Bool.eq_false_or_eq_true (ine kind 2) with hc5 | hc5
            · rw [hc5]; replace hc5 := of_ine_t hc5; try simp only [llen_eq] at hc5
              conv => lhs; whnf
              rw [Y_go]; conv => lhs; whnf
              (try simp only [ibit_eq] at *); unfold chkP; dsimp only; (repeat (first | rw [if_pos (by omega)] | rw [if_neg (by omega)])); done
            · rw [hc5]; replace hc5 := of_ine_f hc5; try simp only [llen_eq] at hc5
              subst hc5
              conv => lhs; whnf
              rw [Y_go]; conv => lhs; whnf
              rcases Bool.eq_false_or_eq_true (ieq (ibit BinOp.and attr 1) 0) with hc6 | hc6
              · rw [hc6]; replace hc6 := of_ieq_t hc6; try simp only [llen_eq] at hc6
                conv => lhs; whnf
                rcases Bool.eq_false_or_eq_true (ieq (llen policy) 0) with hc7 | hc7
                · rw [hc7]; replace hc7 := of_ieq_t hc7; try simp only [llen_eq] at hc7
                  conv => lhs; whnf
                  (try simp only [ibit_eq] at *); unfold chkP; dsimp only; (repeat (first | rw [if_pos (by omega)] | rw [if_neg (by omega)])); done
                · rw [hc7]; replace hc7 := of_ieq_f hc7; try simp only [llen_eq] at hc7
                  conv => lhs; whnf
                  rcases Bool.eq_false_or_eq_true (ilt height 0) with hc8 | hc8
                  · rw [hc8]; replace hc8 := of_ilt_t hc8; try simp only [llen_eq] at hc8
                    conv => lhs; whnf
                    rw [Y_go]; conv => lhs; whnf
                    rw [drw (by kernel_rfl)]; conv => lhs; whnf
                    (try simp only [ibit_eq] at *); unfold chkP; dsimp only; (repeat (first | rw [if_pos (by omega)] | rw [if_neg (by omega)])); done
                  · rw [hc8]; replace hc8 := of_ilt_f hc8; try simp only [llen_eq] at hc8
                    conv => lhs; whnf
                    rcases Bool.eq_false_or_eq_true (ilt 3 height) with hc9 | hc9
                    · rw [hc9]; replace hc9 := of_ilt_t hc9; try simp only [llen_eq] at hc9
                      conv => lhs; whnf
                      rw [Y_go]; conv => lhs; whnf
                      rw [drw (by kernel_rfl)]; conv => lhs; whnf
                      (try simp only [ibit_eq] at *); unfold chkP; dsimp only; (repeat (first | rw [if_pos (by omega)] | rw [if_neg (by omega)])); done
                    · rw [hc9]; replace hc9 := of_ilt_f hc9; try simp only [llen_eq] at hc9
                      conv => lhs; whnf
                      rcases Bool.eq_false_or_eq_true (ine height 0) with hc10 | hc10
                      · rw [hc10]; replace hc10 := of_ine_t hc10; try simp only [llen_eq] at hc10
                        conv => lhs; whnf
                        rw [Y_go]; conv => lhs; whnf
                        rw [ine_f (by omega)]
                        conv => lhs; whnf
                        rw [ine_t (by (simp only [uintB_l2, uintB_l1, blobB_l, seedB_len, fillB_len, idxB_len, sha256_len, fr1_len, fr2_len, fr3_len, LL] at * <;> omega))]
                        conv => lhs; whnf
                        rcases Bool.eq_false_or_eq_true (ine (llen policy) 32) with hc11 | hc11
                        · rw [hc11]; replace hc11 := of_ine_t hc11; try simp only [llen_eq] at hc11
                          conv => lhs; whnf
                          rw [drw (by kernel_rfl)]; conv => lhs; whnf
                          (try simp only [ibit_eq] at *); unfold chkP; dsimp only; (repeat (first | rw [if_pos (by omega)] | rw [if_neg (by omega)])); done
                        · rw [hc11]; replace hc11 := of_ine_f hc11; try simp only [llen_eq] at hc11
                          conv => lhs; whnf
                          rw [toReq_call]
                          rw [ev_r10size _]
                          conv => lhs; whnf
                          rw [Y_go]; conv => lhs; whnf
                          rw [drw (by kernel_rfl)]; conv => lhs; whnf
                          rcases Bool.eq_false_or_eq_true (ine (llen unique) (uniq 2)) with hc12 | hc12
                          · rw [hc12]; replace hc12 := of_ine_t hc12; try simp only [llen_eq] at hc12
                            conv => lhs; whnf
                            (try simp only [ibit_eq] at *); unfold chkP; dsimp only; (repeat (first | rw [if_pos (by omega)] | rw [if_neg (by omega)])); done
                          · rw [hc12]; replace hc12 := of_ine_f hc12; try simp only [llen_eq] at hc12
                            conv => lhs; whnf
                            (try simp only [ibit_eq] at *); unfold chkP; dsimp only; (repeat (first | rw [if_pos (by omega)] | rw [if_neg (by omega)])); done
                      · rw [hc10]; replace hc10 := of_ine_f hc10; try simp only [llen_eq] at hc10
                        subst hc10
                        conv => lhs; whnf
                        rw [Y_go]; conv => lhs; whnf
                        rw [ine_t (by (simp only [uintB_l2, uintB_l1, blobB_l, seedB_len, fillB_len, idxB_len, sha256_len, fr1_len, fr2_len, fr3_len, LL] at * <;> omega))]
                        conv => lhs; whnf
                        rcases Bool.eq_false_or_eq_true (ine (llen policy) 32) with hc13 | hc13
                        · rw [hc13]; replace hc13 := of_ine_t hc13; try simp only [llen_eq] at hc13
                          conv => lhs; whnf
                          rw [drw (by kernel_rfl)]; conv => lhs; whnf
                          (try simp only [ibit_eq] at *); unfold chkP; dsimp only; (repeat (first | rw [if_pos (by omega)] | rw [if_neg (by omega)])); done
                        · rw [hc13]; replace hc13 := of_ine_f hc13; try simp only [llen_eq] at hc13
                          conv => lhs; whnf
                          rw [toReq_call]
                          rw [ev_r10size _]
                          conv => lhs; whnf
                          rw [drw (by kernel_rfl)]; conv => lhs; whnf
                          rw [Y_go]; conv => lhs; whnf
                          rcases Bool.eq_false_or_eq_true (ine (llen unique) (uniq 2)) with hc14 | hc14
                          · rw [hc14]; replace hc14 := of_ine_t hc14; try simp only [llen_eq] at hc14
                            conv => lhs; whnf
                            (try simp only [ibit_eq] at *); unfold chkP; dsimp only; (repeat (first | rw [if_pos (by omega)] | rw [if_neg (by omega)])); done
                          · rw [hc14]; replace hc14 := of_ine_f hc14; try simp only [llen_eq] at hc14
                            conv => lhs; whnf
                            (try simp only [ibit_eq] at *); unfold chkP; dsimp only; (repeat (first | rw [if_pos (by omega)] | rw [if_neg (by omega)])); done
              · rw [hc6]; replace hc6 := of_ieq_f hc6; try simp only [llen_eq] at hc6
                conv => lhs; whnf
                rcases Bool.eq_false_or_eq_true (ilt height 0) with hc15 | hc15
                · rw [hc15]; replace hc15 := of_ilt_t hc15; try simp only [llen_eq] at hc15
                  conv => lhs; whnf
                  rw [Y_go]; conv => lhs; whnf
                  rw [drw (by kernel_rfl)]; conv => lhs; whnf
                  (try simp only [ibit_eq] at *); unfold chkP; dsimp only; (repeat (first | rw [if_pos (by omega)] | rw [if_neg (by omega)])); done
                · rw [hc15]; replace hc15 := of_ilt_f hc15; try simp only [llen_eq] at hc15
                  conv => lhs; whnf
                  rcases Bool.eq_false_or_eq_true (ilt 3 height) with hc16 | hc16
                  · rw [hc16]; replace hc16 := of_ilt_t hc16; try simp only [llen_eq] at hc16
                    conv => lhs; whnf
                    rw [Y_go]; conv => lhs; whnf
                    rw [drw (by kernel_rfl)]; conv => lhs; whnf
                    (try simp only [ibit_eq] at *); unfold chkP; dsimp only; (repeat (first | rw [if_pos (by omega)] | rw [if_neg (by omega)])); done
                  · rw [hc16]; replace hc16 := of_ilt_f hc16; try simp only [llen_eq] at hc16
                    conv => lhs; whnf
                    rcases Bool.eq_false_or_eq_true (ine height 0) with hc17 | hc17
                    · rw [hc17]; replace hc17 := of_ine_t hc17; try simp only [llen_eq] at hc17
                      conv => lhs; whnf
                      rw [Y_go]; conv => lhs; whnf
                      rw [ine_f (by omega)]
                      conv => lhs; whnf
                      rcases Bool.eq_false_or_eq_true (ine (llen policy) 0) with hc18 | hc18
                      · rw [hc18]; replace hc18 := of_ine_t hc18; try simp only [llen_eq] at hc18
                        conv => lhs; whnf
                        rcases Bool.eq_false_or_eq_true (ine (llen policy) 32) with hc19 | hc19
                        · rw [hc19]; replace hc19 := of_ine_t hc19; try simp only [llen_eq] at hc19
                          conv => lhs; whnf
                          rw [drw (by kernel_rfl)]; conv => lhs; whnf
                          (try simp only [ibit_eq] at *); unfold chkP; dsimp only; (repeat (first | rw [if_pos (by omega)] | rw [if_neg (by omega)])); done
                        · rw [hc19]; replace hc19 := of_ine_f hc19; try simp only [llen_eq] at hc19
                          conv => lhs; whnf
                          rw [toReq_call]
                          rw [ev_r10size _]
                          conv => lhs; whnf
                          rw [drw (by kernel_rfl)]; conv => lhs; whnf
                          rw [Y_go]; conv => lhs; whnf
                          rcases Bool.eq_false_or_eq_true (ine (llen unique) (uniq 2)) with hc20 | hc20
                          · rw [hc20]; replace hc20 := of_ine_t hc20; try simp only [llen_eq] at hc20
                            conv => lhs; whnf
                            (try simp only [ibit_eq] at *); unfold chkP; dsimp only; (repeat (first | rw [if_pos (by omega)] | rw [if_neg (by omega)])); done
                          · rw [hc20]; replace hc20 := of_ine_f hc20; try simp only [llen_eq] at hc20
                            conv => lhs; whnf
                            (try simp only [ibit_eq] at *); unfold chkP; dsimp only; (repeat (first | rw [if_pos (by omega)] | rw [if_neg (by omega)])); done
                      · rw [hc18]; replace hc18 := of_ine_f hc18; try simp only [llen_eq] at hc18
                        conv => lhs; whnf
                        rw [toReq_call]
                        rw [ev_r10size _]
                        conv => lhs; whnf
                        rw [drw (by kernel_rfl)]; conv => lhs; whnf
                        rcases Bool.eq_false_or_eq_true (ine (llen unique) (uniq 2)) with hc21 | hc21
                        · rw [hc21]; replace hc21 := of_ine_t hc21; try simp only [llen_eq] at hc21
                          conv => lhs; whnf
                          (try simp only [ibit_eq] at *); unfold chkP; dsimp only; (repeat (first | rw [if_pos (by omega)] | rw [if_neg (by omega)])); done
                        · rw [hc21]; replace hc21 := of_ine_f hc21; try simp only [llen_eq] at hc21
                          conv => lhs; whnf
                          (try simp only [ibit_eq] at *); unfold chkP; dsimp only; (repeat (first | rw [if_pos (by omega)] | rw [if_neg (by omega)])); done
                    · rw [hc17]; replace hc17 := of_ine_f hc17; try simp only [llen_eq] at hc17
                      subst hc17
                      conv => lhs; whnf
                      rw [Y_go]; conv => lhs; whnf
                      rcases Bool.eq_false_or_eq_true (ine (llen policy) 0) with hc22 | hc22
                      · rw [hc22]; replace hc22 := of_ine_t hc22; try simp only [llen_eq] at hc22
                        conv => lhs; whnf
                        rcases Bool.eq_false_or_eq_true (ine (llen policy) 32) with hc23 | hc23
                        · rw [hc23]; replace hc23 := of_ine_t hc23; try simp only [llen_eq] at hc23
                          conv => lhs; whnf
                          rw [drw (by kernel_rfl)]; conv => lhs; whnf
                          (try simp only [ibit_eq] at *); unfold chkP; dsimp only; (repeat (first | rw [if_pos (by omega)] | rw [if_neg (by omega)])); done
                        · rw [hc23]; replace hc23 := of_ine_f hc23; try simp only [llen_eq] at hc23
                          conv => lhs; whnf
                          rw [toReq_call]
                          rw [ev_r10size _]
                          conv => lhs; whnf
                          rw [drw (by kernel_rfl)]; conv => lhs; whnf
                          rcases Bool.eq_false_or_eq_true (ine (llen unique) (uniq 2)) with hc24 | hc24
                          · rw [hc24]; replace hc24 := of_ine_t hc24; try simp only [llen_eq] at hc24
                            conv => lhs; whnf
                            (try simp only [ibit_eq] at *); unfold chkP; dsimp only; (repeat (first | rw [if_pos (by omega)] | rw [if_neg (by omega)])); done
                          · rw [hc24]; replace hc24 := of_ine_f hc24; try simp only [llen_eq] at hc24
                            conv => lhs; whnf
                            rw [Y_go]; conv => lhs; whnf
                            (try simp only [ibit_eq] at *); unfold chkP; dsimp only; (repeat (first | rw [if_pos (by omega)] | rw [if_neg (by omega)])); done
                      · rw [hc22]; replace hc22 := of_ine_f hc22; try simp only [llen_eq] at hc22
                        conv => lhs; whnf
                        rw [toReq_call]
                        rw [ev_r10size _]
                        conv => lhs; whnf
                        rw [drw (by kernel_rfl)]; conv => lhs; whnf
                        rcases Bool.eq_false_or_eq_true (ine (llen unique) (uniq 2)) with hc25 | hc25
                        · rw [hc25]; replace hc25 := of_ine_t hc25; try simp only [llen_eq] at hc25
                          conv => lhs; whnf
                          (try simp only [ibit_eq] at *); unfold chkP; dsimp only; (repeat (first | rw [if_pos (by omega)] | rw [if_neg (by omega)])); done
                        · rw [hc25]; replace hc25 := of_ine_f hc25; try simp only [llen_eq] at hc25
                          conv => lhs; whnf
                          (try simp only [ibit_eq] at *); unfold chkP; dsimp only; (repeat (first | rw [if_pos (by omega)] | rw [if_neg (by omega)])); done
          · rw [hc4]; replace hc4 := of_ine_f hc4; try simp only [llen_eq] at hc4
            conv => lhs; whnf
            rw [Y_go]; conv => lhs; whnf
            rcases Bool.eq_false_or_eq_true (ieq (ibit BinOp.and attr 1) 0) with hc26 | hc26
            · rw [hc26]; replace hc26 := of_ieq_t hc26; try simp only [llen_eq] at hc26
              conv => lhs; whnf
              rcases Bool.eq_false_or_eq_true (ieq (llen policy) 0) with hc27 | hc27
              · rw [hc27]; replace hc27 := of_ieq_t hc27; try simp only [llen_eq] at hc27
                conv => lhs; whnf
                (try simp only [ibit_eq] at *); unfold chkP; dsimp only; (repeat (first | rw [if_pos (by omega)] | rw [if_neg (by omega)])); done
              · rw [hc27]; replace hc27 := of_ieq_f hc27; try simp only [llen_eq] at hc27
                conv => lhs; whnf
                rcases Bool.eq_false_or_eq_true (ilt height 0) with hc28 | hc28
                · rw [hc28]; replace hc28 := of_ilt_t hc28; try simp only [llen_eq] at hc28
                  conv => lhs; whnf
                  rw [Y_go]; conv => lhs; whnf
                  rw [drw (by kernel_rfl)]; conv => lhs; whnf
                  (try simp only [ibit_eq] at *); unfold chkP; dsimp only; (repeat (first | rw [if_pos (by omega)] | rw [if_neg (by omega)])); done
                · rw [hc28]; replace hc28 := of_ilt_f hc28; try simp only [llen_eq] at hc28
                  conv => lhs; whnf
                  rcases Bool.eq_false_or_eq_true (ilt 3 height) with hc29 | hc29
                  · rw [hc29]; replace hc29 := of_ilt_t hc29; try simp only [llen_eq] at hc29
                    conv => lhs; whnf
                    rw [Y_go]; conv => lhs; whnf
                    rw [drw (by kernel_rfl)]; conv => lhs; whnf
                    (try simp only [ibit_eq] at *); unfold chkP; dsimp only; (repeat (first | rw [if_pos (by omega)] | rw [if_neg (by omega)])); done
                  · rw [hc29]; replace hc29 := of_ilt_f hc29; try simp only [llen_eq] at hc29
                    conv => lhs; whnf
                    rcases Bool.eq_false_or_eq_true (ine height 0) with hc30 | hc30
                    · rw [hc30]; replace hc30 := of_ine_t hc30; try simp only [llen_eq] at hc30
                      conv => lhs; whnf
                      rw [Y_go]; conv => lhs; whnf
                      rcases Bool.eq_false_or_eq_true (ine kind 2) with hc31 | hc31
                      · rw [hc31]; replace hc31 := of_ine_t hc31; try simp only [llen_eq] at hc31
                        conv => lhs; whnf
                        rw [drw (by kernel_rfl)]; conv => lhs; whnf
                        (try simp only [ibit_eq] at *); unfold chkP; dsimp only; (repeat (first | rw [if_pos (by omega)] | rw [if_neg (by omega)])); done
                      · rw [hc31]; replace hc31 := of_ine_f hc31; try simp only [llen_eq] at hc31
                        subst hc31
                        conv => lhs; whnf
                        rw [ine_t (by (simp only [uintB_l2, uintB_l1, blobB_l, seedB_len, fillB_len, idxB_len, sha256_len, fr1_len, fr2_len, fr3_len, LL] at * <;> omega))]
                        conv => lhs; whnf
                        rcases Bool.eq_false_or_eq_true (ine (llen policy) 32) with hc32 | hc32
                        · rw [hc32]; replace hc32 := of_ine_t hc32; try simp only [llen_eq] at hc32
                          conv => lhs; whnf
                          rw [drw (by kernel_rfl)]; conv => lhs; whnf
                          (try simp only [ibit_eq] at *); unfold chkP; dsimp only; (repeat (first | rw [if_pos (by omega)] | rw [if_neg (by omega)])); done
                        · rw [hc32]; replace hc32 := of_ine_f hc32; try simp only [llen_eq] at hc32
                          conv => lhs; whnf
                          rw [toReq_call]
                          rw [ev_r10size _]
                          conv => lhs; whnf
                          rw [drw (by kernel_rfl)]; conv => lhs; whnf
                          rw [Y_go]; conv => lhs; whnf
                          rcases Bool.eq_false_or_eq_true (ine (llen unique) (uniq 2)) with hc33 | hc33
                          · rw [hc33]; replace hc33 := of_ine_t hc33; try simp only [llen_eq] at hc33
                            conv => lhs; whnf
                            (try simp only [ibit_eq] at *); unfold chkP; dsimp only; (repeat (first | rw [if_pos (by omega)] | rw [if_neg (by omega)])); done
                          · rw [hc33]; replace hc33 := of_ine_f hc33; try simp only [llen_eq] at hc33
                            conv => lhs; whnf
                            (try simp only [ibit_eq] at *); unfold chkP; dsimp only; (repeat (first | rw [if_pos (by omega)] | rw [if_neg (by omega)])); done
                    · rw [hc30]; replace hc30 := of_ine_f hc30; try simp only [llen_eq] at hc30
                      subst hc30
                      conv => lhs; whnf
                      rw [Y_go]; conv => lhs; whnf
                      rw [ine_t (by (simp only [uintB_l2, uintB_l1, blobB_l, seedB_len, fillB_len, idxB_len, sha256_len, fr1_len, fr2_len, fr3_len, LL] at * <;> omega))]
                      conv => lhs; whnf
                      rcases Bool.eq_false_or_eq_true (ine (llen policy) 32) with hc34 | hc34
                      · rw [hc34]; replace hc34 := of_ine_t hc34; try simp only [llen_eq] at hc34
                        conv => lhs; whnf
                        rw [drw (by kernel_rfl)]; conv => lhs; whnf
                        (try simp only [ibit_eq] at *); unfold chkP; dsimp only; (repeat (first | rw [if_pos (by omega)] | rw [if_neg (by omega)])); done
                      · rw [hc34]; replace hc34 := of_ine_f hc34; try simp only [llen_eq] at hc34
                        conv => lhs; whnf
                        rw [toReq_call]
                        rw [ev_r10size _]
                        conv => lhs; whnf
                        rw [drw (by kernel_rfl)]; conv => lhs; whnf
                        rcases Bool.eq_false_or_eq_true (ine (llen unique) (uniq kind)) with hc35 | hc35
                        · rw [hc35]; replace hc35 := of_ine_t hc35; try simp only [llen_eq] at hc35
                          conv => lhs; whnf
                          rw [Y_go]; conv => lhs; whnf
                          (try simp only [ibit_eq] at *); unfold chkP; dsimp only; (repeat (first | rw [if_pos (by omega)] | rw [if_neg (by omega)])); done
                        · rw [hc35]; replace hc35 := of_ine_f hc35; try simp only [llen_eq] at hc35
                          conv => lhs; whnf
                          rw [Y_go]; conv => lhs; whnf
                          (try simp only [ibit_eq] at *); unfold chkP; dsimp only; (repeat (first | rw [if_pos (by omega)] | rw [if_neg (by omega)])); done
            · rw [hc26]; replace hc26 := of_ieq_f hc26; try simp only [llen_eq] at hc26
              conv => lhs; whnf
              rcases Bool.eq_false_or_eq_true (ilt height 0) with hc36 | hc36
              · rw [hc36]; replace hc36 := of_ilt_t hc36; try simp only [llen_eq] at hc36
                conv => lhs; whnf
                rw [Y_go]; conv => lhs; whnf
                rw [drw (by kernel_rfl)]; conv => lhs; whnf
                (try simp only [ibit_eq] at *); unfold chkP; dsimp only; (repeat (first | rw [if_pos (by omega)] | rw [if_neg (by omega)])); done
              · rw [hc36]; replace hc36 := of_ilt_f hc36; try simp only [llen_eq] at hc36
                conv => lhs; whnf
                rcases Bool.eq_false_or_eq_true (ilt 3 height) with hc37 | hc37
                · rw [hc37]; replace hc37 := of_ilt_t hc37; try simp only [llen_eq] at hc37
                  conv => lhs; whnf
                  rw [Y_go]; conv => lhs; whnf
                  rw [drw (by kernel_rfl)]; conv => lhs; whnf
                  (try simp only [ibit_eq] at *); unfold chkP; dsimp only; (repeat (first | rw [if_pos (by omega)] | rw [if_neg (by omega)])); done
                · rw [hc37]; replace hc37 := of_ilt_f hc37; try simp only [llen_eq] at hc37
                  conv => lhs; whnf
                  rcases Bool.eq_false_or_eq_true (ine height 0) with hc38 | hc38
                  · rw [hc38]; replace hc38 := of_ine_t hc38; try simp only [llen_eq] at hc38
                    conv => lhs; whnf
                    rcases Bool.eq_false_or_eq_true (ine kind 2) with hc39 | hc39
                    · rw [hc39]; replace hc39 := of_ine_t hc39; try simp only [llen_eq] at hc39
                      conv => lhs; whnf
                      rw [Y_go]; conv => lhs; whnf
                      rw [drw (by kernel_rfl)]; conv => lhs; whnf
                      (try simp only [ibit_eq] at *); unfold chkP; dsimp only; (repeat (first | rw [if_pos (by omega)] | rw [if_neg (by omega)])); done
                    · rw [hc39]; replace hc39 := of_ine_f hc39; try simp only [llen_eq] at hc39
                      subst hc39
                      conv => lhs; whnf
                      rw [Y_go]; conv => lhs; whnf
                      rcases Bool.eq_false_or_eq_true (ine (llen policy) 0) with hc40 | hc40
                      · rw [hc40]; replace hc40 := of_ine_t hc40; try simp only [llen_eq] at hc40
                        conv => lhs; whnf
                        rcases Bool.eq_false_or_eq_true (ine (llen policy) 32) with hc41 | hc41
                        · rw [hc41]; replace hc41 := of_ine_t hc41; try simp only [llen_eq] at hc41
                          conv => lhs; whnf
                          rw [drw (by kernel_rfl)]; conv => lhs; whnf
                          (try simp only [ibit_eq] at *); unfold chkP; dsimp only; (repeat (first | rw [if_pos (by omega)] | rw [if_neg (by omega)])); done
                        · rw [hc41]; replace hc41 := of_ine_f hc41; try simp only [llen_eq] at hc41
                          conv => lhs; whnf
                          rw [toReq_call]
                          rw [ev_r10size _]
                          conv => lhs; whnf
                          rw [drw (by kernel_rfl)]; conv => lhs; whnf
                          rcases Bool.eq_false_or_eq_true (ine (llen unique) (uniq 2)) with hc42 | hc42
                          · rw [hc42]; replace hc42 := of_ine_t hc42; try simp only [llen_eq] at hc42
                            conv => lhs; whnf
                            (try simp only [ibit_eq] at *); unfold chkP; dsimp only; (repeat (first | rw [if_pos (by omega)] | rw [if_neg (by omega)])); done
                          · rw [hc42]; replace hc42 := of_ine_f hc42; try simp only [llen_eq] at hc42
                            conv => lhs; whnf
                            rw [Y_go]; conv => lhs; whnf
                            (try simp only [ibit_eq] at *); unfold chkP; dsimp only; (repeat (first | rw [if_pos (by omega)] | rw [if_neg (by omega)])); done
                      · rw [hc40]; replace hc40 := of_ine_f hc40; try simp only [llen_eq] at hc40
                        conv => lhs; whnf
                        rw [toReq_call]
                        rw [ev_r10size _]
                        conv => lhs; whnf
                        rw [drw (by kernel_rfl)]; conv => lhs; whnf
                        rcases Bool.eq_false_or_eq_true (ine (llen unique) (uniq 2)) with hc43 | hc43
                        · rw [hc43]; replace hc43 := of_ine_t hc43; try simp only [llen_eq] at hc43
                          conv => lhs; whnf
                          (try simp only [ibit_eq] at *); unfold chkP; dsimp only; (repeat (first | rw [if_pos (by omega)] | rw [if_neg (by omega)])); done
                        · rw [hc43]; replace hc43 := of_ine_f hc43; try simp only [llen_eq] at hc43
                          conv => lhs; whnf
                          (try simp only [ibit_eq] at *); unfold chkP; dsimp only; (repeat (first | rw [if_pos (by omega)] | rw [if_neg (by omega)])); done
                  · rw [hc38]; replace hc38 := of_ine_f hc38; try simp only [llen_eq] at hc38
                    subst hc38
                    conv => lhs; whnf
                    rw [Y_go]; conv => lhs; whnf
                    rcases Bool.eq_false_or_eq_true (ine (llen policy) 0) with hc44 | hc44
                    · rw [hc44]; replace hc44 := of_ine_t hc44; try simp only [llen_eq] at hc44
                      conv => lhs; whnf
                      rcases Bool.eq_false_or_eq_true (ine (llen policy) 32) with hc45 | hc45
                      · rw [hc45]; replace hc45 := of_ine_t hc45; try simp only [llen_eq] at hc45
                        conv => lhs; whnf
                        rw [drw (by kernel_rfl)]; conv => lhs; whnf
                        (try simp only [ibit_eq] at *); unfold chkP; dsimp only; (repeat (first | rw [if_pos (by omega)] | rw [if_neg (by omega)])); done
                      · rw [hc45]; replace hc45 := of_ine_f hc45; try simp only [llen_eq] at hc45
                        conv => lhs; whnf
                        rw [toReq_call]
                        rw [ev_r10size _]
                        conv => lhs; whnf
                        rw [drw (by kernel_rfl)]; conv => lhs; whnf
                        rcases Bool.eq_false_or_eq_true (ine (llen unique) (uniq kind)) with hc46 | hc46
                        · rw [hc46]; replace hc46 := of_ine_t hc46; try simp only [llen_eq] at hc46
                          conv => lhs; whnf
                          (try simp only [ibit_eq] at *); unfold chkP; dsimp only; (repeat (first | rw [if_pos (by omega)] | rw [if_neg (by omega)])); done
                        · rw [hc46]; replace hc46 := of_ine_f hc46; try simp only [llen_eq] at hc46
                          conv => lhs; whnf
                          (try simp only [ibit_eq] at *); unfold chkP; dsimp only; (repeat (first | rw [if_pos (by omega)] | rw [if_neg (by omega)])); done
                    · rw [hc44]; replace hc44 := of_ine_f hc44; try simp only [llen_eq] at hc44
                      conv => lhs; whnf
                      rw [toReq_call]
                      rw [ev_r10size _]
                      conv => lhs; whnf
                      rw [drw (by kernel_rfl)]; conv => lhs; whnf
                      rcases Bool.eq_false_or_eq_true (ine (llen unique) (uniq kind)) with hc47 | hc47
                      · rw [hc47]; replace hc47 := of_ine_t hc47; try simp only [llen_eq] at hc47
                        conv => lhs; whnf
                        (try simp only [ibit_eq] at *); unfold chkP; dsimp only; (repeat (first | rw [if_pos (by omega)] | rw [if_neg (by omega)])); done
                      · rw [hc47]; replace hc47 := of_ine_f hc47; try simp only [llen_eq] at hc47
                        conv => lhs; whnf
                        (try simp only [ibit_eq] at *); unfold chkP; dsimp only; (repeat (first | rw [if_pos (by omega)] | rw [if_neg (by omega)])); done
theorem ev_aenc (kind attr height : Int) (policy unique : List UInt8) (hp : policy.length ≤ 1000000) (hu : unique.length ≤ 1000000) : Y E0 (.call 41 [.agg [.i kind, .i attr, .i height, .sl .u8 policy, .sl .u8 unique]] []) = some (.ret (.sl .u8 (encP ⟨kind, attr, height, policy, unique⟩)) []) := by
  rw [Y_go]; conv => lhs; whnf
  rw [toReq_call]
  rw [ev_blob _ _ (by (simp only [uintB_l2, uintB_l1, blobB_l, seedB_len, fillB_len, idxB_len, sha256_len, fr1_len, fr2_len, fr3_len, LL] at * <;> omega))]
  conv => lhs; whnf
  rw [toReq_call]
  rw [ev_blob _ _ (by (simp only [uintB_l2, uintB_l1, blobB_l, seedB_len, fillB_len, idxB_len, sha256_len, fr1_len, fr2_len, fr3_len, LL] at * <;> omega))]
  conv => lhs; whnf
  rw [drw (by kernel_rfl)]; conv => lhs; whnf
  (simp only [iu8_eq]; rfl)
theorem ev_r10enc (kind attr height : Int) (policy unique : List UInt8) (hp : policy.length ≤ 1000000) (hu : unique.length ≤ 1000000) : Y E0 (.call 43 [.agg [.i kind, .i attr, .i height, .sl .u8 policy, .sl .u8 unique]] []) = some (.ret (.nm 0) [some (.row 5 .u8 (encP ⟨kind, attr, height, policy, unique⟩))]) := by
  rw [Y_go]; conv => lhs; whnf
  rw [toReq_call]
  rw [ev_r3blob _ _ (by (simp only [uintB_l2, uintB_l1, blobB_l, seedB_len, fillB_len, idxB_len, sha256_len, fr1_len, fr2_len, fr3_len, LL] at * <;> omega))]
  conv => lhs; whnf
  rw [toReq_call]
  rw [ev_r3blob _ _ (by (simp only [uintB_l2, uintB_l1, blobB_l, seedB_len, fillB_len, idxB_len, sha256_len, fr1_len, fr2_len, fr3_len, LL] at * <;> omega))]
  conv => lhs; whnf
  rw [drw (by kernel_rfl)]; conv => lhs; whnf
  (simp only [iu8_eq]; rfl)
theorem ev_r10dec (b : List UInt8) (hb : b.length ≤ 4294967296) : Y E0 (.call 45 [.sl .u8 b] []) = some (.ret (.tup [.agg (pubX (decP b).1), .i (decP b).2]) []) := by
  rw [Y_go]; conv => lhs; whnf
  rw [toReq_call]
  rw [ev_r3new _]
  conv => lhs; whnf
  rw [toReq_call]
  rw [show Y E0 (.call 75 [.pa 0 0, .i 1] [.var [.sl .u8 b, .i 0, .i 0]]) = _ from ev_r3ruint b 0 0 1 hb (Nat.zero_le _)]; generalize g0 : rdU b 0 0 1 = x0; obtain ⟨v0, p0, er0⟩ := x0; have k0 : p0 ≤ b.length := (by have := rdU_le (b := b) (at' := 0) (e := 0) (size := 1) (Nat.zero_le _); rw [g0] at this; exact this)
  conv => lhs; whnf
  rw [toReq_call]
  rw [ev_r3ruint b p0 er0 1 hb k0]; generalize g1 : rdU b p0 er0 1 = x1; obtain ⟨v1, p1, er1⟩ := x1; have k1 : p1 ≤ b.length := (by have := rdU_le (b := b) (at' := p0) (e := er0) (size := 1) k0; rw [g1] at this; exact this)
  conv => lhs; whnf
  rw [toReq_call]
  rw [ev_r3ruint b p1 er1 1 hb k1]; generalize g2 : rdU b p1 er1 1 = x2; obtain ⟨v2, p2, er2⟩ := x2; have k2 : p2 ≤ b.length := (by have := rdU_le (b := b) (at' := p1) (e := er1) (size := 1) k1; rw [g2] at this; exact this)
  conv => lhs; whnf
  rw [toReq_call]
  rw [ev_r3rblob b p2 er2 32 hb k2]; generalize g3 : rdB b p2 er2 32 = x3; obtain ⟨v3, p3, er3⟩ := x3; have k3 : p3 ≤ b.length := (by have := rdB_le (b := b) (at' := p2) (e := er2) (most := 32) k2; rw [g3] at this; exact this); have l3 : v3.length ≤ b.length := (by have := rdB_len (b := b) (at' := p2) (e := er2) (most := 32); rw [g3] at this; exact this); have m3 : v3.length ≤ 32 := (by have := rdB_most (b := b) (at' := p2) (e := er2) (most := 32) (by decide); rw [g3] at this; simp only at this; omega)
  conv => lhs; whnf
  rw [toReq_call]
  rw [ev_r3rblob b p3 er3 32 hb k3]; generalize g4 : rdB b p3 er3 32 = x4; obtain ⟨v4, p4, er4⟩ := x4; have k4 : p4 ≤ b.length := (by have := rdB_le (b := b) (at' := p3) (e := er3) (most := 32) k3; rw [g4] at this; exact this); have l4 : v4.length ≤ b.length := (by have := rdB_len (b := b) (at' := p3) (e := er3) (most := 32); rw [g4] at this; exact this); have m4 : v4.length ≤ 32 := (by have := rdB_most (b := b) (at' := p3) (e := er3) (most := 32) (by decide); rw [g4] at this; simp only at this; omega)
  conv => lhs; whnf
  rw [toReq_call]
  rw [ev_r3end _ _ _ (by omega) (by omega)]
  conv => lhs; whnf
  rcases Bool.eq_false_or_eq_true (ieq (rdE b (v4, p4, er4).snd.fst (v4, p4, er4).snd.snd) 0) with hc0 | hc0
  · rw [hc0]; replace hc0 := of_ieq_t hc0; try simp only [llen_eq] at hc0
    conv => lhs; whnf
    rw [toReq_call]
    rw [ev_r10check _ _ _ _ _]
    conv => lhs; whnf
    rw [Y_go]; conv => lhs; whnf
    rcases Bool.eq_false_or_eq_true (ine (chkP { kind := ((v0, p0, er0).fst, (v1, p1, er1).fst, (v2, p2, er2).fst, (v3, p3, er3).fst, (v4, p4, er4).fst).fst, attr := ((v0, p0, er0).fst, (v1, p1, er1).fst, (v2, p2, er2).fst, (v3, p3, er3).fst, (v4, p4, er4).fst).snd.fst, height := ((v0, p0, er0).fst, (v1, p1, er1).fst, (v2, p2, er2).fst, (v3, p3, er3).fst, (v4, p4, er4).fst).snd.snd.fst, policy := ((v0, p0, er0).fst, (v1, p1, er1).fst, (v2, p2, er2).fst, (v3, p3, er3).fst, (v4, p4, er4).fst).snd.snd.snd.fst, unique := ((v0, p0, er0).fst, (v1, p1, er1).fst, (v2, p2, er2).fst, (v3, p3, er3).fst, (v4, p4, er4).fst).snd.snd.snd.snd }) 0) with hc1 | hc1
    · rw [hc1]; replace hc1 := of_ine_t hc1; try simp only [llen_eq] at hc1
      conv => lhs; whnf
      rw [decP_of g0 g1 g2 g3 g4]; (repeat (first | rw [if_pos (by first | omega | decide | assumption | (simp only [uintB_l2, uintB_l1, blobB_l, seedB_len, fillB_len, idxB_len, sha256_len, fr1_len, fr2_len, fr3_len, LL] at * <;> omega) | (simp; omega))] | rw [if_neg (by first | omega | decide | assumption | (simp only [uintB_l2, uintB_l1, blobB_l, seedB_len, fillB_len, idxB_len, sha256_len, fr1_len, fr2_len, fr3_len, LL] at * <;> omega) | (simp; omega))])); rfl
    · rw [hc1]; replace hc1 := of_ine_f hc1; try simp only [llen_eq] at hc1
      conv => lhs; whnf
      rw [decP_of g0 g1 g2 g3 g4]; (repeat (first | rw [if_pos (by first | omega | decide | assumption | (simp only [uintB_l2, uintB_l1, blobB_l, seedB_len, fillB_len, idxB_len, sha256_len, fr1_len, fr2_len, fr3_len, LL] at * <;> omega) | (simp; omega))] | rw [if_neg (by first | omega | decide | assumption | (simp only [uintB_l2, uintB_l1, blobB_l, seedB_len, fillB_len, idxB_len, sha256_len, fr1_len, fr2_len, fr3_len, LL] at * <;> omega) | (simp; omega))])); done
  · rw [hc0]; replace hc0 := of_ieq_f hc0; try simp only [llen_eq] at hc0
    conv => lhs; whnf
    rw [Y_go]; conv => lhs; whnf
    rw [ine_t (by omega)]
    conv => lhs; whnf
    rw [decP_of g0 g1 g2 g3 g4]; (repeat (first | rw [if_pos (by first | omega | decide | assumption | (simp only [uintB_l2, uintB_l1, blobB_l, seedB_len, fillB_len, idxB_len, sha256_len, fr1_len, fr2_len, fr3_len, LL] at * <;> omega) | (simp; omega))] | rw [if_neg (by first | omega | decide | assumption | (simp only [uintB_l2, uintB_l1, blobB_l, seedB_len, fillB_len, idxB_len, sha256_len, fr1_len, fr2_len, fr3_len, LL] at * <;> omega) | (simp; omega))])); rfl
theorem ev_adec_l1 (b : List UInt8) {v0 v1 v2 er0 er1 er2 : Int} {p0 p1 p2 : Nat} (hb : b.length ≤ 4294967296) (g0 : rdU b 0 0 1 = (v0, p0, er0)) (g1 : rdU b p0 er0 1 = (v1, p1, er1)) (g2 : rdU b p1 er1 1 = (v2, p2, er2)) :
    Y E0 (.loop 42 0 0 4 [(2, .pa 0 0), (4, .pa 1 0), (5, .pa 2 0), (17, .nm 3), (18, .i 3), (19, .i 0)] [(0, some (.var [.i 0, .i 0, .i 0, .nil, .nil])), (1, some (.var [.sl .u8 b, .i 0, .i 0])), (2, some (.var [.i 0, .i 0, .i 0, .nil, .nil])), (3, some (.rowA 86 1 3 [.pa 2 0, .pa 2 1, .pa 2 2]))]) = some (.fin (.exit 0) 3 [(2, .pa 0 0), (4, .pa 1 0), (5, .pa 2 0)] [(0, some (.var [.i 0, .i 0, .i 0, .nil, .nil])), (1, some (.var [.sl .u8 b, .i p2, .i er2])), (2, some (.var [.i v0, .i v1, .i v2, .nil, .nil]))]) := by
  have k0 : p0 ≤ b.length := by have := rdU_le (b := b) (at' := 0) (e := 0) (size := 1) (Nat.zero_le _); rw [g0] at this; exact this
  have k1 : p1 ≤ b.length := by have := rdU_le (b := b) (at' := p0) (e := er0) (size := 1) k0; rw [g1] at this; exact this
  have k2 : p2 ≤ b.length := by have := rdU_le (b := b) (at' := p1) (e := er1) (size := 1) k1; rw [g2] at this; exact this
  rw [Y_go]; conv => lhs; whnf
  rw [ilt_t (by omega)]
  conv => lhs; whnf
  rw [ile_t (by omega)]
  conv => lhs; whnf
  rw [ilt_t (by omega)]
  conv => lhs; whnf
  rw [toReq_call]
  rw [show Y E0 (.call 71 [.pa 0 0, .i 1] [.var [.sl .u8 b, .i 0, .i 0]]) = _ from ev_ruint b 0 0 1 hb (Nat.zero_le _), g0]
  conv => lhs; whnf
  rw [iadd_eq (by omega)]
  rw [Y_go]; conv => lhs; whnf
  rw [ilt_t (by omega)]
  conv => lhs; whnf
  rw [ile_t (by omega)]
  conv => lhs; whnf
  rw [ilt_t (by omega)]
  conv => lhs; whnf
  rw [toReq_call]
  rw [ev_ruint b p0 er0 1 hb k0, g1]
  conv => lhs; whnf
  rw [iadd_eq (by omega)]
  rw [Y_go]; conv => lhs; whnf
  rw [ilt_t (by omega)]
  conv => lhs; whnf
  rw [ile_t (by omega)]
  conv => lhs; whnf
  rw [ilt_t (by omega)]
  conv => lhs; whnf
  rw [toReq_call]
  rw [ev_ruint b p1 er1 1 hb k1, g2]
  conv => lhs; whnf
  rw [iadd_eq (by omega)]
  rw [Y_go]; conv => lhs; whnf
  rw [ilt_f (by omega)]
  conv => lhs; whnf
theorem ev_adec_l2 (b : List UInt8) (v0 v1 v2 : Int) {v3 v4 : List UInt8} {er2 er3 er4 : Int} {p2 p3 p4 : Nat} (hb : b.length ≤ 4294967296) (k2 : p2 ≤ b.length) (g3 : rdB b p2 er2 32 = (v3, p3, er3)) (g4 : rdB b p3 er3 32 = (v4, p4, er4)) :
    Y E0 (.loop 42 1 0 4 [(2, .pa 0 0), (4, .pa 1 0), (5, .pa 2 0), (30, .nm 3), (31, .i 2), (32, .i 0)] [(0, some (.var [.i 0, .i 0, .i 0, .nil, .nil])), (1, some (.var [.sl .u8 b, .i p2, .i er2])), (2, some (.var [.i v0, .i v1, .i v2, .nil, .nil])), (3, some (.rowA 88 1 2 [.pa 2 3, .pa 2 4]))]) = some (.fin (.exit 2) 3 [(2, .pa 0 0), (4, .pa 1 0), (5, .pa 2 0)] [(0, some (.var [.i 0, .i 0, .i 0, .nil, .nil])), (1, some (.var [.sl .u8 b, .i p4, .i er4])), (2, some (.var [.i v0, .i v1, .i v2, .sl .u8 v3, .sl .u8 v4]))]) := by
  have k3 : p3 ≤ b.length := by have := rdB_le (b := b) (at' := p2) (e := er2) (most := 32) k2; rw [g3] at this; exact this
  rw [Y_go]; conv => lhs; whnf
  rw [ilt_t (by omega)]
  conv => lhs; whnf
  rw [ile_t (by omega)]
  conv => lhs; whnf
  rw [ilt_t (by omega)]
  conv => lhs; whnf
  rw [toReq_call]
  rw [ev_rblob b p2 er2 32 hb k2, g3]
  conv => lhs; whnf
  rw [iadd_eq (by omega)]
  rw [Y_go]; conv => lhs; whnf
  rw [ilt_t (by omega)]
  conv => lhs; whnf
  rw [ile_t (by omega)]
  conv => lhs; whnf
  rw [ilt_t (by omega)]
  conv => lhs; whnf
  rw [toReq_call]
  rw [ev_rblob b p3 er3 32 hb k3, g4]
  conv => lhs; whnf
  rw [iadd_eq (by omega)]
  rw [Y_go]; conv => lhs; whnf
  rw [ilt_f (by omega)]
  conv => lhs; whnf
theorem ev_adec (b : List UInt8) (hb : b.length ≤ 4294967296) : Y E0 (.call 42 [.sl .u8 b] []) = some (.ret (.tup [.agg (pubX (decP b).1), .i (decP b).2]) []) := by
  rw [Y_go]; conv => lhs; whnf
  rw [toReq_call]
  rw [ev_new _ (by omega)]
  conv => lhs; whnf
  rw [toReq_loop]
  rw [show ((3 : Nat) : Int) = 3 from rfl]; generalize g0 : rdU b 0 0 1 = x0; obtain ⟨v0, p0, er0⟩ := x0; generalize g1 : rdU b p0 er0 1 = x1; obtain ⟨v1, p1, er1⟩ := x1; generalize g2 : rdU b p1 er1 1 = x2; obtain ⟨v2, p2, er2⟩ := x2; rw [ev_adec_l1 b hb g0 g1 g2]
  conv => lhs; whnf
  rw [toReq_loop]
  rw [show ((2 : Nat) : Int) = 2 from rfl]; have k0 : p0 ≤ b.length := (by have := rdU_le (b := b) (at' := 0) (e := 0) (size := 1) (Nat.zero_le _); rw [g0] at this; exact this); have k1 : p1 ≤ b.length := (by have := rdU_le (b := b) (at' := p0) (e := er0) (size := 1) k0; rw [g1] at this; exact this); have k2 : p2 ≤ b.length := (by have := rdU_le (b := b) (at' := p1) (e := er1) (size := 1) k1; rw [g2] at this; exact this); generalize g3 : rdB b p2 er2 32 = x3; obtain ⟨v3, p3, er3⟩ := x3; generalize g4 : rdB b p3 er3 32 = x4; obtain ⟨v4, p4, er4⟩ := x4; have k3 : p3 ≤ b.length := (by have := rdB_le (b := b) (at' := p2) (e := er2) (most := 32) k2; rw [g3] at this; exact this); have k4 : p4 ≤ b.length := (by have := rdB_le (b := b) (at' := p3) (e := er3) (most := 32) k3; rw [g4] at this; exact this); have l3 := rdB_len (b := b) (at' := p2) (e := er2) (most := 32); rw [g3] at l3; have l4 := rdB_len (b := b) (at' := p3) (e := er3) (most := 32); rw [g4] at l4; rw [ev_adec_l2 b v0 v1 v2 hb k2 g3 g4]
  conv => lhs; whnf
  rw [toReq_call]
  rw [ev_rend _ _ _ (by omega) (by omega)]
  conv => lhs; whnf
  rcases Bool.eq_false_or_eq_true (ine (rdE b p4 er4) 0) with hc0 | hc0
  · rw [hc0]; replace hc0 := of_ine_t hc0; try simp only [llen_eq] at hc0
    conv => lhs; whnf
    rw [decP_of g0 g1 g2 g3 g4]; (repeat (first | rw [if_pos (by first | omega | decide | assumption | (simp only [uintB_l2, uintB_l1, blobB_l, seedB_len, fillB_len, idxB_len, sha256_len, fr1_len, fr2_len, fr3_len, LL] at * <;> omega) | (simp; omega))] | rw [if_neg (by first | omega | decide | assumption | (simp only [uintB_l2, uintB_l1, blobB_l, seedB_len, fillB_len, idxB_len, sha256_len, fr1_len, fr2_len, fr3_len, LL] at * <;> omega) | (simp; omega))])); rfl
  · rw [hc0]; replace hc0 := of_ine_f hc0; try simp only [llen_eq] at hc0
    conv => lhs; whnf
    rw [toReq_call]
    rw [ev_acheck _ _ _ _ _]
    conv => lhs; whnf
    rcases Bool.eq_false_or_eq_true (ine (chkP { kind := (v0, v1, v2, v3, v4).fst, attr := (v0, v1, v2, v3, v4).snd.fst, height := (v0, v1, v2, v3, v4).snd.snd.fst, policy := (v0, v1, v2, v3, v4).snd.snd.snd.fst, unique := (v0, v1, v2, v3, v4).snd.snd.snd.snd }) 0) with hc1 | hc1
    · rw [hc1]; replace hc1 := of_ine_t hc1; try simp only [llen_eq] at hc1
      conv => lhs; whnf
      rw [decP_of g0 g1 g2 g3 g4]; (repeat (first | rw [if_pos (by first | omega | decide | assumption | (simp only [uintB_l2, uintB_l1, blobB_l, seedB_len, fillB_len, idxB_len, sha256_len, fr1_len, fr2_len, fr3_len, LL] at * <;> omega) | (simp; omega))] | rw [if_neg (by first | omega | decide | assumption | (simp only [uintB_l2, uintB_l1, blobB_l, seedB_len, fillB_len, idxB_len, sha256_len, fr1_len, fr2_len, fr3_len, LL] at * <;> omega) | (simp; omega))])); rfl
    · rw [hc1]; replace hc1 := of_ine_f hc1; try simp only [llen_eq] at hc1
      conv => lhs; whnf
      rw [decP_of g0 g1 g2 g3 g4]; (repeat (first | rw [if_pos (by first | omega | decide | assumption | (simp only [uintB_l2, uintB_l1, blobB_l, seedB_len, fillB_len, idxB_len, sha256_len, fr1_len, fr2_len, fr3_len, LL] at * <;> omega) | (simp; omega))] | rw [if_neg (by first | omega | decide | assumption | (simp only [uintB_l2, uintB_l1, blobB_l, seedB_len, fillB_len, idxB_len, sha256_len, fr1_len, fr2_len, fr3_len, LL] at * <;> omega) | (simp; omega))])); done
theorem ev_r10same (kind attr height : Int) (policy unique : List UInt8) (kind' attr' height' : Int) (policy' unique' : List UInt8) (hp : policy.length ≤ 1000000) (hu : unique.length ≤ 1000000) : Y E0 (.call 44 [.agg [.i kind, .i attr, .i height, .sl .u8 policy, .sl .u8 unique], .agg [.i kind', .i attr', .i height', .sl .u8 policy', .sl .u8 unique']] []) = some (.ret (.b (sameP ⟨kind, attr, height, policy, unique⟩ ⟨kind', attr', height', policy', unique'⟩)) []) := by
  rw [Y_go]; conv => lhs; whnf
  rcases Bool.eq_false_or_eq_true (ieq kind kind') with hc0 | hc0
  · rw [hc0]; replace hc0 := of_ieq_t hc0; try simp only [llen_eq] at hc0
    subst hc0
    conv => lhs; whnf
    rcases Bool.eq_false_or_eq_true (ieq attr attr') with hc1 | hc1
    · rw [hc1]; replace hc1 := of_ieq_t hc1; try simp only [llen_eq] at hc1
      subst hc1
      conv => lhs; whnf
      rcases Bool.eq_false_or_eq_true (ieq height height') with hc2 | hc2
      · rw [hc2]; replace hc2 := of_ieq_t hc2; try simp only [llen_eq] at hc2
        subst hc2
        conv => lhs; whnf
        rw [toReq_call]
        rw [ev_same _ _ (by omega)]
        conv => lhs; whnf
        rcases Bool.eq_false_or_eq_true (decide (policy = policy')) with hc3 | hc3
        · rw [hc3]; replace hc3 := of_decide_eq_true hc3; try simp only at hc3
          conv => lhs; whnf
          rw [Y_go]; conv => lhs; whnf
          rw [toReq_call]
          rw [ev_same _ _ (by omega)]
          conv => lhs; whnf
          simp_all [sameP, ieq_eq]
        · rw [hc3]; replace hc3 := of_decide_eq_false hc3; try simp only at hc3
          conv => lhs; whnf
          rw [Y_go]; conv => lhs; whnf
          simp_all [sameP, ieq_eq]
      · rw [hc2]; replace hc2 := of_ieq_f hc2; try simp only [llen_eq] at hc2
        conv => lhs; whnf
        simp_all [sameP, ieq_eq]
    · rw [hc1]; replace hc1 := of_ieq_f hc1; try simp only [llen_eq] at hc1
      conv => lhs; whnf
      simp_all [sameP, ieq_eq]
  · rw [hc0]; replace hc0 := of_ieq_f hc0; try simp only [llen_eq] at hc0
    conv => lhs; whnf
    simp_all [sameP, ieq_eq]
theorem ev_few (kind attr height : Int) (policy unique : List UInt8) : Y E0 (.call 37 [.agg [.i kind, .i attr, .i height, .sl .u8 policy, .sl .u8 unique]] []) = some (.ret (.b (fewPub ⟨kind, attr, height, policy, unique⟩)) []) := by
  rw [Y_go]; conv => lhs; whnf
  rcases Bool.eq_false_or_eq_true (ile (llen policy) 60) with hc0 | hc0
  · rw [hc0]; replace hc0 := of_ile_t hc0; try simp only [llen_eq] at hc0
    conv => lhs; whnf
    simp_all [fewPub, ile_eq, llen_eq]; done
  · rw [hc0]; replace hc0 := of_ile_f hc0; try simp only [llen_eq] at hc0
    conv => lhs; whnf
    rw [fewPub_f (by simp only; omega)]
theorem ev_mod (n m : Int) (hm : 1 ≤ m ∧ m ≤ 1000000000) : Y E0 (.call 21 [.i n, .i m] []) = some (.ret (.i (n % m)) []) := by
  have hb := irem_bd n hm.1
  rw [Y_go]; conv => lhs; whnf
  rw [ilt_f (by omega)]
  conv => lhs; whnf
  rw [ieq_f (by omega)]
  conv => lhs; whnf
  rcases Bool.eq_false_or_eq_true (ilt (irem n m) 0) with hc0 | hc0
  · rw [hc0]; replace hc0 := of_ilt_t hc0; try simp only [llen_eq] at hc0
    conv => lhs; whnf
    rw [Y_go]; conv => lhs; whnf
    rw [iadd_eq (by omega), irem_neg hm.1 (by omega)]
  · rw [hc0]; replace hc0 := of_ilt_f hc0; try simp only [llen_eq] at hc0
    conv => lhs; whnf
    rw [Y_go]; conv => lhs; whnf
    rw [irem_pos hm.1 (by omega)]
theorem ev_public (kind attr height : Int) (policy unique : List UInt8) : Y E0 (.call 38 [.agg [.i kind, .i attr, .i height, .sl .u8 policy, .sl .u8 unique]] []) = some (.ret (.agg (pubX (validP ⟨kind, attr, height, policy, unique⟩))) []) := by
  have hu := uniq_bd (1 + kind % 3)
  rw [Y_go]; conv => lhs; whnf
  rw [toReq_call]
  rw [ev_mod _ _ (by omega)]
  conv => lhs; whnf
  rw [toReq_call]
  rw [ev_mod _ _ (by omega)]
  conv => lhs; whnf
  rw [iadd_eq (by omega)]
  rw [drw (by kernel_rfl)]; conv => lhs; whnf
  rcases Bool.eq_false_or_eq_true (ieq (1 + kind % 3) 2) with hc0 | hc0
  · rw [hc0]; replace hc0 := of_ieq_t hc0; try simp only [llen_eq] at hc0
    conv => lhs; whnf
    rw [toReq_call]
    rw [ev_mod _ _ (by omega)]
    conv => lhs; whnf
    rw [Y_go]; conv => lhs; whnf
    rcases Bool.eq_false_or_eq_true (ilt 0 (llen policy)) with hc1 | hc1
    · rw [hc1]; replace hc1 := of_ilt_t hc1; try simp only [llen_eq] at hc1
      conv => lhs; whnf
      rw [toReq_call]
      rw [ev_seed _]
      conv => lhs; whnf
      rw [Y_go]; conv => lhs; whnf
      rw [toReq_call]
      rw [ev_r10size _]
      conv => lhs; whnf
      rw [fitn_t (by omega)]
      conv => lhs; whnf
      rw [ieq_t (by omega)]
      conv => lhs; whnf
      (have hp : 0 < policy.length := (by omega); simp only [validP, vattr, pubX, ibit_eq, hc0, hp, ne_eq, not_true_eq_false, not_false_eq_true, if_true, if_false, decide_true, decide_false, Bool.false_eq_true, fillB, lcpy_eq, lrep_eq, List.length_replicate])
    · rw [hc1]; replace hc1 := of_ilt_f hc1; try simp only [llen_eq] at hc1
      conv => lhs; whnf
      rw [Y_go]; conv => lhs; whnf
      rw [toReq_call]
      rw [ev_r10size _]
      conv => lhs; whnf
      rw [fitn_t (by omega)]
      conv => lhs; whnf
      rw [ieq_t (by omega)]
      conv => lhs; whnf
      (have hp : ¬ 0 < policy.length := (by omega); simp only [validP, vattr, pubX, ibit_eq, hc0, hp, ne_eq, not_true_eq_false, not_false_eq_true, if_true, if_false, decide_true, decide_false, Bool.false_eq_true, fillB, lcpy_eq, lrep_eq, List.length_replicate])
  · rw [hc0]; replace hc0 := of_ieq_f hc0; try simp only [llen_eq] at hc0
    conv => lhs; whnf
    rw [Y_go]; conv => lhs; whnf
    rcases Bool.eq_false_or_eq_true (ilt 0 (llen policy)) with hc2 | hc2
    · rw [hc2]; replace hc2 := of_ilt_t hc2; try simp only [llen_eq] at hc2
      conv => lhs; whnf
      rw [toReq_call]
      rw [ev_seed _]
      conv => lhs; whnf
      rw [Y_go]; conv => lhs; whnf
      rw [toReq_call]
      rw [ev_r10size _]
      conv => lhs; whnf
      rw [fitn_t (by omega)]
      conv => lhs; whnf
      rw [ieq_t (by omega)]
      conv => lhs; whnf
      (have hp : 0 < policy.length := (by omega); simp only [validP, vattr, pubX, ibit_eq, hc0, hp, ne_eq, not_true_eq_false, not_false_eq_true, if_true, if_false, decide_true, decide_false, Bool.false_eq_true, fillB, lcpy_eq, lrep_eq, List.length_replicate])
    · rw [hc2]; replace hc2 := of_ilt_f hc2; try simp only [llen_eq] at hc2
      conv => lhs; whnf
      rw [Y_go]; conv => lhs; whnf
      rw [toReq_call]
      rw [ev_r10size _]
      conv => lhs; whnf
      rw [fitn_t (by omega)]
      conv => lhs; whnf
      rw [ieq_t (by omega)]
      conv => lhs; whnf
      (have hp : ¬ 0 < policy.length := (by omega); simp only [validP, vattr, pubX, ibit_eq, hc0, hp, ne_eq, not_true_eq_false, not_false_eq_true, if_true, if_false, decide_true, decide_false, Bool.false_eq_true, fillB, lcpy_eq, lrep_eq, List.length_replicate])
theorem ev_aname (kind attr height : Int) (policy unique : List UInt8) (hp : policy.length ≤ 60000) (hu : unique.length ≤ 60000) : Y E0 (.call 47 [.agg [.i kind, .i attr, .i height, .sl .u8 policy, .sl .u8 unique]] []) = some (.ret (.sl .u8 (nameB ⟨kind, attr, height, policy, unique⟩)) []) := by
  have hl := encP_len (p := ⟨kind, attr, height, policy, unique⟩) (Nat.le_trans hp (by decide)) (Nat.le_trans hu (by decide))
  rw [Y_go]; conv => lhs; whnf
  rw [toReq_call]
  rw [ev_aenc _ _ _ _ _ (by (simp only [uintB_l2, uintB_l1, blobB_l, seedB_len, fillB_len, idxB_len, sha256_len, fr1_len, fr2_len, fr3_len, LL] at * <;> omega)) (by (simp only [uintB_l2, uintB_l1, blobB_l, seedB_len, fillB_len, idxB_len, sha256_len, fr1_len, fr2_len, fr3_len, LL] at * <;> omega))]
  conv => lhs; whnf
  rw [toReq_call]
  rw [ev_dig_hash _ _ (by (simp only [uintB_l2, uintB_l1, blobB_l, seedB_len, fillB_len, idxB_len, sha256_len, fr1_len, fr2_len, fr3_len, LL] at * <;> omega)) (by (simp only [uintB_l2, uintB_l1, blobB_l, seedB_len, fillB_len, idxB_len, sha256_len, fr1_len, fr2_len, fr3_len, LL] at * <;> omega))]
  conv => lhs; whnf
  rfl
theorem ev_r10name (kind attr height : Int) (policy unique : List UInt8) (hp : policy.length ≤ 60000) (hu : unique.length ≤ 60000) : Y E0 (.call 52 [.agg [.i kind, .i attr, .i height, .sl .u8 policy, .sl .u8 unique]] []) = some (.ret (.sl .u8 (nameB ⟨kind, attr, height, policy, unique⟩)) []) := by
  have hl := encP_len (p := ⟨kind, attr, height, policy, unique⟩) (Nat.le_trans hp (by decide)) (Nat.le_trans hu (by decide))
  rw [Y_go]; conv => lhs; whnf
  rw [toReq_call]
  rw [ev_r10enc _ _ _ _ _ (by (simp only [uintB_l2, uintB_l1, blobB_l, seedB_len, fillB_len, idxB_len, sha256_len, fr1_len, fr2_len, fr3_len, LL] at * <;> omega)) (by (simp only [uintB_l2, uintB_l1, blobB_l, seedB_len, fillB_len, idxB_len, sha256_len, fr1_len, fr2_len, fr3_len, LL] at * <;> omega))]
  conv => lhs; whnf
  rw [toReq_call]
  rw [ev_ref_hash _ _ (by (simp only [uintB_l2, uintB_l1, blobB_l, seedB_len, fillB_len, idxB_len, sha256_len, fr1_len, fr2_len, fr3_len, LL] at * <;> omega)) (by (simp only [uintB_l2, uintB_l1, blobB_l, seedB_len, fillB_len, idxB_len, sha256_len, fr1_len, fr2_len, fr3_len, LL] at * <;> omega))]
  conv => lhs; whnf
  rfl
theorem ev_r10form (n kind attr size : Int) (policy auth : List UInt8) (written : Bool) (data : List UInt8) : Y E0 (.call 81 [.agg [.i n, .i kind, .i attr, .i size, .sl .u8 policy, .sl .u8 auth, .b written, .sl .u8 data]] []) = some (.ret (.sl .u8 (idxB ⟨n, kind, attr, size, policy, auth, written, data⟩)) []) := by
  cases written
  · iterate 2 (rw [Y_go]; conv => lhs; whnf)
    rw [toReq_call]
    rw [ev_r3uint _ _ _ (by (simp only [uintB_l2, uintB_l1, blobB_l, seedB_len, fillB_len, idxB_len, sha256_len, fr1_len, fr2_len, fr3_len, LL] at * <;> omega))]
    conv => lhs; whnf
    rw [fits_t (by (simp only [uintB_l2, uintB_l1, blobB_l, seedB_len, fillB_len, idxB_len, sha256_len, fr1_len, fr2_len, fr3_len, LL] at * <;> omega))]
    conv => lhs; whnf
    (simp only [lapp_eq, iu8_eq]; rfl)
  · iterate 2 (rw [Y_go]; conv => lhs; whnf)
    rw [toReq_call]
    rw [ev_r3uint _ _ _ (by (simp only [uintB_l2, uintB_l1, blobB_l, seedB_len, fillB_len, idxB_len, sha256_len, fr1_len, fr2_len, fr3_len, LL] at * <;> omega))]
    conv => lhs; whnf
    rw [fits_t (by (simp only [uintB_l2, uintB_l1, blobB_l, seedB_len, fillB_len, idxB_len, sha256_len, fr1_len, fr2_len, fr3_len, LL] at * <;> omega))]
    conv => lhs; whnf
    (simp only [lapp_eq, iu8_eq]; rfl)
theorem ev_aidx (n kind attr size : Int) (policy auth : List UInt8) (written : Bool) (data : List UInt8) (hp : policy.length ≤ 1000000) : Y E0 (.call 49 [.agg [.i n, .i kind, .i attr, .i size, .sl .u8 policy, .sl .u8 auth, .b written, .sl .u8 data]] []) = some (.ret (.sl .u8 (idxNameB ⟨n, kind, attr, size, policy, auth, written, data⟩)) []) := by
  cases written
  · rw [Y_go]; conv => lhs; whnf
    rw [toReq_call]
    rw [ev_uint _ _ _ (by (simp only [uintB_l2, uintB_l1, blobB_l, seedB_len, fillB_len, idxB_len, sha256_len, fr1_len, fr2_len, fr3_len, LL] at * <;> omega))]
    conv => lhs; whnf
    rw [Y_go]; conv => lhs; whnf
    rw [fits_t (by (simp only [uintB_l2, uintB_l1, blobB_l, seedB_len, fillB_len, idxB_len, sha256_len, fr1_len, fr2_len, fr3_len, LL] at * <;> omega))]
    conv => lhs; whnf
    rw [toReq_call]
    rw [ev_dig_hash _ _ (by (simp only [uintB_l2, uintB_l1, blobB_l, seedB_len, fillB_len, idxB_len, sha256_len, fr1_len, fr2_len, fr3_len, LL] at * <;> omega)) (by (simp only [uintB_l2, uintB_l1, blobB_l, seedB_len, fillB_len, idxB_len, sha256_len, fr1_len, fr2_len, fr3_len, LL] at * <;> omega))]
    conv => lhs; whnf
    rw [drw (by kernel_rfl)]; conv => lhs; whnf
    (simp only [lapp_eq, iu8_eq]; rfl)
  · rw [Y_go]; conv => lhs; whnf
    rw [toReq_call]
    rw [ev_uint _ _ _ (by (simp only [uintB_l2, uintB_l1, blobB_l, seedB_len, fillB_len, idxB_len, sha256_len, fr1_len, fr2_len, fr3_len, LL] at * <;> omega))]
    conv => lhs; whnf
    rw [Y_go]; conv => lhs; whnf
    rw [fits_t (by (simp only [uintB_l2, uintB_l1, blobB_l, seedB_len, fillB_len, idxB_len, sha256_len, fr1_len, fr2_len, fr3_len, LL] at * <;> omega))]
    conv => lhs; whnf
    rw [toReq_call]
    rw [ev_dig_hash _ _ (by (simp only [uintB_l2, uintB_l1, blobB_l, seedB_len, fillB_len, idxB_len, sha256_len, fr1_len, fr2_len, fr3_len, LL] at * <;> omega)) (by (simp only [uintB_l2, uintB_l1, blobB_l, seedB_len, fillB_len, idxB_len, sha256_len, fr1_len, fr2_len, fr3_len, LL] at * <;> omega))]
    conv => lhs; whnf
    rw [drw (by kernel_rfl)]; conv => lhs; whnf
    (simp only [lapp_eq, iu8_eq]; rfl)
theorem ev_r10idx (n kind attr size : Int) (policy auth : List UInt8) (written : Bool) (data : List UInt8) (hp : policy.length ≤ 1000000) : Y E0 (.call 48 [.agg [.i n, .i kind, .i attr, .i size, .sl .u8 policy, .sl .u8 auth, .b written, .sl .u8 data]] []) = some (.ret (.sl .u8 (idxNameB ⟨n, kind, attr, size, policy, auth, written, data⟩)) []) := by
  cases written
  · rw [Y_go]; conv => lhs; whnf
    rw [toReq_call]
    rw [ev_r10form _ _ _ _ _ _ _ _]
    conv => lhs; whnf
    rw [toReq_call]
    rw [ev_ref_hash _ _ (by (simp only [uintB_l2, uintB_l1, blobB_l, seedB_len, fillB_len, idxB_len, sha256_len, fr1_len, fr2_len, fr3_len, LL] at * <;> omega)) (by (simp only [uintB_l2, uintB_l1, blobB_l, seedB_len, fillB_len, idxB_len, sha256_len, fr1_len, fr2_len, fr3_len, LL] at * <;> omega))]
    conv => lhs; whnf
    rw [drw (by kernel_rfl)]; conv => lhs; whnf
    (simp only [lapp_eq, iu8_eq]; rfl)
  · rw [Y_go]; conv => lhs; whnf
    rw [toReq_call]
    rw [ev_r10form _ _ _ _ _ _ _ _]
    conv => lhs; whnf
    rw [toReq_call]
    rw [ev_ref_hash _ _ (by (simp only [uintB_l2, uintB_l1, blobB_l, seedB_len, fillB_len, idxB_len, sha256_len, fr1_len, fr2_len, fr3_len, LL] at * <;> omega)) (by (simp only [uintB_l2, uintB_l1, blobB_l, seedB_len, fillB_len, idxB_len, sha256_len, fr1_len, fr2_len, fr3_len, LL] at * <;> omega))]
    conv => lhs; whnf
    rw [drw (by kernel_rfl)]; conv => lhs; whnf
    (simp only [lapp_eq, iu8_eq]; rfl)
theorem ev_ahier (h : Int) : Y E0 (.call 50 [.i h] []) = some (.ret (.sl .u8 (hierB h)) []) := by
  rw [Y_go]; conv => lhs; whnf
  rcases Bool.eq_false_or_eq_true (ilt h 0) with hc0 | hc0
  · rw [hc0]; replace hc0 := of_ilt_t hc0; try simp only [llen_eq] at hc0
    conv => lhs; whnf
    unfold hierB; (repeat (first | rw [if_pos (by first | omega | decide | assumption | (simp only [uintB_l2, uintB_l1, blobB_l, seedB_len, fillB_len, idxB_len, sha256_len, fr1_len, fr2_len, fr3_len, LL] at * <;> omega) | (simp; omega))] | rw [if_neg (by first | omega | decide | assumption | (simp only [uintB_l2, uintB_l1, blobB_l, seedB_len, fillB_len, idxB_len, sha256_len, fr1_len, fr2_len, fr3_len, LL] at * <;> omega) | (simp; omega))])); try simp only [NO]
  · rw [hc0]; replace hc0 := of_ilt_f hc0; try simp only [llen_eq] at hc0
    conv => lhs; whnf
    rcases Bool.eq_false_or_eq_true (ilt 3 h) with hc1 | hc1
    · rw [hc1]; replace hc1 := of_ilt_t hc1; try simp only [llen_eq] at hc1
      conv => lhs; whnf
      unfold hierB; (repeat (first | rw [if_pos (by first | omega | decide | assumption | (simp only [uintB_l2, uintB_l1, blobB_l, seedB_len, fillB_len, idxB_len, sha256_len, fr1_len, fr2_len, fr3_len, LL] at * <;> omega) | (simp; omega))] | rw [if_neg (by first | omega | decide | assumption | (simp only [uintB_l2, uintB_l1, blobB_l, seedB_len, fillB_len, idxB_len, sha256_len, fr1_len, fr2_len, fr3_len, LL] at * <;> omega) | (simp; omega))])); try simp only [NO]
    · rw [hc1]; replace hc1 := of_ilt_f hc1; try simp only [llen_eq] at hc1
      conv => lhs; whnf
      rw [toReq_call]
      rw [ev_dig_hash _ _ (by (simp only [uintB_l2, uintB_l1, blobB_l, seedB_len, fillB_len, idxB_len, sha256_len, fr1_len, fr2_len, fr3_len, LL] at * <;> omega)) (by (simp only [uintB_l2, uintB_l1, blobB_l, seedB_len, fillB_len, idxB_len, sha256_len, fr1_len, fr2_len, fr3_len, LL] at * <;> omega))]
      conv => lhs; whnf
      (rw [hierB, if_neg (by omega), ← iu8_eq])
theorem ev_r10hier (h : Int) : Y E0 (.call 51 [.i h] []) = some (.ret (.sl .u8 (hierB h)) []) := by
  rw [Y_go]; conv => lhs; whnf
  rcases Bool.eq_false_or_eq_true (ilt h 0) with hc0 | hc0
  · rw [hc0]; replace hc0 := of_ilt_t hc0; try simp only [llen_eq] at hc0
    conv => lhs; whnf
    unfold hierB; (repeat (first | rw [if_pos (by first | omega | decide | assumption | (simp only [uintB_l2, uintB_l1, blobB_l, seedB_len, fillB_len, idxB_len, sha256_len, fr1_len, fr2_len, fr3_len, LL] at * <;> omega) | (simp; omega))] | rw [if_neg (by first | omega | decide | assumption | (simp only [uintB_l2, uintB_l1, blobB_l, seedB_len, fillB_len, idxB_len, sha256_len, fr1_len, fr2_len, fr3_len, LL] at * <;> omega) | (simp; omega))])); try simp only [NO]
  · rw [hc0]; replace hc0 := of_ilt_f hc0; try simp only [llen_eq] at hc0
    conv => lhs; whnf
    rcases Bool.eq_false_or_eq_true (ilt 3 h) with hc1 | hc1
    · rw [hc1]; replace hc1 := of_ilt_t hc1; try simp only [llen_eq] at hc1
      conv => lhs; whnf
      unfold hierB; (repeat (first | rw [if_pos (by first | omega | decide | assumption | (simp only [uintB_l2, uintB_l1, blobB_l, seedB_len, fillB_len, idxB_len, sha256_len, fr1_len, fr2_len, fr3_len, LL] at * <;> omega) | (simp; omega))] | rw [if_neg (by first | omega | decide | assumption | (simp only [uintB_l2, uintB_l1, blobB_l, seedB_len, fillB_len, idxB_len, sha256_len, fr1_len, fr2_len, fr3_len, LL] at * <;> omega) | (simp; omega))])); try simp only [NO]
    · rw [hc1]; replace hc1 := of_ilt_f hc1; try simp only [llen_eq] at hc1
      conv => lhs; whnf
      rw [toReq_call]
      rw [ev_ref_hash _ _ (by (simp only [uintB_l2, uintB_l1, blobB_l, seedB_len, fillB_len, idxB_len, sha256_len, fr1_len, fr2_len, fr3_len, LL] at * <;> omega)) (by (simp only [uintB_l2, uintB_l1, blobB_l, seedB_len, fillB_len, idxB_len, sha256_len, fr1_len, fr2_len, fr3_len, LL] at * <;> omega))]
      conv => lhs; whnf
      (rw [hierB, if_neg (by omega), ← iu8_eq])
end Go.Proofs.YtchdeeghccdphaaDoor
/-
  Own text: the laws on evidence, walked.
-/
namespace Go.Ax
open Go.Eng
theorem beB_two (x : Int) : beB 2 (UInt64.ofInt x) = [UInt8.ofInt (x / 256), UInt8.ofInt x] := by
  have h1 : ((UInt64.ofInt x) >>> UInt64.ofNat (8 * 1)).toUInt8 = UInt8.ofInt (x / 256) := by
    apply UInt8.toNat_inj.1
    rw [UInt64.toNat_toUInt8, UInt64.toNat_shiftRight, UInt64.ofInt, UInt8.ofInt, UInt64.toNat_ofNat', UInt8.toNat_ofNat', show (UInt64.ofNat (8 * 1)).toNat % 64 = 8 from rfl, Nat.shiftRight_eq_div_pow]
    omega
  have h2 := beB_one x
  rw [beB] at h2
  rw [beB, h1, List.cons.injEq]
  exact ⟨rfl, by rw [beB]; exact h2⟩
theorem encE_le (x : Evi) : (encE x).length ≤ 12000 := by
  by_cases h : CanE x
  · rw [encE_len h]; obtain ⟨_, _, h1, h2, h3⟩ := h; omega
  · rw [encE, if_neg h]; simp
theorem two_inj {m t : Int} (hm : 0 ≤ m ∧ m < 65536) (ht : 0 ≤ t ∧ t < 65536) (h : uintB [] 2 m = uintB [] 2 t) : m = t := by
  rw [show uintB [] 2 m = [] ++ beB 2 (UInt64.ofInt m) from uintB_eq (n := 2) (by omega), show uintB [] 2 t = [] ++ beB 2 (UInt64.ofInt t) from uintB_eq (n := 2) (by omega), List.nil_append, List.nil_append] at h
  have h1 := valN_ofInt 2 m (by omega) (by omega) (by omega) (by omega)
  have h2 := valN_ofInt 2 t (by omega) (by omega) (by omega) (by omega)
  rw [h, h2] at h1
  omega
theorem nonce_inj {a b l s : List UInt8} {m t : Int} (ha : a.length ≤ 1000) (hb : b.length ≤ 1000) (hl : l.length ≤ 10000) (hs : s.length ≤ 10000) (hm : 0 ≤ m ∧ m < 65536) (ht : 0 ≤ t ∧ t < 65536)
    (h : frameB 23 [a, uintB [] 2 m, l] = frameB 23 [b, uintB [] 2 t, s]) : a = b ∧ m = t ∧ l = s := by
  have h2 : ∀ x, (uintB [] 2 x).length = 2 := fun x => by rw [uintB_l2]; rfl
  have h1 := (frameB_inj (by intro x hx; simp only [List.mem_cons, List.not_mem_nil, or_false] at hx; rcases hx with rfl | rfl | rfl <;> (try rw [h2]) <;> omega) (by intro x hx; simp only [List.mem_cons, List.not_mem_nil, or_false] at hx; rcases hx with rfl | rfl | rfl <;> (try rw [h2]) <;> omega)).1 h
  simp only [true_and, List.cons.injEq, and_true] at h1
  exact ⟨h1.1, two_inj hm ht h1.2.1, h1.2.2⟩
theorem coll_of {f g : List UInt8} (h : f ≠ g) (hs : sha256 f = sha256 g) : collB f g 32 = true := by
  rw [collB]
  exact decide_eq_true ⟨by decide, by decide, h, by rw [hs]⟩
theorem nc1 {a b l s : List UInt8} {m t : Int} (ha : a.length ≤ 1000) (hb : b.length ≤ 1000) (hl : l.length ≤ 10000) (hs : s.length ≤ 10000) (hm : 0 ≤ m ∧ m < 65536) (ht : 0 ≤ t ∧ t < 65536)
    (h : decide (sha256 (frameB 23 [a, uintB [] 2 m, l]) = sha256 (frameB 23 [b, uintB [] 2 t, s])) ≠ decide (l = s)) (h1 : a = b) (h2 : m = t) : collB (frameB 23 [a, uintB [] 2 m, l]) (frameB 23 [b, uintB [] 2 t, s]) 32 = true := by
  subst h1; subst h2
  by_cases hls : l = s
  · subst hls; simp at h
  · rw [decide_eq_false hls] at h
    exact coll_of (fun e => hls (nonce_inj ha hb hl hs hm ht e).2.2) (by simpa using h)
theorem nc2 {a b l s : List UInt8} {m t : Int} (ha : a.length ≤ 1000) (hb : b.length ≤ 1000) (hl : l.length ≤ 10000) (hs : s.length ≤ 10000) (hm : 0 ≤ m ∧ m < 65536) (ht : 0 ≤ t ∧ t < 65536)
    (h : decide (sha256 (frameB 23 [a, uintB [] 2 m, l]) = sha256 (frameB 23 [b, uintB [] 2 t, s])) ≠ false) (h1 : ¬ (a = b ∧ m = t)) : collB (frameB 23 [a, uintB [] 2 m, l]) (frameB 23 [b, uintB [] 2 t, s]) 32 = true :=
  coll_of (fun e => h1 ⟨(nonce_inj ha hb hl hs hm ht e).1, (nonce_inj ha hb hl hs hm ht e).2.1⟩) (by simpa using h)
theorem decE_le (b : List UInt8) : (decE b).1.attest.length ≤ 1024 ∧ (decE b).1.sig.length ≤ 1024 ∧ (decE b).1.log.length ≤ 8192 := by
  by_cases h : (decE b).2 = 0
  · have h1 : decE b = ((decE b).1, 0) := Prod.ext rfl h
    obtain ⟨_, _, h2⟩ := (enc_decE h1).2
    exact h2
  · have h1 : (decE b).1 = evi0 := by
      unfold decE at h ⊢
      dsimp only at h ⊢
      split
      · rfl
      · rename_i hn; rw [if_neg hn] at h; exact absurd rfl h
    rw [h1]; exact ⟨by decide, by decide, by decide⟩
/-- evidence with its lists shortened -/
def fewE (x : Evi) (how : Int) : Evi :=
  if how % 8 = 1 then ⟨x.machine, List.replicate (1024 + how % 2).toNat 0, x.sig.take 200, x.log.take 500⟩
  else if how % 8 = 2 then ⟨x.machine, x.attest.take 200, List.replicate (1024 + how / 8 % 2).toNat 0, x.log.take 500⟩
  else if how % 8 = 3 then ⟨x.machine, x.attest.take 200, x.sig.take 200, List.replicate (8192 + how / 8 % 2).toNat 0⟩
  else ⟨x.machine, x.attest.take 200, x.sig.take 200, x.log.take 500⟩
theorem fewE_len (x : Evi) (how : Int) : (fewE x how).attest.length ≤ 10000 ∧ (fewE x how).sig.length ≤ 10000 ∧ (fewE x how).log.length ≤ 10000 := by
  unfold fewE
  split
  · simp; omega
  · split
    · simp; omega
    · split
      · simp; omega
      · simp; omega
def selE (a : Int) : Int × Int := (if a % 2 = 1 then 4095 else 0, if a / 2 % 2 = 1 then 4095 else 0)
end Go.Ax
namespace Go.Proofs.YtchdeeghccdphaaDoor
open Go Go.Ax Go.Eng
set_option linter.unusedVariables false
set_option linter.unusedSimpArgs false
attribute [local irreducible] iadd isub imul iquo irem ibit ineg ieq ine ilt ile ishl ishr beq' bnot and' seq' u8op u8rem u32op u64op u8shr u8shl u64shr u64shl u32shr u32shl i64w u8i u64i iu8 iu32 iu64 u8u64 u64u8 u32u8 u64cmp u8cmp u32cmp llen lget linb lset lcut lrep lapp lcpy lemp fits fitn sealed drawChk fpSame
attribute [local irreducible] selE encE collB
set_option maxHeartbeats 4000000
set_option maxRecDepth 100000
theorem ev_esel_loop (a : Int) (h : 0 ≤ a ∧ a ≤ 255) : Y E0 (.loop 22 0 0 2 [(0, .i a), (2, .pa 0 0), (3, .pa 1 0), (5, .i 0)] [(0, some (.var [.i 0, .i 0])), (1, some (.var [.i 0, .i 0]))]) = some (.fin (.exit 0) 2 [(2, .pa 0 0), (3, .pa 1 0)] [(0, some (.var [.i 0, .i 0])), (1, some (.var [.i (selE a).1, .i (selE a).2]))]) := by
  have e0 : ieq (ibit .and (ishr a (Int.toNat 0)) 1) 1 = decide (a % 2 = 1) := by
    rw [show (Int.toNat 0) = 0 from rfl, ishr_eq (by omega), iand_1, ieq_eq]; simp
  have e1 : ieq (ibit .and (ishr a ((0 : Int) + 1).toNat) 1) 1 = decide (a / 2 % 2 = 1) := by
    rw [show ((0 : Int) + 1).toNat = 1 from rfl, ishr_eq (by omega), iand_1, ieq_eq]; simp
  rw [Y_go]; conv => lhs; whnf
  rw [ilt_t (by omega)]
  conv => lhs; whnf
  rw [ilt_f (by omega)]
  conv => lhs; whnf
  rw [e0]; conv => lhs; whnf
  rcases Bool.eq_false_or_eq_true (decide (a % 2 = 1)) with hc0 | hc0
  · rw [hc0]; replace hc0 := of_decide_eq_true hc0; try simp only at hc0
    conv => lhs; whnf
    dsimp (config := { iota := false, beta := false, eta := false, zeta := false }) only
    rw [ile_t (by omega)]
    conv => lhs; whnf
    rw [ilt_t (by omega)]
    conv => lhs; whnf
    rw [Y_go]; conv => lhs; whnf
    dsimp (config := { iota := false, beta := false, eta := false, zeta := false }) only
    rw [iadd_eq (by omega)]
    rw [Y_go]; conv => lhs; whnf
    rw [ilt_t (by omega)]
    conv => lhs; whnf
    rw [ilt_f (by omega)]
    conv => lhs; whnf
    rw [e1]; conv => lhs; whnf
    rcases Bool.eq_false_or_eq_true (decide (a / 2 % 2 = 1)) with hc1 | hc1
    · rw [hc1]; replace hc1 := of_decide_eq_true hc1; try simp only at hc1
      conv => lhs; whnf
      dsimp (config := { iota := false, beta := false, eta := false, zeta := false }) only
      rw [ile_t (by omega)]
      conv => lhs; whnf
      rw [ilt_t (by omega)]
      conv => lhs; whnf
      rw [Y_go]; conv => lhs; whnf
      dsimp (config := { iota := false, beta := false, eta := false, zeta := false }) only
      rw [iadd_eq (by omega)]
      rw [Y_go]; conv => lhs; whnf
      rw [ilt_f (by omega)]
      conv => lhs; whnf
      unfold selE; (repeat (first | rw [if_pos (by first | omega | decide | assumption | (simp only [uintB_l2, uintB_l1, blobB_l, seedB_len, sha256_len, fr1_len, fr2_len, fr3_len, LL] at * <;> omega) | (simp; omega))] | rw [if_neg (by first | omega | decide | assumption | (simp only [uintB_l2, uintB_l1, blobB_l, seedB_len, sha256_len, fr1_len, fr2_len, fr3_len, LL] at * <;> omega) | (simp; omega))])); try simp only [NO]
    · rw [hc1]; replace hc1 := of_decide_eq_false hc1; try simp only at hc1
      conv => lhs; whnf
      rw [Y_go]; conv => lhs; whnf
      dsimp (config := { iota := false, beta := false, eta := false, zeta := false }) only
      rw [iadd_eq (by omega)]
      rw [Y_go]; conv => lhs; whnf
      rw [ilt_f (by omega)]
      conv => lhs; whnf
      unfold selE; (repeat (first | rw [if_pos (by first | omega | decide | assumption | (simp only [uintB_l2, uintB_l1, blobB_l, seedB_len, sha256_len, fr1_len, fr2_len, fr3_len, LL] at * <;> omega) | (simp; omega))] | rw [if_neg (by first | omega | decide | assumption | (simp only [uintB_l2, uintB_l1, blobB_l, seedB_len, sha256_len, fr1_len, fr2_len, fr3_len, LL] at * <;> omega) | (simp; omega))])); try simp only [NO]
  · rw [hc0]; replace hc0 := of_decide_eq_false hc0; try simp only at hc0
    conv => lhs; whnf
    rw [Y_go]; conv => lhs; whnf
    dsimp (config := { iota := false, beta := false, eta := false, zeta := false }) only
    rw [iadd_eq (by omega)]
    rw [Y_go]; conv => lhs; whnf
    rw [ilt_t (by omega)]
    conv => lhs; whnf
    rw [ilt_f (by omega)]
    conv => lhs; whnf
    rw [e1]; conv => lhs; whnf
    rcases Bool.eq_false_or_eq_true (decide (a / 2 % 2 = 1)) with hc2 | hc2
    · rw [hc2]; replace hc2 := of_decide_eq_true hc2; try simp only at hc2
      conv => lhs; whnf
      dsimp (config := { iota := false, beta := false, eta := false, zeta := false }) only
      rw [ile_t (by omega)]
      conv => lhs; whnf
      rw [ilt_t (by omega)]
      conv => lhs; whnf
      rw [Y_go]; conv => lhs; whnf
      dsimp (config := { iota := false, beta := false, eta := false, zeta := false }) only
      rw [iadd_eq (by omega)]
      rw [Y_go]; conv => lhs; whnf
      rw [ilt_f (by omega)]
      conv => lhs; whnf
      unfold selE; (repeat (first | rw [if_pos (by first | omega | decide | assumption | (simp only [uintB_l2, uintB_l1, blobB_l, seedB_len, sha256_len, fr1_len, fr2_len, fr3_len, LL] at * <;> omega) | (simp; omega))] | rw [if_neg (by first | omega | decide | assumption | (simp only [uintB_l2, uintB_l1, blobB_l, seedB_len, sha256_len, fr1_len, fr2_len, fr3_len, LL] at * <;> omega) | (simp; omega))])); try simp only [NO]
    · rw [hc2]; replace hc2 := of_decide_eq_false hc2; try simp only at hc2
      conv => lhs; whnf
      rw [Y_go]; conv => lhs; whnf
      dsimp (config := { iota := false, beta := false, eta := false, zeta := false }) only
      rw [iadd_eq (by omega)]
      rw [Y_go]; conv => lhs; whnf
      rw [ilt_f (by omega)]
      conv => lhs; whnf
      unfold selE; (repeat (first | rw [if_pos (by first | omega | decide | assumption | (simp only [uintB_l2, uintB_l1, blobB_l, seedB_len, sha256_len, fr1_len, fr2_len, fr3_len, LL] at * <;> omega) | (simp; omega))] | rw [if_neg (by first | omega | decide | assumption | (simp only [uintB_l2, uintB_l1, blobB_l, seedB_len, sha256_len, fr1_len, fr2_len, fr3_len, LL] at * <;> omega) | (simp; omega))])); try simp only [NO]
theorem ev_esel (a : Int) (h : 0 ≤ a ∧ a ≤ 255) : Y E0 (.call 22 [.i a] []) = some (.ret (.agg [.i (selE a).1, .i (selE a).2]) []) := by
  rw [Y_go]; conv => lhs; whnf
  dsimp (config := { iota := false, beta := false, eta := false, zeta := false }) only
  rw [toReq_loop]
  rw [ev_esel_loop a h]
  conv => lhs; whnf
theorem ev_r36sel_loop (a : Int) (h : 0 ≤ a ∧ a ≤ 255) : Y E0 (.loop 23 0 0 2 [(0, .i a), (2, .pa 0 0), (3, .pa 1 0), (4, .i 0)] [(0, some (.var [.i 0, .i 0])), (1, some (.var [.i 0, .i 0]))]) = some (.fin (.exit 0) 2 [(2, .pa 0 0), (3, .pa 1 0)] [(0, some (.var [.i 0, .i 0])), (1, some (.var [.i (selE a).1, .i (selE a).2]))]) := by
  have e0 : ieq (ibit .and (ishr a (iu64 0).toNat) 1) 1 = decide (a % 2 = 1) := by
    rw [show (iu64 0).toNat = 0 from by rw [iu64_eq]; rfl, ishr_eq (by omega), iand_1, ieq_eq]; simp
  have e1 : ieq (ibit .and (ishr a (iu64 (0 + 1)).toNat) 1) 1 = decide (a / 2 % 2 = 1) := by
    rw [show (iu64 (0 + 1)).toNat = 1 from by rw [iu64_eq]; rfl, ishr_eq (by omega), iand_1, ieq_eq]; simp
  rw [Y_go]; conv => lhs; whnf
  rw [ilt_t (by omega)]
  conv => lhs; whnf
  rw [e0]; conv => lhs; whnf
  rcases Bool.eq_false_or_eq_true (decide (a % 2 = 1)) with hc0 | hc0
  · rw [hc0]; replace hc0 := of_decide_eq_true hc0; try simp only at hc0
    conv => lhs; whnf
    dsimp (config := { iota := false, beta := false, eta := false, zeta := false }) only
    rw [ile_t (by omega)]
    conv => lhs; whnf
    rw [ilt_t (by omega)]
    conv => lhs; whnf
    rw [Y_go]; conv => lhs; whnf
    dsimp (config := { iota := false, beta := false, eta := false, zeta := false }) only
    rw [iadd_eq (by omega)]
    rw [Y_go]; conv => lhs; whnf
    rw [ilt_t (by omega)]
    conv => lhs; whnf
    rw [e1]; conv => lhs; whnf
    rcases Bool.eq_false_or_eq_true (decide (a / 2 % 2 = 1)) with hc1 | hc1
    · rw [hc1]; replace hc1 := of_decide_eq_true hc1; try simp only at hc1
      conv => lhs; whnf
      dsimp (config := { iota := false, beta := false, eta := false, zeta := false }) only
      rw [ile_t (by omega)]
      conv => lhs; whnf
      rw [ilt_t (by omega)]
      conv => lhs; whnf
      rw [Y_go]; conv => lhs; whnf
      dsimp (config := { iota := false, beta := false, eta := false, zeta := false }) only
      rw [iadd_eq (by omega)]
      rw [Y_go]; conv => lhs; whnf
      rw [ilt_f (by omega)]
      conv => lhs; whnf
      unfold selE; (repeat (first | rw [if_pos (by first | omega | decide | assumption | (simp only [uintB_l2, uintB_l1, blobB_l, seedB_len, sha256_len, fr1_len, fr2_len, fr3_len, LL] at * <;> omega) | (simp; omega))] | rw [if_neg (by first | omega | decide | assumption | (simp only [uintB_l2, uintB_l1, blobB_l, seedB_len, sha256_len, fr1_len, fr2_len, fr3_len, LL] at * <;> omega) | (simp; omega))])); try simp only [NO]
    · rw [hc1]; replace hc1 := of_decide_eq_false hc1; try simp only at hc1
      conv => lhs; whnf
      rw [Y_go]; conv => lhs; whnf
      dsimp (config := { iota := false, beta := false, eta := false, zeta := false }) only
      rw [iadd_eq (by omega)]
      rw [Y_go]; conv => lhs; whnf
      rw [ilt_f (by omega)]
      conv => lhs; whnf
      unfold selE; (repeat (first | rw [if_pos (by first | omega | decide | assumption | (simp only [uintB_l2, uintB_l1, blobB_l, seedB_len, sha256_len, fr1_len, fr2_len, fr3_len, LL] at * <;> omega) | (simp; omega))] | rw [if_neg (by first | omega | decide | assumption | (simp only [uintB_l2, uintB_l1, blobB_l, seedB_len, sha256_len, fr1_len, fr2_len, fr3_len, LL] at * <;> omega) | (simp; omega))])); try simp only [NO]
  · rw [hc0]; replace hc0 := of_decide_eq_false hc0; try simp only at hc0
    conv => lhs; whnf
    rw [Y_go]; conv => lhs; whnf
    dsimp (config := { iota := false, beta := false, eta := false, zeta := false }) only
    rw [iadd_eq (by omega)]
    rw [Y_go]; conv => lhs; whnf
    rw [ilt_t (by omega)]
    conv => lhs; whnf
    rw [e1]; conv => lhs; whnf
    rcases Bool.eq_false_or_eq_true (decide (a / 2 % 2 = 1)) with hc2 | hc2
    · rw [hc2]; replace hc2 := of_decide_eq_true hc2; try simp only at hc2
      conv => lhs; whnf
      dsimp (config := { iota := false, beta := false, eta := false, zeta := false }) only
      rw [ile_t (by omega)]
      conv => lhs; whnf
      rw [ilt_t (by omega)]
      conv => lhs; whnf
      rw [Y_go]; conv => lhs; whnf
      dsimp (config := { iota := false, beta := false, eta := false, zeta := false }) only
      rw [iadd_eq (by omega)]
      rw [Y_go]; conv => lhs; whnf
      rw [ilt_f (by omega)]
      conv => lhs; whnf
      unfold selE; (repeat (first | rw [if_pos (by first | omega | decide | assumption | (simp only [uintB_l2, uintB_l1, blobB_l, seedB_len, sha256_len, fr1_len, fr2_len, fr3_len, LL] at * <;> omega) | (simp; omega))] | rw [if_neg (by first | omega | decide | assumption | (simp only [uintB_l2, uintB_l1, blobB_l, seedB_len, sha256_len, fr1_len, fr2_len, fr3_len, LL] at * <;> omega) | (simp; omega))])); try simp only [NO]
    · rw [hc2]; replace hc2 := of_decide_eq_false hc2; try simp only at hc2
      conv => lhs; whnf
      rw [Y_go]; conv => lhs; whnf
      dsimp (config := { iota := false, beta := false, eta := false, zeta := false }) only
      rw [iadd_eq (by omega)]
      rw [Y_go]; conv => lhs; whnf
      rw [ilt_f (by omega)]
      conv => lhs; whnf
      unfold selE; (repeat (first | rw [if_pos (by first | omega | decide | assumption | (simp only [uintB_l2, uintB_l1, blobB_l, seedB_len, sha256_len, fr1_len, fr2_len, fr3_len, LL] at * <;> omega) | (simp; omega))] | rw [if_neg (by first | omega | decide | assumption | (simp only [uintB_l2, uintB_l1, blobB_l, seedB_len, sha256_len, fr1_len, fr2_len, fr3_len, LL] at * <;> omega) | (simp; omega))])); try simp only [NO]
theorem ev_r36sel (a : Int) (h : 0 ≤ a ∧ a ≤ 255) : Y E0 (.call 23 [.i a] []) = some (.ret (.agg [.i (selE a).1, .i (selE a).2]) []) := by
  rw [Y_go]; conv => lhs; whnf
  dsimp (config := { iota := false, beta := false, eta := false, zeta := false }) only
  rw [toReq_loop]
  rw [ev_r36sel_loop a h]
  conv => lhs; whnf
theorem ev_r36same (machine : Int) (attest sig log : List UInt8) (m' : Int) (a' s' l' : List UInt8) (h1 : attest.length ≤ 1000000) (h2 : sig.length ≤ 1000000) (h3 : log.length ≤ 1000000) : Y E0 (.call 34 [.agg [.i machine, .sl .u8 attest, .sl .u8 sig, .sl .u8 log], .agg [.i m', .sl .u8 a', .sl .u8 s', .sl .u8 l']] []) = some (.ret (.b (decide ((⟨machine, attest, sig, log⟩ : Evi) = ⟨m', a', s', l'⟩))) []) := by
  rw [Y_go]; conv => lhs; whnf
  rcases Bool.eq_false_or_eq_true (ieq machine m') with hc0 | hc0
  · rw [hc0]; replace hc0 := of_ieq_t hc0; try simp only [llen_eq] at hc0
    subst hc0
    conv => lhs; whnf
    dsimp (config := { iota := false, beta := false, eta := false, zeta := false }) only
    rw [toReq_call]
    rw [ev_same _ _ (by omega)]
    conv => lhs; whnf
    rcases Bool.eq_false_or_eq_true (decide (attest = a')) with hc1 | hc1
    · rw [hc1]; replace hc1 := of_decide_eq_true hc1; try simp only at hc1
      conv => lhs; whnf
      dsimp (config := { iota := false, beta := false, eta := false, zeta := false }) only
      rw [toReq_call]
      rw [ev_same _ _ (by omega)]
      conv => lhs; whnf
      rcases Bool.eq_false_or_eq_true (decide (sig = s')) with hc2 | hc2
      · rw [hc2]; replace hc2 := of_decide_eq_true hc2; try simp only at hc2
        conv => lhs; whnf
        dsimp (config := { iota := false, beta := false, eta := false, zeta := false }) only
        rw [toReq_call]
        rw [ev_same _ _ (by omega)]
        conv => lhs; whnf
        simp_all [ieq_eq]
      · rw [hc2]; replace hc2 := of_decide_eq_false hc2; try simp only at hc2
        conv => lhs; whnf
        simp_all [ieq_eq]
    · rw [hc1]; replace hc1 := of_decide_eq_false hc1; try simp only at hc1
      conv => lhs; whnf
      simp_all [ieq_eq]
  · rw [hc0]; replace hc0 := of_ieq_f hc0; try simp only [llen_eq] at hc0
    conv => lhs; whnf
    simp_all [ieq_eq]
theorem ev_awake36 : Y E0 (.call 20 [] []) = some (.ret (.b true) []) := by
  have hc : CanE ⟨2, [UInt8.ofNat 113], [], [UInt8.ofNat 108, UInt8.ofNat 111, UInt8.ofNat 103]⟩ := by refine ⟨?_, ?_, ?_, ?_, ?_⟩ <;> decide
  have hl := encE_len hc
  have hd := dec_encE hc
  simp only [List.length_cons, List.length_nil] at hl
  have hs : selE 2 = (0, 4095) := by unfold selE; rfl
  have es := ev_esel 2 (by omega)
  rw [hs] at es
  rw [Y_go]; conv => lhs; whnf
  dsimp (config := { iota := false, beta := false, eta := false, zeta := false }) only
  rw [toReq_call]
  rw [ev_eenc _ _ _ _]
  conv => lhs; whnf
  dsimp (config := { iota := false, beta := false, eta := false, zeta := false }) only
  rw [toReq_call]
  rw [ev_edec _ (by omega), hd]
  conv => lhs; whnf
  dsimp (config := { iota := false, beta := false, eta := false, zeta := false }) only
  rw [ieq_t (by (simp only [uintB_l2, uintB_l1, blobB_l, seedB_len, sha256_len, fr1_len, fr2_len, fr3_len, LL] at * <;> omega))]
  conv => lhs; whnf
  rw [ieq_t (by omega)]
  conv => lhs; whnf
  dsimp (config := { iota := false, beta := false, eta := false, zeta := false }) only
  rw [toReq_call]
  rw [ev_r36same _ _ _ _ _ _ _ _ (by simp) (by simp) (by simp), decide_eq_true rfl]
  conv => lhs; whnf
  dsimp (config := { iota := false, beta := false, eta := false, zeta := false }) only
  rw [toReq_call]
  rw [es]
  conv => lhs; whnf
  dsimp (config := { iota := false, beta := false, eta := false, zeta := false }) only
  rw [and_eq]; conv => lhs; whnf
  rw [ieq_t (by omega)]
  conv => lhs; whnf
  rw [ieq_t (by omega)]
  conv => lhs; whnf
  dsimp (config := { iota := false, beta := false, eta := false, zeta := false }) only
  rw [toReq_call]
  rw [ev_enonce _ _ _ (by (simp only [uintB_l2, uintB_l1, blobB_l, seedB_len, sha256_len, fr1_len, fr2_len, fr3_len, LL] at * <;> omega)) (by (simp only [uintB_l2, uintB_l1, blobB_l, seedB_len, sha256_len, fr1_len, fr2_len, fr3_len, LL] at * <;> omega))]
  conv => lhs; whnf
  (congr 3; simp only [ieq_eq, ine_eq, ilt_eq, ile_eq, bnot_eq, and_eq, llen_eq]; first | rfl | (rw [decide_eq_decide]; omega) | (simp; omega))
theorem ev_EvidenceSelection (a : Int) : Y E0 (.call 3 [.i a] []) = some (.ret (.b true) []) := by
  rw [Y_go]; conv => lhs; whnf
  dsimp (config := { iota := false, beta := false, eta := false, zeta := false }) only
  rw [toReq_call]
  rw [ev_awake36]
  conv => lhs; whnf
  rw [bnot_eq]; conv => lhs; whnf
  dsimp (config := { iota := false, beta := false, eta := false, zeta := false }) only
  rw [toReq_call]
  rw [ev_mod _ _ (by omega)]
  conv => lhs; whnf
  dsimp (config := { iota := false, beta := false, eta := false, zeta := false }) only
  rw [toReq_call]
  rw [ev_esel _ (by omega)]
  conv => lhs; whnf
  dsimp (config := { iota := false, beta := false, eta := false, zeta := false }) only
  rw [toReq_call]
  rw [ev_r36sel _ (by omega)]
  conv => lhs; whnf
  (congr 3; simp only [ieq_eq, ine_eq, ilt_eq, ile_eq, bnot_eq, and_eq, llen_eq]; first | rfl | (rw [decide_eq_decide]; omega) | (simp; omega))
theorem ev_frame36 (nonce : List UInt8) (m : Int) (log : List UInt8) (h1 : nonce.length ≤ 1000) (h2 : log.length ≤ 10000) (h : 0 ≤ m ∧ m ≤ 65535) : Y E0 (.call 29 [.sl .u8 nonce, .i m, .sl .u8 log] []) = some (.ret (.sl .u8 (frameB 23 [nonce, uintB [] 2 m, log])) []) := by
  have hu : uintB [] 2 m = [iu8 (ishr m (UInt64.ofNat 8).toNat), iu8 m] := by
    rw [show uintB [] 2 m = [] ++ beB 2 (UInt64.ofInt m) from uintB_eq (n := 2) (by omega), List.nil_append, beB_two, show (UInt64.ofNat 8).toNat = 8 from rfl, ishr_eq (by omega), iu8_eq, iu8_eq]; rfl
  rw [hu]
  rw [Y_go]; conv => lhs; whnf
  dsimp (config := { iota := false, beta := false, eta := false, zeta := false }) only
  rw [toReq_call]
  rw [ev_ref_frame _ _ (by (simp only [uintB_l2, uintB_l1, blobB_l, seedB_len, sha256_len, fr1_len, fr2_len, fr3_len, LL] at * <;> omega)) (by (simp only [uintB_l2, uintB_l1, blobB_l, seedB_len, sha256_len, fr1_len, fr2_len, fr3_len, LL] at * <;> omega))]
  conv => lhs; whnf
theorem ev_few36 (machine : Int) (attest sig log : List UInt8) (how : Int) : Y E0 (.call 30 [.agg [.i machine, .sl .u8 attest, .sl .u8 sig, .sl .u8 log], .i how] []) = some (.ret (.agg (eviX (fewE ⟨machine, attest, sig, log⟩ how))) []) := by
  have e1 : iadd 1024 (ibit .and how 1) = 1024 + how % 2 := by rw [iand_1, iadd_eq (by omega)]
  have e2 : iadd 1024 (ibit .and (ishr how (UInt64.ofNat 3).toNat) 1) = 1024 + how / 8 % 2 := by rw [show (UInt64.ofNat 3).toNat = 3 from rfl, ishr_eq (by omega), iand_1, iadd_eq (by omega)]; rfl
  have e3 : iadd 8192 (ibit .and (ishr how (UInt64.ofNat 3).toNat) 1) = 8192 + how / 8 % 2 := by rw [show (UInt64.ofNat 3).toNat = 3 from rfl, ishr_eq (by omega), iand_1, iadd_eq (by omega)]; rfl
  rw [Y_go]; conv => lhs; whnf
  dsimp (config := { iota := false, beta := false, eta := false, zeta := false }) only
  rw [toReq_call]
  rw [ev_cut _ _ (by omega)]
  conv => lhs; whnf
  dsimp (config := { iota := false, beta := false, eta := false, zeta := false }) only
  rw [toReq_call]
  rw [ev_cut _ _ (by omega)]
  conv => lhs; whnf
  dsimp (config := { iota := false, beta := false, eta := false, zeta := false }) only
  rw [toReq_call]
  rw [ev_cut _ _ (by omega)]
  conv => lhs; whnf
  dsimp (config := { iota := false, beta := false, eta := false, zeta := false }) only
  rw [drw (by kernel_rfl)]; conv => lhs; whnf
  dsimp (config := { iota := false, beta := false, eta := false, zeta := false }) only
  rw [toReq_call]
  rw [ev_mod _ _ (by omega)]
  conv => lhs; whnf
  rcases Bool.eq_false_or_eq_true (ieq (how % 8) 1) with hc0 | hc0
  · rw [hc0]; replace hc0 := of_ieq_t hc0; try simp only [llen_eq] at hc0
    conv => lhs; whnf
    rw [e1]; conv => lhs; whnf
    rw [fitn_t (by omega)]
    conv => lhs; whnf
    rw [ieq_t (by omega)]
    conv => lhs; whnf
    rw [Y_go]; conv => lhs; whnf
    dsimp (config := { iota := false, beta := false, eta := false, zeta := false }) only
    (unfold fewE; (repeat (first | rw [if_pos (by omega)] | rw [if_neg (by omega)])); try simp only [lrep_eq]; rfl)
  · rw [hc0]; replace hc0 := of_ieq_f hc0; try simp only [llen_eq] at hc0
    conv => lhs; whnf
    rcases Bool.eq_false_or_eq_true (ieq (how % 8) 2) with hc1 | hc1
    · rw [hc1]; replace hc1 := of_ieq_t hc1; try simp only [llen_eq] at hc1
      conv => lhs; whnf
      rw [e2]; conv => lhs; whnf
      rw [fitn_t (by omega)]
      conv => lhs; whnf
      rw [ieq_t (by omega)]
      conv => lhs; whnf
      rw [Y_go]; conv => lhs; whnf
      dsimp (config := { iota := false, beta := false, eta := false, zeta := false }) only
      (unfold fewE; (repeat (first | rw [if_pos (by omega)] | rw [if_neg (by omega)])); try simp only [lrep_eq]; rfl)
    · rw [hc1]; replace hc1 := of_ieq_f hc1; try simp only [llen_eq] at hc1
      conv => lhs; whnf
      rcases Bool.eq_false_or_eq_true (ieq (how % 8) 3) with hc2 | hc2
      · rw [hc2]; replace hc2 := of_ieq_t hc2; try simp only [llen_eq] at hc2
        conv => lhs; whnf
        rw [e3]; conv => lhs; whnf
        rw [fitn_t (by omega)]
        conv => lhs; whnf
        rw [ieq_t (by omega)]
        conv => lhs; whnf
        rw [Y_go]; conv => lhs; whnf
        dsimp (config := { iota := false, beta := false, eta := false, zeta := false }) only
        (unfold fewE; (repeat (first | rw [if_pos (by omega)] | rw [if_neg (by omega)])); try simp only [lrep_eq]; rfl)
      · rw [hc2]; replace hc2 := of_ieq_f hc2; try simp only [llen_eq] at hc2
        conv => lhs; whnf
        rw [Y_go]; conv => lhs; whnf
        dsimp (config := { iota := false, beta := false, eta := false, zeta := false }) only
        (unfold fewE; (repeat (first | rw [if_pos (by omega)] | rw [if_neg (by omega)])); try simp only [lrep_eq]; rfl)
theorem ev_EvidenceNonce (nonce other log second : List UInt8) (machine third : Int) : Y E0 (.call 4 [.sl .u8 nonce, .sl .u8 other, .sl .u8 log, .sl .u8 second, .i machine, .i third] []) = some (.ret (.b true) []) := by
  rw [Y_go]; conv => lhs; whnf
  dsimp (config := { iota := false, beta := false, eta := false, zeta := false }) only
  rw [toReq_call]
  rw [ev_awake36]
  conv => lhs; whnf
  rw [bnot_eq]; conv => lhs; whnf
  dsimp (config := { iota := false, beta := false, eta := false, zeta := false }) only
  rw [toReq_call]
  rw [ev_cut _ _ (by omega)]
  conv => lhs; whnf
  dsimp (config := { iota := false, beta := false, eta := false, zeta := false }) only
  rw [toReq_call]
  rw [ev_cut _ _ (by omega)]
  conv => lhs; whnf
  dsimp (config := { iota := false, beta := false, eta := false, zeta := false }) only
  rw [toReq_call]
  rw [ev_cut _ _ (by omega)]
  conv => lhs; whnf
  dsimp (config := { iota := false, beta := false, eta := false, zeta := false }) only
  rw [toReq_call]
  rw [ev_cut _ _ (by omega)]
  conv => lhs; whnf
  dsimp (config := { iota := false, beta := false, eta := false, zeta := false }) only
  rw [toReq_call]
  rw [ev_mod _ _ (by omega)]
  conv => lhs; whnf
  dsimp (config := { iota := false, beta := false, eta := false, zeta := false }) only
  rw [toReq_call]
  rw [ev_mod _ _ (by omega)]
  conv => lhs; whnf
  dsimp (config := { iota := false, beta := false, eta := false, zeta := false }) only
  rw [toReq_call]
  rw [ev_enonce _ _ _ (by (simp only [uintB_l2, uintB_l1, blobB_l, seedB_len, sha256_len, fr1_len, fr2_len, fr3_len, LL] at * <;> omega)) (by (simp only [uintB_l2, uintB_l1, blobB_l, seedB_len, sha256_len, fr1_len, fr2_len, fr3_len, LL] at * <;> omega))]
  conv => lhs; whnf
  dsimp (config := { iota := false, beta := false, eta := false, zeta := false }) only
  rw [toReq_call]
  rw [ev_enonce _ _ _ (by (simp only [uintB_l2, uintB_l1, blobB_l, seedB_len, sha256_len, fr1_len, fr2_len, fr3_len, LL] at * <;> omega)) (by (simp only [uintB_l2, uintB_l1, blobB_l, seedB_len, sha256_len, fr1_len, fr2_len, fr3_len, LL] at * <;> omega))]
  conv => lhs; whnf
  dsimp (config := { iota := false, beta := false, eta := false, zeta := false }) only
  rw [toReq_call]
  rw [ev_r36nonce _ _ _ (by (simp only [uintB_l2, uintB_l1, blobB_l, seedB_len, sha256_len, fr1_len, fr2_len, fr3_len, LL] at * <;> omega)) (by (simp only [uintB_l2, uintB_l1, blobB_l, seedB_len, sha256_len, fr1_len, fr2_len, fr3_len, LL] at * <;> omega))]
  conv => lhs; whnf
  dsimp (config := { iota := false, beta := false, eta := false, zeta := false }) only
  rw [toReq_call]
  rw [ev_same _ _ (by (simp only [uintB_l2, uintB_l1, blobB_l, seedB_len, sha256_len, fr1_len, fr2_len, fr3_len, LL] at * <;> omega))]
  conv => lhs; whnf
  rw [bnot_eq]; conv => lhs; whnf
  rw [decide_eq_true rfl]; conv => lhs; whnf
  dsimp (config := { iota := false, beta := false, eta := false, zeta := false }) only
  rw [toReq_call]
  rw [ev_r36nonce _ _ _ (by (simp only [uintB_l2, uintB_l1, blobB_l, seedB_len, sha256_len, fr1_len, fr2_len, fr3_len, LL] at * <;> omega)) (by (simp only [uintB_l2, uintB_l1, blobB_l, seedB_len, sha256_len, fr1_len, fr2_len, fr3_len, LL] at * <;> omega))]
  conv => lhs; whnf
  dsimp (config := { iota := false, beta := false, eta := false, zeta := false }) only
  rw [toReq_call]
  rw [ev_same _ _ (by (simp only [uintB_l2, uintB_l1, blobB_l, seedB_len, sha256_len, fr1_len, fr2_len, fr3_len, LL] at * <;> omega))]
  conv => lhs; whnf
  rw [bnot_eq]; conv => lhs; whnf
  rw [decide_eq_true rfl]; conv => lhs; whnf
  dsimp (config := { iota := false, beta := false, eta := false, zeta := false }) only
  rw [toReq_call]
  rw [ev_same _ _ (by (simp only [uintB_l2, uintB_l1, blobB_l, seedB_len, sha256_len, fr1_len, fr2_len, fr3_len, LL] at * <;> omega))]
  conv => lhs; whnf
  rcases Bool.eq_false_or_eq_true (decide (List.take (Int.toNat 64) nonce = List.take (Int.toNat 64) other)) with hc0 | hc0
  · rw [hc0]; replace hc0 := of_decide_eq_true hc0; try simp only at hc0
    conv => lhs; whnf
    rw [Y_go]; conv => lhs; whnf
    rcases Bool.eq_false_or_eq_true (ieq (machine % 65536) (third % 65536)) with hc1 | hc1
    · rw [hc1]; replace hc1 := of_ieq_t hc1; try simp only [llen_eq] at hc1
      conv => lhs; whnf
      dsimp (config := { iota := false, beta := false, eta := false, zeta := false }) only
      rw [toReq_call]
      rw [ev_same _ _ (by (simp only [uintB_l2, uintB_l1, blobB_l, seedB_len, sha256_len, fr1_len, fr2_len, fr3_len, LL] at * <;> omega))]
      conv => lhs; whnf
      dsimp (config := { iota := false, beta := false, eta := false, zeta := false }) only
      rw [toReq_call]
      rw [ev_same _ _ (by (simp only [uintB_l2, uintB_l1, blobB_l, seedB_len, sha256_len, fr1_len, fr2_len, fr3_len, LL] at * <;> omega))]
      conv => lhs; whnf
      rcases Bool.eq_false_or_eq_true (beq' (decide (sha256 (frameB 23 [List.take (Int.toNat 64) nonce, uintB [] 2 (machine % 65536), List.take (Int.toNat 300) log]) = sha256 (frameB 23 [List.take (Int.toNat 64) other, uintB [] 2 (third % 65536), List.take (Int.toNat 300) second]))) (decide (List.take (Int.toNat 300) log = List.take (Int.toNat 300) second))) with hc2 | hc2
      · rw [hc2]; replace hc2 := of_beq_t hc2; try simp only [llen_eq] at hc2
        conv => lhs; whnf
      · rw [hc2]; replace hc2 := of_beq_f hc2; try simp only [llen_eq] at hc2
        conv => lhs; whnf
        dsimp (config := { iota := false, beta := false, eta := false, zeta := false }) only
        rw [toReq_call]
        rw [ev_frame36 _ _ _ (by (simp only [uintB_l2, uintB_l1, blobB_l, seedB_len, sha256_len, fr1_len, fr2_len, fr3_len, LL] at * <;> omega)) (by (simp only [uintB_l2, uintB_l1, blobB_l, seedB_len, sha256_len, fr1_len, fr2_len, fr3_len, LL] at * <;> omega)) (by omega)]
        conv => lhs; whnf
        dsimp (config := { iota := false, beta := false, eta := false, zeta := false }) only
        rw [toReq_call]
        rw [ev_frame36 _ _ _ (by (simp only [uintB_l2, uintB_l1, blobB_l, seedB_len, sha256_len, fr1_len, fr2_len, fr3_len, LL] at * <;> omega)) (by (simp only [uintB_l2, uintB_l1, blobB_l, seedB_len, sha256_len, fr1_len, fr2_len, fr3_len, LL] at * <;> omega)) (by omega)]
        conv => lhs; whnf
        dsimp (config := { iota := false, beta := false, eta := false, zeta := false }) only
        rw [toReq_call]
        rw [ev_collide _ _ _ (by (simp only [uintB_l2, uintB_l1, blobB_l, seedB_len, sha256_len, fr1_len, fr2_len, fr3_len, LL] at * <;> omega)) (by (simp only [uintB_l2, uintB_l1, blobB_l, seedB_len, sha256_len, fr1_len, fr2_len, fr3_len, LL] at * <;> omega))]
        conv => lhs; whnf
        exact congrArg (fun b => some (Rsp.ret (AV.b b) [])) (nc1 (by simp; omega) (by simp; omega) (by simp; omega) (by simp; omega) (by omega) (by omega) hc2 hc0 hc1)
    · rw [hc1]; replace hc1 := of_ieq_f hc1; try simp only [llen_eq] at hc1
      conv => lhs; whnf
      dsimp (config := { iota := false, beta := false, eta := false, zeta := false }) only
      rw [toReq_call]
      rw [ev_same _ _ (by (simp only [uintB_l2, uintB_l1, blobB_l, seedB_len, sha256_len, fr1_len, fr2_len, fr3_len, LL] at * <;> omega))]
      conv => lhs; whnf
      rcases Bool.eq_false_or_eq_true (beq' (decide (sha256 (frameB 23 [List.take (Int.toNat 64) nonce, uintB [] 2 (machine % 65536), List.take (Int.toNat 300) log]) = sha256 (frameB 23 [List.take (Int.toNat 64) other, uintB [] 2 (third % 65536), List.take (Int.toNat 300) second]))) false) with hc3 | hc3
      · rw [hc3]; replace hc3 := of_beq_t hc3; try simp only [llen_eq] at hc3
        conv => lhs; whnf
      · rw [hc3]; replace hc3 := of_beq_f hc3; try simp only [llen_eq] at hc3
        conv => lhs; whnf
        dsimp (config := { iota := false, beta := false, eta := false, zeta := false }) only
        rw [toReq_call]
        rw [ev_frame36 _ _ _ (by (simp only [uintB_l2, uintB_l1, blobB_l, seedB_len, sha256_len, fr1_len, fr2_len, fr3_len, LL] at * <;> omega)) (by (simp only [uintB_l2, uintB_l1, blobB_l, seedB_len, sha256_len, fr1_len, fr2_len, fr3_len, LL] at * <;> omega)) (by omega)]
        conv => lhs; whnf
        dsimp (config := { iota := false, beta := false, eta := false, zeta := false }) only
        rw [toReq_call]
        rw [ev_frame36 _ _ _ (by (simp only [uintB_l2, uintB_l1, blobB_l, seedB_len, sha256_len, fr1_len, fr2_len, fr3_len, LL] at * <;> omega)) (by (simp only [uintB_l2, uintB_l1, blobB_l, seedB_len, sha256_len, fr1_len, fr2_len, fr3_len, LL] at * <;> omega)) (by omega)]
        conv => lhs; whnf
        dsimp (config := { iota := false, beta := false, eta := false, zeta := false }) only
        rw [toReq_call]
        rw [ev_collide _ _ _ (by (simp only [uintB_l2, uintB_l1, blobB_l, seedB_len, sha256_len, fr1_len, fr2_len, fr3_len, LL] at * <;> omega)) (by (simp only [uintB_l2, uintB_l1, blobB_l, seedB_len, sha256_len, fr1_len, fr2_len, fr3_len, LL] at * <;> omega))]
        conv => lhs; whnf
        exact congrArg (fun b => some (Rsp.ret (AV.b b) [])) (nc2 (by simp; omega) (by simp; omega) (by simp; omega) (by simp; omega) (by omega) (by omega) hc3 (fun e => hc1 e.2))
  · rw [hc0]; replace hc0 := of_decide_eq_false hc0; try simp only at hc0
    conv => lhs; whnf
    rw [Y_go]; conv => lhs; whnf
    dsimp (config := { iota := false, beta := false, eta := false, zeta := false }) only
    rw [toReq_call]
    rw [ev_same _ _ (by (simp only [uintB_l2, uintB_l1, blobB_l, seedB_len, sha256_len, fr1_len, fr2_len, fr3_len, LL] at * <;> omega))]
    conv => lhs; whnf
    rcases Bool.eq_false_or_eq_true (beq' (decide (sha256 (frameB 23 [List.take (Int.toNat 64) nonce, uintB [] 2 (machine % 65536), List.take (Int.toNat 300) log]) = sha256 (frameB 23 [List.take (Int.toNat 64) other, uintB [] 2 (third % 65536), List.take (Int.toNat 300) second]))) false) with hc4 | hc4
    · rw [hc4]; replace hc4 := of_beq_t hc4; try simp only [llen_eq] at hc4
      conv => lhs; whnf
    · rw [hc4]; replace hc4 := of_beq_f hc4; try simp only [llen_eq] at hc4
      conv => lhs; whnf
      dsimp (config := { iota := false, beta := false, eta := false, zeta := false }) only
      rw [toReq_call]
      rw [ev_frame36 _ _ _ (by (simp only [uintB_l2, uintB_l1, blobB_l, seedB_len, sha256_len, fr1_len, fr2_len, fr3_len, LL] at * <;> omega)) (by (simp only [uintB_l2, uintB_l1, blobB_l, seedB_len, sha256_len, fr1_len, fr2_len, fr3_len, LL] at * <;> omega)) (by omega)]
      conv => lhs; whnf
      dsimp (config := { iota := false, beta := false, eta := false, zeta := false }) only
      rw [toReq_call]
      rw [ev_frame36 _ _ _ (by (simp only [uintB_l2, uintB_l1, blobB_l, seedB_len, sha256_len, fr1_len, fr2_len, fr3_len, LL] at * <;> omega)) (by (simp only [uintB_l2, uintB_l1, blobB_l, seedB_len, sha256_len, fr1_len, fr2_len, fr3_len, LL] at * <;> omega)) (by omega)]
      conv => lhs; whnf
      dsimp (config := { iota := false, beta := false, eta := false, zeta := false }) only
      rw [toReq_call]
      rw [ev_collide _ _ _ (by (simp only [uintB_l2, uintB_l1, blobB_l, seedB_len, sha256_len, fr1_len, fr2_len, fr3_len, LL] at * <;> omega)) (by (simp only [uintB_l2, uintB_l1, blobB_l, seedB_len, sha256_len, fr1_len, fr2_len, fr3_len, LL] at * <;> omega))]
      conv => lhs; whnf
      exact congrArg (fun b => some (Rsp.ret (AV.b b) [])) (nc2 (by simp; omega) (by simp; omega) (by simp; omega) (by simp; omega) (by omega) (by omega) hc4 (fun e => hc0 e.1))
theorem ev_EvidenceCodec (machine : Int) (attest sig log : List UInt8) (m how : Int) (any : Bool) : Y E0 (.call 5 [.agg [.i machine, .sl .u8 attest, .sl .u8 sig, .sl .u8 log], .i m, .i how, .b any] []) = some (.ret (.b true) []) := by
  have ef := ev_few36 machine attest sig log how
  have hl := fewE_len ⟨machine, attest, sig, log⟩ how
  generalize fewE ⟨machine, attest, sig, log⟩ how = Q at *
  obtain ⟨qm, qa, qs, ql⟩ := Q
  dsimp only [eviX] at *
  cases any
  · by_cases hc : CanE ⟨m % 6, qa, qs, ql⟩
    · have h1 := encE_len hc
      have h2 := dec_encE hc
      simp only at h1
      rw [Y_go]; conv => lhs; whnf
      dsimp (config := { iota := false, beta := false, eta := false, zeta := false }) only
      rw [toReq_call]
      rw [ev_awake36]
      conv => lhs; whnf
      rw [bnot_eq]; conv => lhs; whnf
      dsimp (config := { iota := false, beta := false, eta := false, zeta := false }) only
      rw [toReq_call]
      rw [ef]
      conv => lhs; whnf
      rw [bnot_eq]; conv => lhs; whnf
      dsimp (config := { iota := false, beta := false, eta := false, zeta := false }) only
      rw [toReq_call]
      rw [ev_mod _ _ (by omega)]
      conv => lhs; whnf
      rw [Y_go]; conv => lhs; whnf
      dsimp (config := { iota := false, beta := false, eta := false, zeta := false }) only
      rw [toReq_call]
      rw [ev_eenc _ _ _ _]
      conv => lhs; whnf
      dsimp (config := { iota := false, beta := false, eta := false, zeta := false }) only
      rw [toReq_call]
      rw [ev_r36enc _ _ _ _]
      conv => lhs; whnf
      dsimp (config := { iota := false, beta := false, eta := false, zeta := false }) only
      rw [toReq_call]
      rw [ev_same _ _ (Nat.le_trans (encE_le _) (by omega)), decide_eq_true rfl]
      conv => lhs; whnf
      rw [bnot_eq]; conv => lhs; whnf
      dsimp (config := { iota := false, beta := false, eta := false, zeta := false }) only
      rw [toReq_call]
      rw [ev_edec _ (Nat.le_trans (encE_le _) (by omega)), h2]
      conv => lhs; whnf
      dsimp (config := { iota := false, beta := false, eta := false, zeta := false }) only
      rw [ieq_f (by (simp only [uintB_l2, uintB_l1, blobB_l, seedB_len, sha256_len, fr1_len, fr2_len, fr3_len, LL] at * <;> omega))]
      conv => lhs; whnf
      rw [ieq_t (by omega)]
      conv => lhs; whnf
      dsimp (config := { iota := false, beta := false, eta := false, zeta := false }) only
      rw [toReq_call]
      rw [ev_r36same _ _ _ _ _ _ _ _ (by omega) (by omega) (by omega)]
      conv => lhs; whnf
      simp
    · have h2 : encE ⟨m % 6, qa, qs, ql⟩ = [] := by rw [encE, if_neg hc]
      rw [Y_go]; conv => lhs; whnf
      dsimp (config := { iota := false, beta := false, eta := false, zeta := false }) only
      rw [toReq_call]
      rw [ev_awake36]
      conv => lhs; whnf
      rw [bnot_eq]; conv => lhs; whnf
      dsimp (config := { iota := false, beta := false, eta := false, zeta := false }) only
      rw [toReq_call]
      rw [ef]
      conv => lhs; whnf
      rw [bnot_eq]; conv => lhs; whnf
      dsimp (config := { iota := false, beta := false, eta := false, zeta := false }) only
      rw [toReq_call]
      rw [ev_mod _ _ (by omega)]
      conv => lhs; whnf
      rw [Y_go]; conv => lhs; whnf
      dsimp (config := { iota := false, beta := false, eta := false, zeta := false }) only
      rw [toReq_call]
      rw [ev_eenc _ _ _ _]
      conv => lhs; whnf
      dsimp (config := { iota := false, beta := false, eta := false, zeta := false }) only
      rw [toReq_call]
      rw [ev_r36enc _ _ _ _]
      conv => lhs; whnf
      dsimp (config := { iota := false, beta := false, eta := false, zeta := false }) only
      rw [toReq_call]
      rw [ev_same _ _ (Nat.le_trans (encE_le _) (by omega)), decide_eq_true rfl]
      conv => lhs; whnf
      rw [h2]; conv => lhs; whnf
      rw [bnot_eq]; conv => lhs; whnf
      dsimp (config := { iota := false, beta := false, eta := false, zeta := false }) only
      rw [toReq_call]
      rw [ev_edec _ (by (simp only [uintB_l2, uintB_l1, blobB_l, seedB_len, sha256_len, fr1_len, fr2_len, fr3_len, LL] at * <;> omega))]
      conv => lhs; whnf
      rw [ieq_t (by (simp only [uintB_l2, uintB_l1, blobB_l, seedB_len, sha256_len, fr1_len, fr2_len, fr3_len, LL] at * <;> omega))]
      conv => lhs; whnf
      (congr 3; simp only [ieq_eq, ine_eq, ilt_eq, ile_eq, bnot_eq, and_eq, llen_eq]; first | rfl | (rw [decide_eq_decide]; omega) | (simp; omega))
  · by_cases hc : CanE ⟨qm, qa, qs, ql⟩
    · have h1 := encE_len hc
      have h2 := dec_encE hc
      simp only at h1
      rw [Y_go]; conv => lhs; whnf
      dsimp (config := { iota := false, beta := false, eta := false, zeta := false }) only
      rw [toReq_call]
      rw [ev_awake36]
      conv => lhs; whnf
      rw [bnot_eq]; conv => lhs; whnf
      dsimp (config := { iota := false, beta := false, eta := false, zeta := false }) only
      rw [toReq_call]
      rw [ef]
      conv => lhs; whnf
      rw [bnot_eq]; conv => lhs; whnf
      rw [Y_go]; conv => lhs; whnf
      dsimp (config := { iota := false, beta := false, eta := false, zeta := false }) only
      rw [toReq_call]
      rw [ev_eenc _ _ _ _]
      conv => lhs; whnf
      dsimp (config := { iota := false, beta := false, eta := false, zeta := false }) only
      rw [toReq_call]
      rw [ev_r36enc _ _ _ _]
      conv => lhs; whnf
      dsimp (config := { iota := false, beta := false, eta := false, zeta := false }) only
      rw [toReq_call]
      rw [ev_same _ _ (Nat.le_trans (encE_le _) (by omega)), decide_eq_true rfl]
      conv => lhs; whnf
      rw [bnot_eq]; conv => lhs; whnf
      dsimp (config := { iota := false, beta := false, eta := false, zeta := false }) only
      rw [toReq_call]
      rw [ev_edec _ (Nat.le_trans (encE_le _) (by omega)), h2]
      conv => lhs; whnf
      dsimp (config := { iota := false, beta := false, eta := false, zeta := false }) only
      rw [ieq_f (by (simp only [uintB_l2, uintB_l1, blobB_l, seedB_len, sha256_len, fr1_len, fr2_len, fr3_len, LL] at * <;> omega))]
      conv => lhs; whnf
      rw [ieq_t (by omega)]
      conv => lhs; whnf
      dsimp (config := { iota := false, beta := false, eta := false, zeta := false }) only
      rw [toReq_call]
      rw [ev_r36same _ _ _ _ _ _ _ _ (by omega) (by omega) (by omega)]
      conv => lhs; whnf
      simp
    · have h2 : encE ⟨qm, qa, qs, ql⟩ = [] := by rw [encE, if_neg hc]
      rw [Y_go]; conv => lhs; whnf
      dsimp (config := { iota := false, beta := false, eta := false, zeta := false }) only
      rw [toReq_call]
      rw [ev_awake36]
      conv => lhs; whnf
      rw [bnot_eq]; conv => lhs; whnf
      dsimp (config := { iota := false, beta := false, eta := false, zeta := false }) only
      rw [toReq_call]
      rw [ef]
      conv => lhs; whnf
      rw [bnot_eq]; conv => lhs; whnf
      rw [Y_go]; conv => lhs; whnf
      dsimp (config := { iota := false, beta := false, eta := false, zeta := false }) only
      rw [toReq_call]
      rw [ev_eenc _ _ _ _]
      conv => lhs; whnf
      dsimp (config := { iota := false, beta := false, eta := false, zeta := false }) only
      rw [toReq_call]
      rw [ev_r36enc _ _ _ _]
      conv => lhs; whnf
      dsimp (config := { iota := false, beta := false, eta := false, zeta := false }) only
      rw [toReq_call]
      rw [ev_same _ _ (Nat.le_trans (encE_le _) (by omega)), decide_eq_true rfl]
      conv => lhs; whnf
      rw [h2]; conv => lhs; whnf
      rw [bnot_eq]; conv => lhs; whnf
      dsimp (config := { iota := false, beta := false, eta := false, zeta := false }) only
      rw [toReq_call]
      rw [ev_edec _ (by (simp only [uintB_l2, uintB_l1, blobB_l, seedB_len, sha256_len, fr1_len, fr2_len, fr3_len, LL] at * <;> omega))]
      conv => lhs; whnf
      rw [ieq_t (by (simp only [uintB_l2, uintB_l1, blobB_l, seedB_len, sha256_len, fr1_len, fr2_len, fr3_len, LL] at * <;> omega))]
      conv => lhs; whnf
      (congr 3; simp only [ieq_eq, ine_eq, ilt_eq, ile_eq, bnot_eq, and_eq, llen_eq]; first | rfl | (rw [decide_eq_decide]; omega) | (simp; omega))
theorem ev_chg_loop (raw : List UInt8) (at' : List Int) (by' : List UInt8) (cut : Int) : ∀ (n j : Nat) (b : List UInt8), j + n = 2 → 0 < b.length → b.length ≤ 12000 → ∃ b', b'.length = b.length ∧
    Y E0 (.loop 6 0 0 1 [(0, .sl .u8 raw), (3, .sl .i64 at'), (4, .sl .u8 by'), (5, .i cut), (13, .nm 0), (14, .i (j : Int))] [(0, some (.row 5 .u8 b))]) = some (.fin (.exit 0) 0 [(0, .sl .u8 raw), (5, .i cut), (13, .sl .u8 b')] [])
  | 0, j, b, hj, h0, hb => by
    refine ⟨b, rfl, ?_⟩
    rw [Y_go]; conv => lhs; whnf
    rcases Bool.eq_false_or_eq_true (ilt (↑j) (llen at')) with hc0 | hc0
    · rw [hc0]; replace hc0 := of_ilt_t hc0; try simp only [llen_eq] at hc0
      conv => lhs; whnf
      rcases Bool.eq_false_or_eq_true (ilt (↑j) (llen by')) with hc1 | hc1
      · rw [hc1]; replace hc1 := of_ilt_t hc1; try simp only [llen_eq] at hc1
        conv => lhs; whnf
        rw [ilt_f (by omega)]
        conv => lhs; whnf
      · rw [hc1]; replace hc1 := of_ilt_f hc1; try simp only [llen_eq] at hc1
        conv => lhs; whnf
    · rw [hc0]; replace hc0 := of_ilt_f hc0; try simp only [llen_eq] at hc0
      conv => lhs; whnf
  | n + 1, j, b, hj, h0, hb => by
    by_cases hc : j < at'.length ∧ j < by'.length
    · obtain ⟨b', hl, ih⟩ := ev_chg_loop raw at' by' cut n (j + 1) (b.set (at'[j]'hc.1 % (b.length : Int)).toNat (by'[j]'hc.2)) (by omega) (by simpa using h0) (by simpa using hb)
      refine ⟨b', by simpa using hl, ?_⟩
      have hq := Int.emod_nonneg (at'[j]'hc.1) (show (b.length : Int) ≠ 0 by omega)
      have hq2 := Int.emod_lt_of_pos (at'[j]'hc.1) (show 0 < (b.length : Int) by omega)
      have em := ev_mod (at'[j]'hc.1) (b.length : Int) (by omega)
      rw [Y_go]; conv => lhs; whnf
      rw [ilt_t (by (simp only [uintB_l2, uintB_l1, blobB_l, seedB_len, sha256_len, fr1_len, fr2_len, fr3_len, LL] at * <;> omega))]
      conv => lhs; whnf
      rw [ilt_t (by (simp only [uintB_l2, uintB_l1, blobB_l, seedB_len, sha256_len, fr1_len, fr2_len, fr3_len, LL] at * <;> omega))]
      conv => lhs; whnf
      rw [ilt_t (by omega)]
      conv => lhs; whnf
      rw [lget_n (by omega)]
      conv => lhs; whnf
      dsimp (config := { iota := false, beta := false, eta := false, zeta := false }) only
      rw [toReq_call]
      rw [llen_eq, em]
      conv => lhs; whnf
      rw [lget_n (by omega)]
      conv => lhs; whnf
      rw [linb_t (by omega)]
      conv => lhs; whnf
      rw [lget_i (by omega)]
      conv => lhs; whnf
      dsimp (config := { iota := false, beta := false, eta := false, zeta := false }) only
      rw [drw (by kernel_rfl)]; conv => lhs; whnf
      dsimp (config := { iota := false, beta := false, eta := false, zeta := false }) only
      rw [iadd_eq (by omega)]
      refine (congrArg (Y E0) ?_).trans ih; (try simp only [Rq.loop.injEq, Rq.call.injEq, Rq.ops.injEq, List.cons.injEq, Prod.mk.injEq, AV.i.injEq, AV.sl.injEq, AV.st.injEq, AV.b.injEq, AV.u8.injEq, AV.nm.injEq, Option.some.injEq, Rs.row.injEq, Rs.var.injEq, heq_eq_eq, true_and, and_true]); (try (repeat' apply And.intro)); all_goals first | (with_reducible rfl) | omega | (rw [iadd_eq (by omega)]; omega) | (rw [isub_eq (by omega)]; omega) | rw [lset_eq]
    · refine ⟨b, rfl, ?_⟩
      rw [Y_go]; conv => lhs; whnf
      rcases Bool.eq_false_or_eq_true (ilt (↑j) (llen at')) with hc0 | hc0
      · rw [hc0]; replace hc0 := of_ilt_t hc0; try simp only [llen_eq] at hc0
        conv => lhs; whnf
        rw [ilt_f (by (simp only [uintB_l2, uintB_l1, blobB_l, seedB_len, sha256_len, fr1_len, fr2_len, fr3_len, LL] at * <;> omega))]
        conv => lhs; whnf
      · rw [hc0]; replace hc0 := of_ilt_f hc0; try simp only [llen_eq] at hc0
        conv => lhs; whnf
theorem ev_EvidenceDecode_loop (ls : List (List UInt8)) (hm : ∀ l ∈ ls, l.length ≤ 12000) (hn : ls.length ≤ 1000) : ∀ (n j : Nat), j + n = ls.length → Y E0 (.loop 6 1 0 0 [(74, .sl (.sl .u8) ls), (75, .i ls.length), (76, .i (j : Int))] []) = some (.fin (.exit 2) 0 [] [])
  | 0, j, hj => by
    rw [Y_go]; conv => lhs; whnf
    rw [ilt_f (by omega)]
    conv => lhs; whnf
  | n + 1, j, hj => by
    have ih := ev_EvidenceDecode_loop ls hm hn n (j + 1) (by omega)
    have hb := hm _ (List.getElem_mem (l := ls) (n := j) (by omega))
    have hg : lget ls (j : Int) = some (ls[j]'(by omega)) := lget_n (by omega)
    have eb := ev_edec (ls[j]'(by omega)) (by omega)
    have fb := ev_r36dec (ls[j]'(by omega)) (by omega)
    have henc := @enc_decE (ls[j]'(by omega))
    generalize ls[j]'(by omega) = b at *
    have hlen := decE_le b
    generalize decE b = B at *
    obtain ⟨⟨qm, qa, qs, ql⟩, e⟩ := B
    dsimp only [eviX] at *
    replace henc := fun (h : e = 0) => (henc (x := ⟨qm, qa, qs, ql⟩) (by rw [h])).1
    obtain ⟨q1, q2, q3⟩ := hlen
    rw [Y_go]; conv => lhs; whnf
    rw [ilt_t (by omega)]
    conv => lhs; whnf
    rw [hg]; conv => lhs; whnf
    dsimp (config := { iota := false, beta := false, eta := false, zeta := false }) only
    rw [toReq_call]
    rw [eb]
    conv => lhs; whnf
    dsimp (config := { iota := false, beta := false, eta := false, zeta := false }) only
    rw [toReq_call]
    rw [fb]
    conv => lhs; whnf
    rw [ine_f (by omega)]
    conv => lhs; whnf
    dsimp (config := { iota := false, beta := false, eta := false, zeta := false }) only
    rw [toReq_call]
    rw [ev_r36same _ _ _ _ _ _ _ _ (by omega) (by omega) (by omega), decide_eq_true rfl]
    conv => lhs; whnf
    rw [bnot_eq]; conv => lhs; whnf
    rcases Bool.eq_false_or_eq_true (ieq e 0) with hc0 | hc0
    · rw [hc0]; replace hc0 := of_ieq_t hc0; try simp only [llen_eq] at hc0
      subst hc0
      conv => lhs; whnf
      dsimp (config := { iota := false, beta := false, eta := false, zeta := false }) only
      rw [toReq_call]
      rw [ev_eenc _ _ _ _]
      conv => lhs; whnf
      dsimp (config := { iota := false, beta := false, eta := false, zeta := false }) only
      rw [toReq_call]
      rw [ev_same _ _ (Nat.le_trans (encE_le _) (by omega)), decide_eq_true (henc (by omega))]
      conv => lhs; whnf
      rw [bnot_eq]; conv => lhs; whnf
      rw [Y_go]; conv => lhs; whnf
      dsimp (config := { iota := false, beta := false, eta := false, zeta := false }) only
      rw [iadd_eq (by omega)]
      refine (congrArg (Y E0) ?_).trans ih; (try simp only [Rq.loop.injEq, Rq.call.injEq, Rq.ops.injEq, List.cons.injEq, Prod.mk.injEq, AV.i.injEq, AV.sl.injEq, AV.st.injEq, AV.b.injEq, AV.u8.injEq, AV.nm.injEq, Option.some.injEq, Rs.row.injEq, Rs.var.injEq, heq_eq_eq, true_and, and_true]); (try (repeat' apply And.intro)); all_goals first | (with_reducible rfl) | omega | (rw [iadd_eq (by omega)]; omega) | (rw [isub_eq (by omega)]; omega)
    · rw [hc0]; replace hc0 := of_ieq_f hc0; try simp only [llen_eq] at hc0
      conv => lhs; whnf
      dsimp (config := { iota := false, beta := false, eta := false, zeta := false }) only
      rw [iadd_eq (by omega)]
      refine (congrArg (Y E0) ?_).trans ih; (try simp only [Rq.loop.injEq, Rq.call.injEq, Rq.ops.injEq, List.cons.injEq, Prod.mk.injEq, AV.i.injEq, AV.sl.injEq, AV.st.injEq, AV.b.injEq, AV.u8.injEq, AV.nm.injEq, Option.some.injEq, Rs.row.injEq, Rs.var.injEq, heq_eq_eq, true_and, and_true]); (try (repeat' apply And.intro)); all_goals first | (with_reducible rfl) | omega | (rw [iadd_eq (by omega)]; omega) | (rw [isub_eq (by omega)]; omega)
theorem ev_EvidenceDecode_m (raw b : List UInt8) (hb : b.length ≤ 12000) : Y E0 (.ops ⟨111, 6, 0⟩ [true, true, true, true, true, true, true, false, false] 0 [Fr.seq [true, true, true, true, true, true, true, false, true] 1, Fr.seq [true, true, true, true, true, true, true, true] 2, Fr.ret] 0 [(0, .sl .u8 raw), (13, .sl .u8 b)] []) = some (.ret (.b true) []) := by
  have hl := ev_EvidenceDecode_loop [List.take (Int.toNat 600) raw, b] (by intro l hl; simp only [List.mem_cons, List.not_mem_nil, or_false] at hl; rcases hl with rfl | rfl; (rw [List.length_take, show Int.toNat 600 = 600 from rfl]; omega); exact hb) (by simp) 2 0 rfl
  rw [Y_go]; conv => lhs; whnf
  dsimp (config := { iota := false, beta := false, eta := false, zeta := false }) only
  rw [toReq_call]
  rw [ev_cut _ _ (by omega)]
  conv => lhs; whnf
  dsimp (config := { iota := false, beta := false, eta := false, zeta := false }) only
  rw [toReq_loop]
  rw [llen_eq]; rw [show ((0 : Nat) : Int) = 0 from rfl] at hl; rw [hl]
  conv => lhs; whnf
theorem ev_EvidenceDecode (raw : List UInt8) (machine : Int) (attest sig log : List UInt8) (m : Int) (at' : List Int) (by' : List UInt8) (cut : Int) : Y E0 (.call 6 [.sl .u8 raw, .agg [.i machine, .sl .u8 attest, .sl .u8 sig, .sl .u8 log], .i m, .sl .i64 at', .sl .u8 by', .i cut] []) = some (.ret (.b true) []) := by
  have ef := ev_few36 machine attest sig log 0
  rw [show fewE ⟨machine, attest, sig, log⟩ 0 = ⟨machine, attest.take 200, sig.take 200, log.take 500⟩ from rfl] at ef
  dsimp only [eviX] at *
  have hc : CanE ⟨1 + m % 4, attest.take 200, sig.take 200, log.take 500⟩ := by
    refine ⟨?_, ?_, ?_, ?_, ?_⟩ <;> simp only [List.length_take] <;> omega
  have h1 := encE_len hc
  obtain ⟨b', hl, e⟩ := ev_chg_loop raw at' by' cut 2 0 (encE ⟨1 + m % 4, attest.take 200, sig.take 200, log.take 500⟩) (by omega) (by rw [h1]; omega) (encE_le _)
  rw [show ((0 : Nat) : Int) = 0 from rfl] at e
  have hle := encE_le ⟨1 + m % 4, attest.take 200, sig.take 200, log.take 500⟩
  have hq : 0 ≤ ishr cut (UInt64.ofNat 1).toNat % (llen b' + 1) ∧ ishr cut (UInt64.ofNat 1).toNat % (llen b' + 1) ≤ b'.length := by
    rw [llen_eq]
    have := Int.emod_nonneg (ishr cut (UInt64.ofNat 1).toNat) (show (b'.length : Int) + 1 ≠ 0 by omega)
    have := Int.emod_lt_of_pos (ishr cut (UInt64.ofNat 1).toNat) (show 0 < (b'.length : Int) + 1 by omega)
    omega
  rw [Y_go]; conv => lhs; whnf
  dsimp (config := { iota := false, beta := false, eta := false, zeta := false }) only
  rw [toReq_call]
  rw [ev_awake36]
  conv => lhs; whnf
  rw [bnot_eq]; conv => lhs; whnf
  dsimp (config := { iota := false, beta := false, eta := false, zeta := false }) only
  rw [toReq_call]
  rw [ef]
  conv => lhs; whnf
  dsimp (config := { iota := false, beta := false, eta := false, zeta := false }) only
  rw [toReq_call]
  rw [ev_mod _ _ (by omega)]
  conv => lhs; whnf
  dsimp (config := { iota := false, beta := false, eta := false, zeta := false }) only
  rw [iadd_eq (by omega)]
  rw [toReq_call]
  rw [ev_r36enc _ _ _ _]
  conv => lhs; whnf
  dsimp (config := { iota := false, beta := false, eta := false, zeta := false }) only
  rw [toReq_loop]
  rw [e]
  conv => lhs; whnf
  rcases Bool.eq_false_or_eq_true (ieq (ibit BinOp.and cut 1) 1) with hc0 | hc0
  · rw [hc0]; replace hc0 := of_ieq_t hc0; try simp only [llen_eq] at hc0
    conv => lhs; whnf
    dsimp (config := { iota := false, beta := false, eta := false, zeta := false }) only
    rw [iadd_eq (by (simp only [uintB_l2, uintB_l1, blobB_l, seedB_len, sha256_len, fr1_len, fr2_len, fr3_len, LL] at * <;> omega))]
    rw [toReq_call]
    rw [ev_mod _ _ (by (simp only [uintB_l2, uintB_l1, blobB_l, seedB_len, sha256_len, fr1_len, fr2_len, fr3_len, LL] at * <;> omega))]
    conv => lhs; whnf
    rw [lcut_0 (by omega)]
    conv => lhs; whnf
    rw [ev_EvidenceDecode_m _ _ (by (simp only [uintB_l2, uintB_l1, blobB_l, seedB_len, sha256_len, fr1_len, fr2_len, fr3_len, LL] at * <;> omega))]
  · rw [hc0]; replace hc0 := of_ieq_f hc0; try simp only [llen_eq] at hc0
    conv => lhs; whnf
    rw [ev_EvidenceDecode_m _ _ (by (simp only [uintB_l2, uintB_l1, blobB_l, seedB_len, sha256_len, fr1_len, fr2_len, fr3_len, LL] at * <;> omega))]
end Go.Proofs.YtchdeeghccdphaaDoor
