/-
  Own text. The abstract machine: judgements over code and over one operation, contracts of calls. It claims nothing of any program.
-/
import Derived.Test.YtlaglaehkhmklaaAx1
import Derived.LoopN
namespace Go.Ax
open Go Go.RowKit Go.Eng
set_option linter.unusedVariables false

/-! ### The judgement over code -/
abbrev SatL (I : World → Prop) (n : Nat) (g : Gx) (m : Nat) (L : LX) (H : HX) (a : Act) (w : World) (ν : Nat → Value) : Prop := Sat I n g (· < m) (fun t => lkx t L) (fun k => hlk k H) a w ν
abbrev PostX := Exit → Nat → LX → HX → Prop
def liftX (I : World → Prop) (n : Nat) (g : Gx) (Q : PostX) : Exit → Act → World → Prop := fun e a w => ∃ m L H ν, Q e m L H ∧ SatL I n g m L H a w ν
def Wc (P : Program) (I : World → Prop) (n : Nat) (g : Gx) (c : Code) (Q : PostX) (m : Nat) (L : LX) (H : HX) : Prop := ∀ a w ν, SatL I n g m L H a w ν → c.wp P (liftX I n g Q) a w

section
variable {P : Program} {I : World → Prop} {n : Nat} {g : Gx} {Q : PostX} {m : Nat} {L : LX} {H : HX}

theorem Wc.mono {c : Code} {Q' : PostX} (h : Wc P I n g c Q m L H) (hq : ∀ e m L H, Q e m L H → Q' e m L H) : Wc P I n g c Q' m L H :=
  fun a w ν S => wp_mono (h a w ν S) fun e a w ⟨m, L, H, ν, q, k⟩ => ⟨m, L, H, ν, hq _ _ _ _ q, k⟩
theorem Wc_seq {x y : Code} (R : PostX) (h : Wc P I n g x R m L H) (hn : ∀ m L H, R .normal m L H → Wc P I n g y Q m L H) (hx : ∀ e m L H, e ≠ .normal → R e m L H → Q e m L H) : Wc P I n g (.seq x y) Q m L H := by
  intro a w ν S
  refine wp_seq (wp_mono (h a w ν S) ?_)
  rintro e a' w' ⟨m', L', H', ν', q, S'⟩
  cases e with
  | normal => exact hn _ _ _ q a' w' ν' S'
  | _ => exact ⟨m', L', H', ν', hx _ _ _ _ (by simp) q, S'⟩
theorem Wc_skip (h : Q .normal m L H) : Wc P I n g .skip Q m L H := fun a w ν S => wp_skip ⟨m, L, H, ν, h, S⟩
theorem Wc_label {l : Nat} (h : Q .normal m L H) : Wc P I n g (.label l) Q m L H := fun a w ν S => wp_label ⟨m, L, H, ν, h, S⟩
theorem Wc_exit {id : Nat} (h : Q (.exit id) m L H) : Wc P I n g (.exit id) Q m L H := fun a w ν S => wp_exit ⟨m, L, H, ν, h, S⟩
theorem Wc_ret (h : Q .ret m L H) : Wc P I n g .ret Q m L H := fun a w ν S => wp_ret ⟨m, L, H, ν, h, S⟩
theorem evx_bool {a : Act} {w : World} {ν : Nat → Value} (S : SatL I n g m L H a w ν) {c : Operand} {t : Bool} (hc : evx L c = some (.b t)) : a.eval c = .bool t := by
  cases c with
  | tmp t' => have := S.slots t' _ hc; simp only [Rep] at this; exact this
  | const v =>
    simp only [evx, Option.some.injEq] at hc
    have := AV.of_rep ⟨fun _ => False, ν, fun _ => False, w⟩ v
    rw [hc] at this
    simp only [Rep] at this
    exact this
  | global g => simp [evx] at hc
  | func g => simp [evx] at hc
theorem Wc_cond {c : Operand} {x y : Code} {t : Bool} (hc : evx L c = some (.b t)) (h : Wc P I n g (bif t then x else y) Q m L H) : Wc P I n g (.cond c x y) Q m L H := by
  intro a w ν S
  have := evx_bool S hc
  cases t with
  | true => exact wp_cond_true this (h a w ν S)
  | false => exact wp_cond_false this (h a w ν S)
theorem Wc_block {id : Nat} {c : Code} (R : PostX) (h : Wc P I n g c R m L H) (h1 : ∀ m L H, R (.exit id) m L H → Q .normal m L H) (h2 : ∀ e m L H, e ≠ .exit id → R e m L H → Q e m L H) : Wc P I n g (.block id c) Q m L H := by
  intro a w ν S
  refine wp_block (wp_mono (h a w ν S) ?_)
  rintro e a' w' ⟨m', L', H', ν', q, S'⟩
  cases e with
  | exit id' =>
    simp only [Exit.inBlock]
    split
    · rename_i hid; subst hid; exact ⟨m', L', H', ν', h1 _ _ _ q, S'⟩
    · rename_i hid; exact ⟨m', L', H', ν', h2 _ _ _ _ (by simpa using hid) q, S'⟩
  | _ => exact ⟨m', L', H', ν', h2 _ _ _ _ (by simp) q, S'⟩

/-! ### One operation -/
end
structure Good (I : World → Prop) (c : Cx) : Prop where
  lt : ∀ b, c.O b → b < c.w.heap.size
  inv : ∀ w', Stp c.O c.w w' → I w'
def ValX (c : Cx) (L : LX) (e : Operand → Value) : Prop := ∀ x s, evx L x = some s → Rep c s (e x)
structure Pre (c : Cx) (F F' : Fp) : Prop where
  res : ∀ k R, flk k F = some R → c.N k ∧ Holds c k R ∧ ∀ b, blk (c.ν k) = some b → c.O b
  dist : ∀ k k' R R' b, flk k F = some R → flk k' F = some R' → k ≠ k' → blk (c.ν k) = some b → blk (c.ν k') ≠ some b
  new : ∀ k, has k F' → has k F ∨ ¬ c.N k
def OPL (P : Program) (I : World → Prop) (L : LX) (F : Fp) (op : Op) (ty : TypeId) (s : AV) (F' : Fp) : Prop :=
  ∀ (c : Cx) (e : Operand → Value), Good I c → ValX c L e → Pre c F F' → opw P e op ty c.w fun v w' => ∃ ν', Ok c F F' s v w' ν'

/-- one operation in a state -/
def OS (P : Program) (I : World → Prop) (n : Nat) (g : Gx) (op : Op) (ty : TypeId) (m : Nat) (L : LX) (H : HX) (K : AV → Nat → HX → Prop) : Prop :=
  ∀ a w ν, SatL I n g m L H a w ν → opw P a.eval op ty w fun v w' => ∃ s m' H' ν', K s m' H' ∧ SatL I n g m' L H' a w' ν' ∧ Rep ⟨(· < m'), ν', ownS g.Oa (fun k => hlk k H') ν', w'⟩ s v

section
variable {P : Program} {I : World → Prop} {n : Nat} {g : Gx} {m : Nat} {L : LX} {H : HX}

theorem Sat.val {N : Nat → Prop} {lk : Nat → Option AV} {hk : Nat → Option Rs} {a : Act} {w : World} {ν : Nat → Value} (S : Sat I n g N lk hk a w ν) {L : LX} (hL : ∀ t s, lkx t L = some s → lk t = some s) : ValX ⟨N, ν, ownS g.Oa hk ν, w⟩ L a.eval := by
  intro x s hx
  cases x with
  | tmp t => exact S.slots t s (hL t s hx)
  | const c => simp only [evx, Option.some.injEq] at hx; subst hx; exact AV.of_rep _ c
  | global g => cases hx
  | func g => simp only [evx, Option.some.injEq] at hx; subst hx; simp only [Rep, Reps]; exact ⟨[], [], rfl, rfl, rfl⟩
theorem Sat.good {N : Nat → Prop} {lk : Nat → Option AV} {hk : Nat → Option Rs} {a : Act} {w : World} {ν : Nat → Value} (S : Sat I n g N lk hk a w ν) : Good I ⟨N, ν, ownS g.Oa hk ν, w⟩ :=
  ⟨fun b hb => by
    rcases hb with h | ⟨k, R, h, hb⟩
    · exact Nat.lt_of_lt_of_le (S.amb b h).1 S.stp.size
    · exact ((S.res k R h).2.2 b hb).1, S.inv⟩
theorem Sat.pre {N : Nat → Prop} {lk : Nat → Option AV} {hk : Nat → Option Rs} {a : Act} {w : World} {ν : Nat → Value} (S : Sat I n g N lk hk a w ν) {F F' : Fp} (hF : ∀ k R, flk k F = some R → hk k = some R) (hnew : ∀ k, has k F' → has k F ∨ ¬ N k) : Pre ⟨N, ν, ownS g.Oa hk ν, w⟩ F F' :=
  ⟨fun k R hk => by
    obtain ⟨r0, r1, r2⟩ := S.res k R (hF k R hk)
    exact ⟨r0, r1, fun b hb => .inr ⟨k, R, hF k R hk, hb⟩⟩, fun k k' R R' b h h' hne => S.dist k k' R R' b (hF k R h) (hF k' R' h') hne, hnew⟩
theorem OS_of {op : Op} {ty : TypeId} {F F' : Fp} {s : AV} {K : AV → Nat → HX → Prop} {m' : Nat} {H' : HX} (h : OPL P I L F op ty s F') (hF : ∀ k R, flk k F = some R → hlk k H = some R) (hnew : ∀ k, has k F' → has k F ∨ ¬ k < m)
    (hN : ∀ k, has k F' → k < m') (hm : m ≤ m') (hk' : ∀ k, hlk k H' = upd F F' (fun k => hlk k H) k) (hK : K s m' H') : OS P I n g op ty m L H K := by
  intro a w ν S
  refine opw_mono (h ⟨(· < m), ν, ownS g.Oa (fun k => hlk k H) ν, w⟩ a.eval S.good (S.val fun _ _ h => h) (S.pre hF hnew)) ?_
  rintro v w' ⟨ν', ok⟩
  obtain ⟨S', hr⟩ := S.step (N' := fun k => k < m ∨ has k F') (hk' := fun k => hlk k H') hF ok (fun _ => Iff.rfl) hk'
  have hsub : ∀ k, (k < m ∨ has k F') → k < m' := fun k h => h.elim (fun h => Nat.lt_of_lt_of_le h hm) (hN k)
  exact ⟨s, m', H', ν', hK, S'.moreN hsub, Rep.le (m := none) (c := ⟨fun k => k < m ∨ has k F', ν', ownS g.Oa (fun k => hlk k H') ν', w'⟩) (c' := ⟨(· < m'), ν', ownS g.Oa (fun k => hlk k H') ν', w'⟩) ⟨fun k _ hk => ⟨hsub k hk, rfl⟩, fun _ h => h⟩ s v (nq_none s) hr⟩
end

/-! ### A region in the order of its text -/
def RS (P : Program) (I : World → Prop) (n : Nat) (g : Gx) (ops : Array Oper) (Q : PostX) (l : List Oper) (m : Nat) (L : LX) (H : HX) : Prop := ∀ a w ν, SatL I n g m L H a w ν → wpList P ops (liftX I n g Q) l a w
section
variable {P : Program} {I : World → Prop} {n : Nat} {g : Gx} {Q : PostX} {m : Nat} {L : LX} {H : HX} {ops : Array Oper} {rest : List Oper}
theorem Wc_region {id : Nat} {l : List Oper} (h : RS P I n g l.toArray Q l m L H) : Wc P I n g (.region id l.toArray false) Q m L H := fun a w ν S => wp_region_lit (h a w ν S)
theorem RS_nil (h : Q .normal m L H) : RS P I n g ops Q [] m L H := fun a w ν S => wpList_nil ⟨m, L, H, ν, h, S⟩
theorem sx {d : Nat} {op : Op} {ty : TypeId} {pos : String} {af : Array Edge} (h : OS P I n g op ty m L H fun s m' H' => RS P I n g ops Q rest m' ((d, s) :: L) H') (hd : d < n) : RS P I n g ops Q (⟨some d, op, ty, pos, af, none⟩ :: rest) m L H := by
  intro a w ν S
  refine wpList_plain rfl fun K hK => wp_of_opw (opw_mono (h a w ν S) ?_)
  rintro v w' ⟨s, m', H', ν', hr, S', hv⟩
  exact hK _ _ (hr _ _ ν' (S'.put hd hv (fun t => lkx_cons t d s L)))
theorem sx0 {op : Op} {ty : TypeId} {pos : String} {af : Array Edge} (h : OS P I n g op ty m L H fun s m' H' => RS P I n g ops Q rest m' L H') : RS P I n g ops Q (⟨none, op, ty, pos, af, none⟩ :: rest) m L H := by
  intro a w ν S
  refine wpList_plain rfl fun K hK => wp_of_opw (opw_mono (h a w ν S) ?_)
  rintro v w' ⟨s, m', H', ν', hr, S', hv⟩
  exact hK _ _ (hr _ _ ν' S')
theorem yield_of {a : Act} {w : World} {ν : Nat → Value} (S : SatL I n g m L H a w ν) {d' j : Nat} {b : Bool} (hj : (ops[j]?).bind (·.dst) = some d') (hb : lkx d' L = some (.b b)) (hd' : d' < n) : yielded ops a.tmps j = some b := by
  have := S.slots d' _ hb
  simp only [Rep] at this
  simp only [yielded, hj, Option.bind_some]
  rw [Array.getD_eq_getD_getElem?] at this
  have hlt : d' < a.tmps.size := by rw [S.size]; exact hd'
  simp only [hlt, Array.getElem?_eq_getElem, Option.getD_some] at this ⊢
  rw [this]
theorem sxY {d d' j : Nat} {want : Bool} {op : Op} {ty : TypeId} {pos : String} {af : Array Edge} (hj : (ops[j]?).bind (·.dst) = some d') (hb : lkx d' L = some (.b want)) (hd' : d' < n)
    (h : OS P I n g op ty m L H fun s m' H' => RS P I n g ops Q rest m' ((d, s) :: L) H') (hd : d < n) : RS P I n g ops Q (⟨some d, op, ty, pos, af, some (j, want)⟩ :: rest) m L H := by
  intro a w ν S
  have hy := yield_of S hj hb hd'
  refine wpList_step fun K hK => ?_
  rw [if_pos (by simp [Region.wanted, hy])]
  refine wp_of_opw (opw_mono (h a w ν S) ?_)
  rintro v w' ⟨s, m', H', ν', hr, S', hv⟩
  exact hK _ _ (hr _ _ ν' (S'.put hd hv (fun t => lkx_cons t d s L)))
theorem sxY0 {d' j : Nat} {want : Bool} {op : Op} {ty : TypeId} {pos : String} {af : Array Edge} (hj : (ops[j]?).bind (·.dst) = some d') (hb : lkx d' L = some (.b want)) (hd' : d' < n)
    (h : OS P I n g op ty m L H fun s m' H' => RS P I n g ops Q rest m' L H') : RS P I n g ops Q (⟨none, op, ty, pos, af, some (j, want)⟩ :: rest) m L H := by
  intro a w ν S
  have hy := yield_of S hj hb hd'
  refine wpList_step fun K hK => ?_
  rw [if_pos (by simp [Region.wanted, hy])]
  refine wp_of_opw (opw_mono (h a w ν S) ?_)
  rintro v w' ⟨s, m', H', ν', hr, S', hv⟩
  exact hK _ _ (hr _ _ ν' S')
theorem sxN {d d' j : Nat} {want b : Bool} {op : Op} {ty : TypeId} {pos : String} {af : Array Edge} (hj : (ops[j]?).bind (·.dst) = some d') (hb : lkx d' L = some (.b b)) (hw : b = !want)
    (h : RS P I n g ops Q rest m ((d, .tup []) :: L) H) (hd : d < n) (hd' : d' < n) : RS P I n g ops Q (⟨some d, op, ty, pos, af, some (j, want)⟩ :: rest) m L H := by
  intro a w ν S
  have hy := yield_of S hj hb hd'
  refine wpList_step fun K hK => ?_
  rw [if_neg (by simp only [Region.wanted, hy, hw]; cases want <;> simp)]
  exact hK _ _ (h _ _ ν (S.put hd (by simp only [Rep, Reps]; exact ⟨[], rfl, rfl⟩) (fun t => lkx_cons t d _ L)))
theorem sxN0 {d' j : Nat} {want b : Bool} {op : Op} {ty : TypeId} {pos : String} {af : Array Edge} (hj : (ops[j]?).bind (·.dst) = some d') (hb : lkx d' L = some (.b b)) (hw : b = !want)
    (h : RS P I n g ops Q rest m L H) (hd' : d' < n) : RS P I n g ops Q (⟨none, op, ty, pos, af, some (j, want)⟩ :: rest) m L H := by
  intro a w ν S
  have hy := yield_of S hj hb hd'
  refine wpList_step fun K hK => ?_
  rw [if_neg (by simp only [Region.wanted, hy, hw]; cases want <;> simp)]
  exact hK _ _ (h _ _ ν S)
/-- a guard whose own operation was not done -/
theorem yield_un {a : Act} {w : World} {ν : Nat → Value} (S : SatL I n g m L H a w ν) {d' j : Nat} (hj : (ops[j]?).bind (·.dst) = some d') (hb : lkx d' L = some (.tup [])) (hd' : d' < n) : yielded ops a.tmps j = none := by
  have := S.slots d' _ hb
  simp only [Rep, Reps] at this
  obtain ⟨us, h1, rfl⟩ := this
  simp only [yielded, hj, Option.bind_some]
  rw [Array.getD_eq_getD_getElem?] at h1
  have hlt : d' < a.tmps.size := by rw [S.size]; exact hd'
  simp only [hlt, Array.getElem?_eq_getElem, Option.getD_some] at h1 ⊢
  rw [h1]
theorem sxU {d d' j : Nat} {want : Bool} {op : Op} {ty : TypeId} {pos : String} {af : Array Edge} (hj : (ops[j]?).bind (·.dst) = some d') (hb : lkx d' L = some (.tup []))
    (h : RS P I n g ops Q rest m ((d, .tup []) :: L) H) (hd : d < n) (hd' : d' < n) : RS P I n g ops Q (⟨some d, op, ty, pos, af, some (j, want)⟩ :: rest) m L H := by
  intro a w ν S
  have hy := yield_un S hj hb hd'
  refine wpList_step fun K hK => ?_
  rw [if_neg (by simp [Region.wanted, hy])]
  exact hK _ _ (h _ _ ν (S.put hd (by simp only [Rep, Reps]; exact ⟨[], rfl, rfl⟩) (fun t => lkx_cons t d _ L)))
theorem sxU0 {d' j : Nat} {want : Bool} {op : Op} {ty : TypeId} {pos : String} {af : Array Edge} (hj : (ops[j]?).bind (·.dst) = some d') (hb : lkx d' L = some (.tup []))
    (h : RS P I n g ops Q rest m L H) (hd' : d' < n) : RS P I n g ops Q (⟨none, op, ty, pos, af, some (j, want)⟩ :: rest) m L H := by
  intro a w ν S
  have hy := yield_un S hj hb hd'
  refine wpList_step fun K hK => ?_
  rw [if_neg (by simp [Region.wanted, hy])]
  exact hK _ _ (h _ _ ν S)
end
end Go.Ax
