/-
  Own text. What slices, blocks and strings hold, and one lemma for each kind of operation on them. It claims nothing of any program.
-/
import Derived.Test.YtlaglaehkhmklaaOps1
import Derived.Laws.CopyOwn
namespace Go.Eng
open Go Go.RowKit
set_option linter.unusedVariables false

/-! ### Worlds -/
/-- Nothing that was there has changed. -/
abbrev Ext (w w' : World) : Prop := Below w.heap.size w w'
theorem Ext.refl (w : World) : Ext w w := Below.refl _ _
theorem Ext.trans {a b c : World} (h : Ext a b) (k : Ext b c) : Ext a c := Below.trans h (Below.mono k h.size)
theorem Ext.alloc (w : World) (o : Obj) : Ext w (w.alloc o) := (Below.refl _ _).alloc (Nat.le_refl _) o
theorem Ext.drew (w : World) : Ext w w.drew := (Below.refl _ _).drew
/-- .. but for one block that was made since -/
theorem Ext.grown {w0 w w' : World} {r : Option Nat} (h : Ext w0 w) (hg : w.grownBy w' r) (hr : ∀ k, r = some k → w0.heap.size ≤ k) : Ext w0 w' := Below.grown h hg h.size hr
theorem Ext.below {w0 w w' : World} {B : Nat} (h : Ext w0 w) (hg : Below B w w') (hB : w0.heap.size ≤ B) : Ext w0 w' := Below.trans h (hg.mono hB)
theorem grownBy.trans {a b c : World} {r : Option Nat} (h : a.grownBy b r) (k : b.grownBy c r) : a.grownBy c r :=
  ⟨k.os.trans h.os, k.tape.trans h.tape, k.output.trans h.output, Nat.le_trans h.size k.size, fun i hi hr => (k.block i (Nat.lt_of_lt_of_le hi h.size) hr).trans (h.block i hi hr)⟩
theorem grownBy.ext {a b c : World} {r : Option Nat} (h : a.grownBy b r) (k : Ext b c) : a.grownBy c r :=
  ⟨k.os.trans h.os, k.tape.trans h.tape, k.output.trans h.output, Nat.le_trans h.size k.size, fun i hi hr => (k.block i (Nat.lt_of_lt_of_le hi h.size)).trans (h.block i hi hr)⟩
theorem grownBy.of_ext {a b : World} (k : Ext a b) (r : Option Nat) : a.grownBy b r :=
  ⟨k.os, k.tape, k.output, k.size, fun i hi _ => k.block i hi⟩
/-- a block made since has changed -/
theorem grownBy.other {a b c : World} {r : Option Nat} {g : Nat} (h : a.grownBy b r) (k : b.grownBy c (some g)) (hg : a.heap.size ≤ g) : a.grownBy c r :=
  ⟨k.os.trans h.os, k.tape.trans h.tape, k.output.trans h.output, Nat.le_trans h.size k.size, fun i hi hr => (k.block i (Nat.lt_of_lt_of_le hi h.size) (fun e => by have := Option.some.inj e; omega)).trans (h.block i hi hr)⟩
theorem grownBy.to_ext {a b : World} {g : Nat} (h : a.grownBy b (some g)) (hg : a.heap.size ≤ g) : Ext a b :=
  ⟨h.os, h.tape, h.output, h.size, fun i hi => h.block i hi (fun e => by have := Option.some.inj e; omega)⟩

/-! ### Addresses, cells -/
theorem add_add (p : Addr) (i j : Nat) : (p.add i).add j = p.add (i + j) := by
  unfold Addr.add
  by_cases hi : i = 0
  · subst hi; simp
  · by_cases hj : j = 0
    · subst hj; simp
    · simp [hi, hj]; omega
theorem add_block (p : Addr) (i : Nat) : (p.add i).block = p.block := by unfold Addr.add; split <;> rfl

/-- the cells from p on -/
def Cs (w : World) (p : Addr) (cells : List Value) : Prop := ∀ j u, cells[j]? = some u → w.cell? (p.add j) = some u

theorem cell_ext {w w' : World} {p : Addr} {u : Value} (h : w.cell? p = some u) (he : Ext w w') : w'.cell? p = some u :=
  (he.cell (World.block_lt_of_cell? w p h)).trans h
theorem cell_grown {w w' : World} {p : Addr} {u : Value} {r : Option Nat} (h : w.cell? p = some u) (hg : w.grownBy w' r) (hne : r ≠ some p.block) : w'.cell? p = some u :=
  hg.cell h (fun e => hne e.symm)
theorem Cs.ext {w w' : World} {p : Addr} {c : List Value} (h : Cs w p c) (he : Ext w w') : Cs w' p c := fun j u hu => cell_ext (h j u hu) he
theorem Cs.grown {w w' : World} {p : Addr} {c : List Value} {r : Option Nat} (h : Cs w p c) (hg : w.grownBy w' r) (hne : r ≠ some p.block) : Cs w' p c :=
  fun j u hu => cell_grown (h j u hu) hg (by rw [add_block]; exact hne)
theorem Cs.drop {w : World} {p : Addr} {c : List Value} (h : Cs w p c) (k : Nat) : Cs w (p.add k) (c.drop k) := fun j u hu => by
  rw [add_add]; exact h _ u (by rw [← hu, List.getElem?_drop])
theorem Cs.take {w : World} {p : Addr} {c : List Value} (h : Cs w p c) (k : Nat) : Cs w p (c.take k) := fun j u hu => by
  rw [List.getElem?_take] at hu
  split at hu
  · exact h j u hu
  · cases hu

/-- v is a slice of n elements of sz cells each -/
def Sl (w : World) (sz : Nat) (v : Value) (cells : List Value) (n : Nat) : Prop :=
  ∃ a cap, v = .slice a n cap ∧ cells.length = n * sz ∧ n ≤ cap ∧ cap ≤ maxLen ∧ (a = none → n = 0 ∧ cap = 0) ∧ ∀ p, a = some p → Cs w p cells
def Tight (v : Value) : Prop := ∃ a n, v = .slice a n n
/-- v's array begins in a block below B, or v is nil -/
def Under (B : Nat) (v : Value) : Prop := ∀ g, v.ownBlock = some g → g < B

theorem Sl.ext {w w' : World} {sz n : Nat} {v : Value} {c : List Value} (h : Sl w sz v c n) (he : Ext w w') : Sl w' sz v c n := by
  obtain ⟨a, cap, h1, h2, h3, h4, h5, h6⟩ := h
  exact ⟨a, cap, h1, h2, h3, h4, h5, fun p hp => (h6 p hp).ext he⟩
theorem Sl.grown {w w' : World} {sz n : Nat} {v : Value} {c : List Value} {r : Option Nat} (h : Sl w sz v c n) (hg : w.grownBy w' r) (hne : ∀ g, v.ownBlock = some g → r ≠ some g) : Sl w' sz v c n := by
  obtain ⟨a, cap, h1, h2, h3, h4, h5, h6⟩ := h
  refine ⟨a, cap, h1, h2, h3, h4, h5, fun p hp => (h6 p hp).grown hg ?_⟩
  subst hp; subst h1
  exact hne p.block rfl
theorem Sl.len {w : World} {sz n : Nat} {v : Value} {c : List Value} (h : Sl w sz v c n) : c.length = n * sz := by obtain ⟨_, _, _, h, _⟩ := h; exact h
theorem Sl.max {w : World} {sz n : Nat} {v : Value} {c : List Value} (h : Sl w sz v c n) : n ≤ maxLen := by obtain ⟨_, _, _, _, h, h', _⟩ := h; exact Nat.le_trans h h'
theorem Sl.nil (w : World) (sz : Nat) : Sl w sz (.slice none 0 0) [] 0 := ⟨none, 0, rfl, by simp, Nat.le_refl _, by simp [maxLen], fun _ => ⟨rfl, rfl⟩, fun p hp => by cases hp⟩
theorem Sl.of_own {w : World} {base e sz n : Nat} {v : Value} {c : List Value} (h : w.ownsRow base e sz v n c) : Sl w sz v c n := by
  have hl := h.1
  rcases h.2 with ⟨rfl, rfl⟩ | ⟨g, cap, cur, rfl, hb, hh, hn, hm, hs, ht⟩
  · have : c = [] := List.eq_nil_of_length_eq_zero (by simpa using hl)
    subst this; exact Sl.nil w sz
  · exact ⟨some ⟨g, 0, none⟩, cap, rfl, hl, hn, hm, (fun h => by cases h), fun p hp => by obtain rfl := Option.some.inj hp; exact fun j u hu => h.cells rfl j u hu⟩

abbrev Bytes (w : World) (v : Value) (l : List UInt8) : Prop := Sl w 1 v (l.map byteV) l.length
abbrev Words (w : World) (v : Value) (l : List UInt32) : Prop := Sl w 1 v (l.map wordV) l.length
def intV (n : Int) : Value := .int .i64 n
abbrev Ints (w : World) (v : Value) (l : List Int) : Prop := Sl w 1 v (l.map intV) l.length

theorem byteV_one (l : List UInt8) : ∀ c ∈ l.map byteV, c.oneCell' = true := by
  intro c hc; obtain ⟨b, _, rfl⟩ := List.mem_map.1 hc; rfl
theorem wordV_one (l : List UInt32) : ∀ c ∈ l.map wordV, c.oneCell' = true := by
  intro c hc; obtain ⟨b, _, rfl⟩ := List.mem_map.1 hc; rfl
theorem intV_one (l : List Int) : ∀ c ∈ l.map intV, c.oneCell' = true := by
  intro c hc; obtain ⟨b, _, rfl⟩ := List.mem_map.1 hc; rfl

/-! ### Types of slices -/
structure SliceT (P : Program) (t e : TypeId) (z : Value) (sz bytes : Nat) : Prop where
  ht : P.underlying t = some (.slice e)
  hi : (P.info? e).map (fun i => (i.zero, i.size, i.bytes)) = some (some z, sz, bytes)
  hzs : z.cells.size = sz
  hsz : 0 < sz

section
variable {P : Program} {L : Lst} {w : World} {ty : TypeId} {K : SV → World → Prop} {t e sz bytes : Nat} {z : Value}

theorem SliceT.run_size (T : SliceT P t e z sz bytes) (w : World) : (sizeOf e).run P w = .ok sz w := by
  obtain ⟨i, h1, h2, h3, h4⟩ := info_parts T.hi
  simp [sizeOf, typeInfo, h1, h3]

/-- calls of builtins -/
theorem run_builtin (ρ : Operand → Value) (b : Builtin) (args : Array Operand) (ats : Array TypeId) {v : Value} {w' : World}
    (h : (builtin b ats ty (args.map fun | .const _ => true | _ => false) (args.map ρ)).run P w = .ok (.value v) w') :
    (execOp ρ ⟨none, .call { callee := .builtin b, args := args, argTypes := ats }, ty, "", #[], none⟩).run P w = .ok (.value v) w' := by
  have h1 : execOp ρ ⟨none, .call { callee := .builtin b, args := args, argTypes := ats }, ty, "", #[], none⟩ = (do let d ← resolve ρ { callee := .builtin b, args := args, argTypes := ats } ty; invoke d.target d.args) := rfl
  rw [h1]
  simp only [resolve, Sem.run_bind, Sem.run_pure, Result.andThen_ok, invoke]
  exact h

theorem OP_len {x : Operand} {v : Value} {c : List Value} {n : Nat} (ht : P.underlying t = some (.slice e)) (hx : evo L x = some (.v v)) (hv : Sl w sz v c n) (hk : K (.v (.int .i64 (n : Int))) w) :
    OP P L (.call { callee := .builtin .len, args := #[x], argTypes := #[t] }) ty w K :=
  OP_run (fun ρ he => run_builtin ρ _ _ _ (by
    obtain ⟨a, cap, rfl, _⟩ := hv
    have h1 : ρ x = .slice a n cap := he x _ hx
    simp [builtin, Builtin.len_, h1, run_underlying ht, goInt, SV.den])) hk
theorem OP_lens {x : Operand} {s : ByteArray} (ht : P.underlying t = some .string) (hx : evo L x = some (.v (.string s))) (hk : K (.v (.int .i64 (s.size : Int))) w) :
    OP P L (.call { callee := .builtin .len, args := #[x], argTypes := #[t] }) ty w K :=
  OP_run (fun ρ he => run_builtin ρ _ _ _ (by
    have h1 : ρ x = .string s := he x _ hx
    simp [builtin, Builtin.len_, h1, run_underlying ht, goInt, SV.den])) hk

/-- append to a slice of the call's own -/
theorem OP_append {s x : Operand} {v u : Value} {n m base : Nat} {xs news : List Value} (T : SliceT P t e z sz bytes) (hs : evo L s = some (.v v)) (hx : evo L x = some (.v u)) (hown : w.ownsRow base e sz v n xs) (hsl : Sl w sz u news m)
    (h1 : ∀ c ∈ news, c.oneCell' = true) (hb : n + m ≤ maxLen ∧ (n + m) * bytes ≤ 140737488355328) (hbase : base ≤ w.heap.size)
    (hk : ∀ v' w', w'.ownsRow base e sz v' (n + m) (xs ++ news) → Below base w w' → w.grownBy w' v.ownBlock → K (.v v') w') :
    OP P L (.call { callee := .builtin .append, args := #[s, x], argTypes := #[t, t] }) ty w K := by
  obtain ⟨i, hi, hz, hsize, hby⟩ := info_parts T.hi
  obtain ⟨a, cap, rfl, hl, _, _, hnone, hcs⟩ := hsl
  have fin : ∀ v' w', (Builtin.append_ #[t, t] ty #[v, .slice a m cap]).run P w = .ok v' w' → K (.v v') w' → OP P L (.call { callee := .builtin .append, args := #[s, x], argTypes := #[t, t] }) ty w K := by
    intro v' w' hr hk
    refine OP_run (s := .v v') (fun ρ he => run_builtin ρ _ _ _ ?_) hk
    have e1 : ρ s = v := he s _ hs
    have e2 : ρ x = .slice a m cap := he x _ hx
    simp only [builtin, List.map_toArray, List.map_cons, List.map_nil, e1, e2, Sem.run_bind, hr, Result.andThen_ok, Sem.run_pure, SV.den]
  have bel : ∀ w', w.grownBy w' v.ownBlock → Below base w w' := fun w' hg => (Below.refl base w).grown hg hbase (fun k hk => (hown.lt k hk).1)
  cases a with
  | none =>
    obtain ⟨rfl, rfl⟩ := hnone rfl
    have hn0 : news = [] := List.eq_nil_of_length_eq_zero (by simpa using hl)
    subst hn0
    have hr := run_append_owned_none (P := P) w base t ty e i sz T.ht hi v n xs hown
    exact fin _ _ hr (hk v w (by simpa using hown) (Below.refl _ _) (World.grownBy.refl _ _))
  | some p =>
    obtain ⟨v', w', hr, h2, h3, h4⟩ := run_append_own (P := P) w base t ty e i z sz bytes T.ht hi hz hsize hby T.hzs T.hsz v n xs hown p m cap news hl (hcs p rfl) h1 hb.1 hb.2 hbase
    exact fin _ _ hr (hk v' w' h2 (bel _ h3) h3)

/-- append to a slice without spare places: what was there stays -/
theorem OP_append_tight {s x : Operand} {v u : Value} {n m : Nat} {xs news : List Value} (T : SliceT P t e z sz bytes) (hs : evo L s = some (.v v)) (hx : evo L x = some (.v u)) (hv : Sl w sz v xs n) (htight : Tight v) (hsl : Sl w sz u news m) (h1 : ∀ c ∈ news, c.oneCell' = true)
    (hb : n + m ≤ maxLen ∧ (n + m) * bytes ≤ 140737488355328)
    (hk : ∀ v' w', Sl w' sz v' (xs ++ news) (n + m) → (w'.ownsRow w.heap.size e sz v' (n + m) (xs ++ news) ∨ (m = 0 ∧ v' = v)) → Ext w w' → K (.v v') w') :
    OP P L (.call { callee := .builtin .append, args := #[s, x], argTypes := #[t, t] }) ty w K := by
  obtain ⟨i, hi, hz, hsize, hby⟩ := info_parts T.hi
  have hv' := hv
  have hsl' := hsl
  obtain ⟨b, cap, rfl, hlo, hncap, hmax, hbn, hbs⟩ := hv
  obtain ⟨b', n', ht⟩ := htight
  simp only [Value.slice.injEq] at ht
  obtain ⟨_, e1, e2⟩ := ht
  obtain ⟨a, c, rfl, hl, _, _, hnone, hcs⟩ := hsl
  have fin : ∀ v' w', (Builtin.append_ #[t, t] ty #[.slice b n cap, .slice a m c]).run P w = .ok v' w' → K (.v v') w' → OP P L (.call { callee := .builtin .append, args := #[s, x], argTypes := #[t, t] }) ty w K := by
    intro v' w' hr hk
    refine OP_run (s := .v v') (fun ρ he => run_builtin ρ _ _ _ ?_) hk
    have e1 : ρ s = .slice b n cap := he s _ hs
    have e2 : ρ x = .slice a m c := he x _ hx
    simp only [builtin, List.map_toArray, List.map_cons, List.map_nil, e1, e2, Sem.run_bind, hr, Result.andThen_ok, Sem.run_pure, SV.den]
  by_cases hm : m = 0
  · subst hm
    have hn0 : news = [] := List.eq_nil_of_length_eq_zero (by simpa using hl)
    subst hn0
    have : (Builtin.append_ #[t, t] ty #[.slice b n cap, .slice a 0 c]).run P w = .ok (.slice b n cap) w := by
      have hf : (Builtin.firstCells i.size 0 (.slice a 0 c)).run P w = .ok #[] w := by
        cases a with
        | none => simp [Builtin.firstCells]
        | some p => simp [Builtin.firstCells, loadCells, loadCellsFrom]
      simp [Builtin.append_, run_underlying T.ht, sizeOf, typeInfo, hi, Builtin.lenOf, hncap, hf]
      cases b <;> simp [storeCells]
    exact fin _ _ this (hk _ _ (by simpa using hv') (.inr ⟨rfl, rfl⟩) (Ext.refl _))
  · cases a with
    | none => exact absurd (hnone rfl).1 hm
    | some p =>
      cases b with
      | none =>
        obtain ⟨rfl, rfl⟩ := hbn rfl
        have hx0 : xs = [] := List.eq_nil_of_length_eq_zero (by simpa using hlo)
        subst hx0
        obtain ⟨v', w', hr, h2, h3, h4⟩ := run_append_own (P := P) w w.heap.size t ty e i z sz bytes T.ht hi hz hsize hby T.hzs T.hsz _ 0 [] (World.ownsRow_nil w w.heap.size e sz) p m c news hl (hcs p rfl) h1 hb.1 hb.2 (Nat.le_refl _)
        exact fin _ _ hr (hk _ _ (Sl.of_own h2) (.inl h2) ((Below.refl _ _).grown h3 (Nat.le_refl _) (fun k hk => by cases hk)))
      | some q =>
        obtain ⟨v', w', hr, h2, h3⟩ := run_append_arg_grows (P := P) w t ty e i z sz bytes T.ht hi hz hsize hby T.hzs T.hsz q n cap xs hlo (hbs q rfl) p m c news hl (hcs p rfl) (by omega) hb.1 hb.2
        exact fin _ _ hr (hk _ _ (Sl.of_own h2) (.inl h2) ((Below.refl _ _).grown h3 (Nat.le_refl _) (fun k hk => by cases hk)))
end
end Go.Eng
