/-
  Own text. An abstract machine for Go code: values as plain data, variables and rows of the call's own under names. First part: what an abstract value stands for in a world, and how states change. It claims nothing of any program.
-/
import Derived.Test.YtlaglaehkhmklaaOps3
import Derived.Test.YtlaglaehkhmklaaFrm
namespace Go.Ax
open Go Go.RowKit Go.Eng
set_option linter.unusedVariables false

/-- nothing but blocks of O has changed -/
structure Stp (O : Nat → Prop) (w w' : World) : Prop where
  os : w'.os = w.os
  tape : w'.tape = w.tape
  output : w'.output = w.output
  size : w.heap.size ≤ w'.heap.size
  block : ∀ k, k < w.heap.size → ¬ O k → w'.heap[k]? = w.heap[k]?
theorem Stp.refl (O : Nat → Prop) (w : World) : Stp O w w := ⟨rfl, rfl, rfl, Nat.le_refl _, fun _ _ _ => rfl⟩
theorem Stp.trans {O : Nat → Prop} {a b c : World} (h : Stp O a b) (k : Stp O b c) : Stp O a c :=
  ⟨k.os.trans h.os, k.tape.trans h.tape, k.output.trans h.output, Nat.le_trans h.size k.size, fun i hi hn => (k.block i (Nat.lt_of_lt_of_le hi h.size) hn).trans (h.block i hi hn)⟩
/-- two steps in a row, seen from the first world -/
theorem Stp.then {O O1 O2 : Nat → Prop} {a b c : World} (h : Stp O1 a b) (k : Stp O2 b c) (h1 : ∀ i, i < a.heap.size → O1 i → O i) (h2 : ∀ i, i < a.heap.size → O2 i → O i) : Stp O a c :=
  ⟨k.os.trans h.os, k.tape.trans h.tape, k.output.trans h.output, Nat.le_trans h.size k.size, fun i hi hn => (k.block i (Nat.lt_of_lt_of_le hi h.size) (fun e => hn (h2 i hi e))).trans (h.block i hi (fun e => hn (h1 i hi e)))⟩
theorem Stp.mono {O O' : Nat → Prop} {a b : World} (h : Stp O a b) (k : ∀ i, i < a.heap.size → O i → O' i) : Stp O' a b :=
  ⟨h.os, h.tape, h.output, h.size, fun i hi hn => h.block i hi (fun e => hn (k i hi e))⟩
abbrev No : Nat → Prop := fun _ => False
theorem Stp.of_ext {w w' : World} (h : Ext w w') (O : Nat → Prop) : Stp O w w' := ⟨h.os, h.tape, h.output, h.size, fun i hi _ => h.block i hi⟩
theorem Stp.ext {w w' : World} (h : Stp No w w') : Ext w w' := ⟨h.os, h.tape, h.output, h.size, fun i hi => h.block i hi id⟩
theorem Stp.of_grown {w w' : World} {r : Option Nat} (h : w.grownBy w' r) : Stp (fun b => r = some b) w w' := ⟨h.os, h.tape, h.output, h.size, fun i hi hn => h.block i hi (fun e => hn e.symm)⟩

/-! ### Plain data -/
inductive Ty where
  | bool | i64 | u8 | u32 | u64 | str | unit
  | pair (a b : Ty)
  | sl (e : Ty)
  deriving DecidableEq
@[reducible] def El : Ty → Type
  | .bool => Bool | .i64 => Int | .u8 => UInt8 | .u32 => UInt32 | .u64 => UInt64 | .str => List UInt8 | .unit => Unit
  | .pair a b => El a × El b
  | .sl e => List (El e)
/-- how many cells it takes -/
def Ty.n : Ty → Nat
  | .unit => 0
  | .pair a b => a.n + b.n
  | _ => 1
def All2 {α β : Type} (R : α → β → Prop) : List α → List β → Prop
  | [], [] => True
  | a :: l, b :: m => R a b ∧ All2 R l m
  | _, _ => False
theorem All2.len {α β : Type} {R : α → β → Prop} : ∀ {l : List α} {m : List β}, All2 R l m → m.length = l.length
  | [], [], _ => rfl
  | a :: l, b :: m, h => by simp [All2.len h.2]
  | [], b :: m, h => h.elim
  | a :: l, [], h => h.elim
theorem All2.mono {α β : Type} {R R' : α → β → Prop} (hR : ∀ a b, R a b → R' a b) : ∀ {l : List α} {m : List β}, All2 R l m → All2 R' l m
  | [], [], _ => trivial
  | a :: l, b :: m, h => ⟨hR _ _ h.1, All2.mono hR h.2⟩
  | [], b :: m, h => h.elim
  | a :: l, [], h => h.elim
theorem All2.get {α β : Type} {R : α → β → Prop} : ∀ {l : List α} {m : List β} {i : Nat} {a : α}, All2 R l m → l[i]? = some a → ∃ b, m[i]? = some b ∧ R a b
  | [], [], i, a, _, h => by simp at h
  | x :: l, y :: m, 0, a, h, hi => ⟨y, rfl, by simp at hi; exact hi ▸ h.1⟩
  | x :: l, y :: m, i + 1, a, h, hi => by
    obtain ⟨b, h1, h2⟩ := All2.get h.2 (i := i) (a := a) (by simpa using hi)
    exact ⟨b, by simpa using h1, h2⟩
  | [], b :: m, _, _, h, _ => h.elim
  | a :: l, [], _, _, h, _ => h.elim
theorem All2.app {α β : Type} {R : α → β → Prop} : ∀ {l l' : List α} {m m' : List β}, All2 R l m → All2 R l' m' → All2 R (l ++ l') (m ++ m')
  | [], _, [], _, _, h => h
  | a :: l, _, b :: m, _, h, h' => ⟨h.1, All2.app h.2 h'⟩
  | [], _, b :: m, _, h, _ => h.elim
  | a :: l, _, [], _, h, _ => h.elim
theorem All2.take {α β : Type} {R : α → β → Prop} : ∀ {l : List α} {m : List β} (n : Nat), All2 R l m → All2 R (l.take n) (m.take n)
  | _, _, 0, _ => by simp [All2]
  | [], [], n + 1, _ => by simp [All2]
  | a :: l, b :: m, n + 1, h => by simp only [List.take_succ_cons]; exact ⟨h.1, All2.take n h.2⟩
  | [], b :: m, _ + 1, h => h.elim
  | a :: l, [], _ + 1, h => h.elim
theorem All2.drop {α β : Type} {R : α → β → Prop} : ∀ {l : List α} {m : List β} (n : Nat), All2 R l m → All2 R (l.drop n) (m.drop n)
  | l, m, 0, h => by simpa using h
  | [], [], n + 1, _ => by simp [All2]
  | a :: l, b :: m, n + 1, h => by simpa using All2.drop n h.2
  | [], b :: m, _ + 1, h => h.elim
  | a :: l, [], _ + 1, h => h.elim
/-- the cells us of the world hold x -/
def CR : (t : Ty) → El t → List Value → World → Prop
  | .bool, x, us, _ => us = [.bool x]
  | .i64, x, us, _ => us = [.int .i64 x]
  | .u8, x, us, _ => us = [byteV x]
  | .u32, x, us, _ => us = [wordV x]
  | .u64, x, us, _ => us = [longV x]
  | .str, x, us, _ => us = [.string ⟨x.toArray⟩]
  | .unit, _, us, _ => us = []
  | .pair a b, x, us, w => ∃ u1 u2, us = u1 ++ u2 ∧ CR a x.1 u1 w ∧ CR b x.2 u2 w
  | .sl e, l, us, w => ∃ v cs, us = [v] ∧ All2 (fun x c => CR e x c w) l cs ∧ Sl w e.n v cs.flatten l.length
/-- a slice that reads as l -/
def Rd (t : Ty) (l : List (El t)) (v : Value) (w : World) : Prop := ∃ cs, All2 (fun x c => CR t x c w) l cs ∧ Sl w t.n v cs.flatten l.length
theorem CR.len {w : World} : ∀ {t : Ty} {x : El t} {us : List Value}, CR t x us w → us.length = t.n
  | .bool, x, us, h => by simp only [CR] at h; subst h; rfl
  | .i64, x, us, h => by simp only [CR] at h; subst h; rfl
  | .u8, x, us, h => by simp only [CR] at h; subst h; rfl
  | .u32, x, us, h => by simp only [CR] at h; subst h; rfl
  | .u64, x, us, h => by simp only [CR] at h; subst h; rfl
  | .str, x, us, h => by simp only [CR] at h; subst h; rfl
  | .unit, x, us, h => by simp only [CR] at h; subst h; rfl
  | .pair a b, x, us, h => by
    simp only [CR] at h
    obtain ⟨u1, u2, rfl, h1, h2⟩ := h
    rw [List.length_append, CR.len h1, CR.len h2]; rfl
  | .sl e, x, us, h => by simp only [CR] at h; obtain ⟨v, cs, rfl, _⟩ := h; rfl
theorem Sl.one {w : World} {sz n : Nat} {v : Value} {c : List Value} (h : Sl w sz v c n) : v.oneCell' = true := by
  obtain ⟨a, cap, rfl, _⟩ := h; rfl
theorem CR.one {w : World} : ∀ {t : Ty} {x : El t} {us : List Value}, CR t x us w → ∀ u ∈ us, u.oneCell' = true
  | .bool, x, us, h => by simp only [CR] at h; subst h; simp [Value.oneCell']
  | .i64, x, us, h => by simp only [CR] at h; subst h; simp [Value.oneCell']
  | .u8, x, us, h => by simp only [CR] at h; subst h; simp [Value.oneCell', byteV]
  | .u32, x, us, h => by simp only [CR] at h; subst h; simp [Value.oneCell', wordV]
  | .u64, x, us, h => by simp only [CR] at h; subst h; simp [Value.oneCell', longV]
  | .str, x, us, h => by simp only [CR] at h; subst h; simp [Value.oneCell']
  | .unit, x, us, h => by simp only [CR] at h; subst h; simp
  | .pair a b, x, us, h => by
    simp only [CR] at h
    obtain ⟨u1, u2, rfl, h1, h2⟩ := h
    intro u hu
    rcases List.mem_append.1 hu with h | h
    · exact CR.one h1 u h
    · exact CR.one h2 u h
  | .sl e, x, us, h => by
    simp only [CR] at h; obtain ⟨v, cs, rfl, h1, h2⟩ := h
    intro u hu; rw [List.mem_singleton.1 hu]; exact Sl.one h2

/-! ### Abstract values -/
inductive AV where
  | un
  | b (x : Bool) | i (x : Int) | u8 (x : UInt8) | u32 (x : UInt32) | u64 (x : UInt64) | str (l : List UInt8)
  | sl (t : Ty) (l : List (El t))
  | st (t : Ty) (l : List (El t))
  | nil
  | nm (k : Nat)
  | pa (k off : Nat)
  | pe (k : Nat) (i : Int) (sz off : Nat)
  | pt (l : List AV)
  | agg (l : List AV)
  | tup (l : List AV)
  | fn (f : Nat) (a b : List AV)
def flat : (t : Ty) → El t → List AV
  | .bool, x => [.b x]
  | .i64, x => [.i x]
  | .u8, x => [.u8 x]
  | .u32, x => [.u32 x]
  | .u64, x => [.u64 x]
  | .str, x => [.str x]
  | .unit, _ => []
  | .pair a b, x => flat a x.1 ++ flat b x.2
  | .sl e, l => [.sl e l]
def flatL (t : Ty) : List (El t) → List AV
  | [] => []
  | x :: l => flat t x ++ flatL t l
theorem flat_len : ∀ (t : Ty) (x : El t), (flat t x).length = t.n
  | .bool, _ | .i64, _ | .u8, _ | .u32, _ | .u64, _ | .str, _ | .unit, _ | .sl _, _ => rfl
  | .pair a b, x => by rw [flat, List.length_append, flat_len a, flat_len b]; rfl
theorem flatL_len (t : Ty) : ∀ (l : List (El t)), (flatL t l).length = l.length * t.n
  | [] => by simp [flatL]
  | x :: l => by rw [flatL, List.length_append, flat_len, flatL_len t l, List.length_cons, Nat.add_mul]; omega
theorem flatL_app (t : Ty) : ∀ (l m : List (El t)), flatL t (l ++ m) = flatL t l ++ flatL t m
  | [], m => rfl
  | x :: l, m => by rw [List.cons_append, flatL, flatL, flatL_app t l m, List.append_assoc]

structure Cx where
  N : Nat → Prop
  ν : Nat → Value
  O : Nat → Prop
  w : World
def blk : Value → Option Nat
  | .pointer (some p) => some p.block
  | .slice (some p) _ _ => some p.block
  | _ => none

mutual
def Rep (c : Cx) : AV → Value → Prop
  | .un, _ => True
  | .b x, u => u = .bool x
  | .i x, u => u = .int .i64 x
  | .u8 x, u => u = byteV x
  | .u32 x, u => u = wordV x
  | .u64 x, u => u = longV x
  | .str x, u => u = .string ⟨x.toArray⟩
  | .sl t l, u => ∀ w', Stp c.O c.w w' → Rd t l u w'
  | .st t l, u => Tight u ∧ ∀ w', Stp c.O c.w w' → Rd t l u w'
  | .nil, u => u = .slice none 0 0
  | .nm k, u => c.N k ∧ u = c.ν k ∧ u.oneCell' = true
  | .pa k off, u => c.N k ∧ ∃ b, blk (c.ν k) = some b ∧ u = .pointer (some ⟨b, off, none⟩)
  | .pe k i sz off, u => c.N k ∧ ∃ b, blk (c.ν k) = some b ∧ u = .pointer (some ⟨b, i.toNat * sz + off, none⟩)
  | .pt l, u => ∃ p us, u = .pointer (some p) ∧ Reps c l us ∧ (∀ x ∈ us, x.oneCell' = true) ∧ ∀ w', Stp c.O c.w w' → Cs w' p us
  | .agg l, u => ∃ us, u = .agg us.toArray ∧ Reps c l us ∧ ∀ x ∈ us, x.oneCell' = true
  | .tup l, u => ∃ us, u = .tuple us.toArray ∧ Reps c l us
  | .fn f l m, u => ∃ us vs, u = .func (.func f) us.toArray vs.toArray ∧ Reps c l us ∧ Reps c m vs
def Reps (c : Cx) : List AV → List Value → Prop
  | [], us => us = []
  | s :: r, us => ∃ u t, us = u :: t ∧ Rep c s u ∧ Reps c r t
end
mutual
/-- all names in it are below m -/
def nlt (m : Nat) : AV → Bool
  | .nm k => Nat.blt k m
  | .pa k _ => Nat.blt k m
  | .pe k _ _ _ => Nat.blt k m
  | .pt l => nltL m l
  | .agg l => nltL m l
  | .tup l => nltL m l
  | .fn _ l q => nltL m l && nltL m q
  | _ => true
def nltL (m : Nat) : List AV → Bool
  | [] => true
  | s :: r => nlt m s && nltL m r
end
theorem nltL_app (m : Nat) : ∀ (l r : List AV), nltL m (l ++ r) = (nltL m l && nltL m r)
  | [], r => by simp [nltL]
  | s :: l, r => by simp only [List.cons_append, nltL, nltL_app m l r, Bool.and_assoc]
theorem nlt_flat (m : Nat) : ∀ (t : Ty) (x : El t), nltL m (flat t x) = true
  | .bool, _ | .i64, _ | .u8, _ | .u32, _ | .u64, _ | .str, _ | .unit, _ | .sl _, _ => rfl
  | .pair a b, x => by rw [flat, nltL_app, nlt_flat m a, nlt_flat m b]; rfl
theorem nlt_flatL (m : Nat) (t : Ty) : ∀ (l : List (El t)), nltL m (flatL t l) = true
  | [] => rfl
  | x :: l => by rw [flatL, nltL_app, nlt_flat, nlt_flatL m t l]; rfl

structure Cx.Le (m : Option Nat) (c c' : Cx) : Prop where
  nm : ∀ k, (∀ q, m = some q → k < q) → c.N k → c'.N k ∧ c'.ν k = c.ν k
  st : ∀ w'', Stp c'.O c'.w w'' → Stp c.O c.w w''
def nq (m : Option Nat) (s : AV) : Prop := ∀ q, m = some q → nlt q s = true
def nqL (m : Option Nat) (s : List AV) : Prop := ∀ q, m = some q → nltL q s = true
mutual
theorem Rep.le {m : Option Nat} {c c' : Cx} (h : c.Le m c') : ∀ (s : AV) (u : Value), nq m s → Rep c s u → Rep c' s u
  | .un, u, _, hr => by simp only [Rep]
  | .b _, u, _, hr => by simpa only [Rep] using hr
  | .i _, u, _, hr => by simpa only [Rep] using hr
  | .u8 _, u, _, hr => by simpa only [Rep] using hr
  | .u32 _, u, _, hr => by simpa only [Rep] using hr
  | .u64 _, u, _, hr => by simpa only [Rep] using hr
  | .str _, u, _, hr => by simpa only [Rep] using hr
  | .nil, u, _, hr => by simpa only [Rep] using hr
  | .sl t l, u, _, hr => by
    simp only [Rep] at hr ⊢
    exact fun w' hw => hr w' (h.st w' hw)
  | .st t l, u, _, hr => by
    simp only [Rep] at hr ⊢
    exact ⟨hr.1, fun w' hw => hr.2 w' (h.st w' hw)⟩
  | .nm k, u, hn, hr => by
    simp only [Rep] at hr ⊢
    have := h.nm k (fun q hq => by have := hn q hq; simpa [nlt] using this) hr.1
    exact ⟨this.1, by rw [this.2]; exact hr.2.1, hr.2.2⟩
  | .pa k off, u, hn, hr => by
    simp only [Rep] at hr ⊢
    have := h.nm k (fun q hq => by have := hn q hq; simpa [nlt] using this) hr.1
    exact ⟨this.1, by rw [this.2]; exact hr.2⟩
  | .pe k i sz off, u, hn, hr => by
    simp only [Rep] at hr ⊢
    have := h.nm k (fun q hq => by have := hn q hq; simpa [nlt] using this) hr.1
    exact ⟨this.1, by rw [this.2]; exact hr.2⟩
  | .tup l, u, hn, hr => by
    simp only [Rep] at hr ⊢
    obtain ⟨us, h1, h2⟩ := hr
    exact ⟨us, h1, Reps.le h l us (fun q hq => by have := hn q hq; simpa [nlt] using this) h2⟩
  | .agg l, u, hn, hr => by
    simp only [Rep] at hr ⊢
    obtain ⟨us, h1, h2, h3⟩ := hr
    exact ⟨us, h1, Reps.le h l us (fun q hq => by have := hn q hq; simpa [nlt] using this) h2, h3⟩
  | .fn f l p, u, hn, hr => by
    simp only [Rep] at hr ⊢
    obtain ⟨us, vs, h1, h2, h3⟩ := hr
    have hn' := fun q hq => by have := hn q hq; simpa only [nlt, Bool.and_eq_true] using this
    exact ⟨us, vs, h1, Reps.le h l us (fun q hq => (hn' q hq).1) h2, Reps.le h p vs (fun q hq => (hn' q hq).2) h3⟩
  | .pt l, u, hn, hr => by
    simp only [Rep] at hr ⊢
    obtain ⟨p, us, h1, h2, h3, h4⟩ := hr
    exact ⟨p, us, h1, Reps.le h l us (fun q hq => by have := hn q hq; simpa [nlt] using this) h2, h3, fun w' hw => h4 w' (h.st w' hw)⟩
theorem Reps.le {m : Option Nat} {c c' : Cx} (h : c.Le m c') : ∀ (s : List AV) (u : List Value), nqL m s → Reps c s u → Reps c' s u
  | [], u, _, hr => by simpa only [Reps] using hr
  | s :: r, u, hn, hr => by
    simp only [Reps] at hr ⊢
    obtain ⟨v, t, h1, h2, h3⟩ := hr
    have hn' := fun q hq => by have := hn q hq; simpa only [nltL, Bool.and_eq_true] using this
    exact ⟨v, t, h1, Rep.le h s v (fun q hq => (hn' q hq).1) h2, Reps.le h r t (fun q hq => (hn' q hq).2) h3⟩
end
theorem nq_none (s : AV) : nq none s := fun q h => by cases h
theorem nqL_none (s : List AV) : nqL none s := fun q h => by cases h
theorem nq_some {m : Nat} {s : AV} (h : nlt m s = true) : nq (some m) s := fun q hq => by obtain rfl := Option.some.inj hq; exact h
theorem nqL_some {m : Nat} {s : List AV} (h : nltL m s = true) : nqL (some m) s := fun q hq => by obtain rfl := Option.some.inj hq; exact h

theorem Reps.get {c : Cx} : ∀ {l : List AV} {us : List Value} {i : Nat} {s : AV}, Reps c l us → l[i]? = some s → ∃ u, us[i]? = some u ∧ Rep c s u
  | [], us, i, s, h, hs => by simp at hs
  | a :: r, us, i, s, h, hs => by
    simp only [Reps] at h
    obtain ⟨u, t, rfl, h1, h2⟩ := h
    cases i with
    | zero => simp only [List.getElem?_cons_zero, Option.some.injEq] at hs ⊢; exact ⟨u, rfl, hs ▸ h1⟩
    | succ i => simp only [List.getElem?_cons_succ] at hs ⊢; exact h2.get hs
theorem Reps.len {c : Cx} : ∀ {l : List AV} {us : List Value}, Reps c l us → us.length = l.length
  | [], us, h => by simp only [Reps] at h; rw [h]; rfl
  | a :: r, us, h => by
    simp only [Reps] at h
    obtain ⟨u, t, rfl, _, h2⟩ := h
    simp [h2.len]
theorem Reps.app {c : Cx} : ∀ {l m : List AV} {us vs : List Value}, Reps c l us → Reps c m vs → Reps c (l ++ m) (us ++ vs)
  | [], m, us, vs, h, k => by simp only [Reps] at h; rw [h]; exact k
  | a :: r, m, us, vs, h, k => by
    simp only [Reps] at h
    obtain ⟨u, t, rfl, h1, h2⟩ := h
    simp only [List.cons_append, Reps]
    exact ⟨u, t ++ vs, rfl, h1, h2.app k⟩
theorem Reps.split {c : Cx} : ∀ {l m : List AV} {us : List Value}, Reps c (l ++ m) us → ∃ u1 u2, us = u1 ++ u2 ∧ Reps c l u1 ∧ Reps c m u2
  | [], m, us, h => ⟨[], us, rfl, by simp only [Reps], h⟩
  | a :: r, m, us, h => by
    simp only [List.cons_append, Reps] at h
    obtain ⟨u, t, rfl, h1, h2⟩ := h
    obtain ⟨u1, u2, rfl, h3, h4⟩ := Reps.split h2
    exact ⟨u :: u1, u2, rfl, by simp only [Reps]; exact ⟨u, u1, rfl, h1, h3⟩, h4⟩
theorem Reps.drop {c : Cx} : ∀ {l : List AV} {us : List Value} (n : Nat), Reps c l us → Reps c (l.drop n) (us.drop n)
  | l, us, 0, h => by simpa using h
  | [], us, n + 1, h => by simp only [Reps] at h; rw [h]; simp [Reps]
  | a :: r, us, n + 1, h => by
    simp only [Reps] at h
    obtain ⟨u, t, rfl, h1, h2⟩ := h
    simpa using h2.drop n
theorem Reps.take {c : Cx} : ∀ {l : List AV} {us : List Value} (n : Nat), Reps c l us → Reps c (l.take n) (us.take n)
  | l, us, 0, h => by simp [Reps]
  | [], us, n + 1, h => by simp only [Reps] at h; rw [h]; simp [Reps]
  | a :: r, us, n + 1, h => by
    simp only [Reps] at h
    obtain ⟨u, t, rfl, h1, h2⟩ := h
    simp only [List.take_succ_cons, Reps]
    exact ⟨u, t.take n, rfl, h1, h2.take n⟩
theorem Reps.one {c : Cx} {s : AV} {u : Value} (h : Rep c s u) : Reps c [s] [u] := by simp only [Reps]; exact ⟨u, [], rfl, h, rfl⟩
theorem Reps.un1 {c : Cx} {s : AV} {us : List Value} (h : Reps c [s] us) : ∃ u, us = [u] ∧ Rep c s u := by
  simp only [Reps] at h; obtain ⟨u, t, rfl, h1, rfl⟩ := h; exact ⟨u, rfl, h1⟩

/-- stable cells are abstract values -/
theorem CR.reps {c : Cx} : ∀ {t : Ty} {x : El t} {us : List Value}, (∀ w', Stp c.O c.w w' → CR t x us w') → Reps c (flat t x) us
  | .bool, x, us, h => by have := h _ (Stp.refl _ _); simp only [CR] at this; subst this; simp [flat, Reps, Rep]
  | .i64, x, us, h => by have := h _ (Stp.refl _ _); simp only [CR] at this; subst this; simp [flat, Reps, Rep]
  | .u8, x, us, h => by have := h _ (Stp.refl _ _); simp only [CR] at this; subst this; simp [flat, Reps, Rep]
  | .u32, x, us, h => by have := h _ (Stp.refl _ _); simp only [CR] at this; subst this; simp [flat, Reps, Rep]
  | .u64, x, us, h => by have := h _ (Stp.refl _ _); simp only [CR] at this; subst this; simp [flat, Reps, Rep]
  | .str, x, us, h => by have := h _ (Stp.refl _ _); simp only [CR] at this; subst this; simp [flat, Reps, Rep]
  | .unit, x, us, h => by have := h _ (Stp.refl _ _); simp only [CR] at this; subst this; simp [flat, Reps]
  | .pair a b, x, us, h => by
    have h0 := h _ (Stp.refl _ _)
    simp only [CR] at h0
    obtain ⟨u1, u2, rfl, h1, h2⟩ := h0
    have key : ∀ w', Stp c.O c.w w' → CR a x.1 u1 w' ∧ CR b x.2 u2 w' := fun w' hs => by
      have h3 := h w' hs
      simp only [CR] at h3
      obtain ⟨v1, v2, he, h4, h5⟩ := h3
      have := List.append_inj he (by rw [CR.len h1, CR.len h4])
      obtain ⟨rfl, rfl⟩ := this
      exact ⟨h4, h5⟩
    simp only [flat]
    exact (CR.reps fun w' hs => (key w' hs).1).app (CR.reps fun w' hs => (key w' hs).2)
  | .sl e, l, us, h => by
    have h0 := h _ (Stp.refl _ _)
    simp only [CR] at h0
    obtain ⟨v, cs, rfl, h1, h2⟩ := h0
    simp only [flat]
    refine Reps.one ?_
    simp only [Rep]
    intro w' hs
    have h3 := h w' hs
    simp only [CR] at h3
    obtain ⟨v', cs', he, h4, h5⟩ := h3
    simp only [List.cons.injEq, and_true] at he
    subst he
    exact ⟨cs', h4, h5⟩
theorem Reps.cr {c : Cx} : ∀ {t : Ty} {x : El t} {us : List Value}, Reps c (flat t x) us → ∀ w', Stp c.O c.w w' → CR t x us w'
  | .bool, x, us, h, w', hs => by simp only [flat, Reps, Rep] at h; obtain ⟨u, t, rfl, rfl, rfl⟩ := h; simp [CR]
  | .i64, x, us, h, w', hs => by simp only [flat, Reps, Rep] at h; obtain ⟨u, t, rfl, rfl, rfl⟩ := h; simp [CR]
  | .u8, x, us, h, w', hs => by simp only [flat, Reps, Rep] at h; obtain ⟨u, t, rfl, rfl, rfl⟩ := h; simp [CR]
  | .u32, x, us, h, w', hs => by simp only [flat, Reps, Rep] at h; obtain ⟨u, t, rfl, rfl, rfl⟩ := h; simp [CR]
  | .u64, x, us, h, w', hs => by simp only [flat, Reps, Rep] at h; obtain ⟨u, t, rfl, rfl, rfl⟩ := h; simp [CR]
  | .str, x, us, h, w', hs => by simp only [flat, Reps, Rep] at h; obtain ⟨u, t, rfl, rfl, rfl⟩ := h; simp [CR]
  | .unit, x, us, h, w', hs => by simp only [flat, Reps] at h; subst h; simp [CR]
  | .pair a b, x, us, h, w', hs => by
    simp only [flat] at h
    obtain ⟨u1, u2, rfl, h1, h2⟩ := h.split
    simp only [CR]
    exact ⟨u1, u2, rfl, h1.cr w' hs, h2.cr w' hs⟩
  | .sl e, l, us, h, w', hs => by
    simp only [flat, Reps, Rep] at h
    obtain ⟨u, t, rfl, h1, rfl⟩ := h
    obtain ⟨cs, h2, h3⟩ := h1 w' hs
    simp only [CR]
    exact ⟨u, cs, rfl, h2, h3⟩
theorem Reps.flatL {c : Cx} {t : Ty} : ∀ {l : List (El t)} {us : List Value}, Reps c (flatL t l) us → ∃ cs, us = cs.flatten ∧ All2 (fun x m => Reps c (flat t x) m) l cs
  | [], us, h => ⟨[], by simpa [Ax.flatL, Reps] using h, by simp [All2]⟩
  | x :: l, us, h => by
    simp only [Ax.flatL] at h
    obtain ⟨u1, u2, rfl, h1, h2⟩ := h.split
    obtain ⟨cs, rfl, h3⟩ := Reps.flatL h2
    exact ⟨u1 :: cs, by simp, h1, h3⟩
theorem Reps.of_flatL {c : Cx} {t : Ty} : ∀ {l : List (El t)} {cs : List (List Value)}, All2 (fun x m => Reps c (flat t x) m) l cs → Reps c (Ax.flatL t l) cs.flatten
  | [], [], _ => by simp [Ax.flatL, Reps]
  | x :: l, u :: cs, h => by simp only [Ax.flatL, List.flatten_cons]; exact h.1.app (Reps.of_flatL h.2)
  | [], _ :: _, h => h.elim
  | _ :: _, [], h => h.elim
theorem flat_one {c : Cx} {t : Ty} {x : El t} {us : List Value} (h : Reps c (flat t x) us) : ∀ u ∈ us, u.oneCell' = true := (h.cr c.w (Stp.refl _ _)).one
theorem flatL_one {c : Cx} {t : Ty} : ∀ {l : List (El t)} {us : List Value}, Reps c (flatL t l) us → ∀ u ∈ us, u.oneCell' = true
  | [], us, h => by simp only [Ax.flatL, Reps] at h; subst h; simp
  | x :: l, us, h => by
    simp only [Ax.flatL] at h
    obtain ⟨u1, u2, rfl, h1, h2⟩ := h.split
    intro u hu
    rcases List.mem_append.1 hu with h | h
    · exact flat_one h1 u h
    · exact flatL_one h2 u h

/-- a row depends on its own block alone -/
theorem own_keep {w w' : World} {base e sz n : Nat} {v : Value} {xs : List Value} {Q : Nat → Prop} (h : w.ownsRow base e sz v n xs) (hs : Stp Q w w') (hb : ∀ b, blk v = some b → ¬ Q b) : w'.ownsRow base e sz v n xs := by
  refine ⟨h.1, ?_⟩
  rcases h.2 with h2 | ⟨g, cap, cur, h1, h2, h3, h4⟩
  · exact .inl h2
  · refine .inr ⟨g, cap, cur, h1, h2, ?_, h4⟩
    have hlt : g < w.heap.size := (Array.getElem?_eq_some_iff.1 h3).1
    rw [hs.block g hlt (hb g (by rw [h1]; rfl))]
    exact h3
theorem own_one {w : World} {base e sz n : Nat} {v : Value} {xs : List Value} (h : w.ownsRow base e sz v n xs) : v.oneCell' = true := by
  rcases h.2 with ⟨rfl, _⟩ | ⟨g, cap, cur, rfl, _⟩ <;> rfl

/-! ### Resources -/
inductive Rs where
  | var (cells : List AV)
  | row (e : Nat) (t : Ty) (l : List (El t))
  | rowA (e sz n : Nat) (cells : List AV)
def HoldsV (c : Cx) (k : Nat) (cells : List AV) : Prop := ∃ b us, c.ν k = .pointer (some ⟨b, 0, none⟩) ∧ Blk c.w b us ∧ Reps c cells us ∧ ∀ u ∈ us, u.oneCell' = true
def HoldsM (c : Cx) (k : Nat) (e sz n : Nat) (cells : List AV) : Prop := ∃ vs, c.w.ownsRow 0 e sz (c.ν k) n vs ∧ Reps c cells vs ∧ ∀ u ∈ vs, u.oneCell' = true
def Holds (c : Cx) (k : Nat) (R : Rs) : Prop := match R with
  | .var cells => HoldsV c k cells
  | .row e t l => HoldsM c k e t.n l.length (flatL t l)
  | .rowA e sz n cells => HoldsM c k e sz n cells
def Rs.cells : Rs → List AV
  | .var cells => cells
  | .row _ t l => flatL t l
  | .rowA _ _ _ cells => cells

abbrev LX := List (Nat × AV)
abbrev HX := List (Nat × Option Rs)
abbrev Fp := List (Nat × Rs)
def lkx (t : Nat) : LX → Option AV
  | [] => none
  | (d, v) :: L => bif Nat.beq t d then some v else lkx t L
def hlk (k : Nat) : HX → Option Rs
  | [] => none
  | (d, v) :: H => bif Nat.beq k d then v else hlk k H
def flk (k : Nat) : Fp → Option Rs
  | [] => none
  | (d, v) :: H => bif Nat.beq k d then some v else flk k H
def strOf (s : ByteArray) : List UInt8 := s.data.toList
/-- a closed value -/
def AV.of : Value → AV
  | .bool y => .b y
  | .int .i64 n => .i n
  | .int .u8 (.ofNat n) => bif Nat.blt n 256 then .u8 (UInt8.ofNat n) else .un
  | .int .u32 (.ofNat n) => bif Nat.blt n 4294967296 then .u32 (UInt32.ofNat n) else .un
  | .int .u64 (.ofNat n) => bif Nat.blt n 18446744073709551616 then .u64 (UInt64.ofNat n) else .un
  | .string s => .str (strOf s)
  | .slice none 0 0 => .nil
  | _ => .un
theorem AV.of_rep (c : Cx) (v : Value) : Rep c (AV.of v) v := by
  unfold AV.of
  split
  · simp only [Rep]
  · simp only [Rep]
  · rename_i n
    cases h : Nat.blt n 256
    · simp only [cond_false, Rep]
    · have hn : n < 256 := by simpa [Nat.blt_eq] using h
      simp [Rep, byteV, Nat.mod_eq_of_lt hn]
  · rename_i n
    cases h : Nat.blt n 4294967296
    · simp only [cond_false, Rep]
    · have hn : n < 4294967296 := by simpa [Nat.blt_eq] using h
      simp [Rep, wordV, Nat.mod_eq_of_lt hn]
  · rename_i n
    cases h : Nat.blt n 18446744073709551616
    · simp only [cond_false, Rep]
    · have hn : n < 18446744073709551616 := by simpa [Nat.blt_eq] using h
      simp [Rep, longV, Nat.mod_eq_of_lt hn]
  · simp only [Rep, strOf]
  · simp only [Rep]
  · simp only [Rep]
def evx (L : LX) : Operand → Option AV
  | .tmp t => lkx t L
  | .const c => some (AV.of c)
  | .global g => none
  | .func g => some (.fn g [] [])
theorem lkx_cons (t d : Nat) (v : AV) (L : LX) : lkx t ((d, v) :: L) = if t = d then some v else lkx t L := by
  simp only [lkx]
  cases h : Nat.beq t d
  · have : t ≠ d := fun e => by subst e; simp at h
    simp [this]
  · have : t = d := by simpa using h
    simp [this]
theorem hlk_cons (t d : Nat) (v : Option Rs) (L : HX) : hlk t ((d, v) :: L) = if t = d then v else hlk t L := by
  simp only [hlk]
  cases h : Nat.beq t d
  · have : t ≠ d := fun e => by subst e; simp at h
    simp [this]
  · have : t = d := by simpa using h
    simp [this]
theorem flk_cons (t d : Nat) (v : Rs) (L : Fp) : flk t ((d, v) :: L) = if t = d then some v else flk t L := by
  simp only [flk]
  cases h : Nat.beq t d
  · have : t ≠ d := fun e => by subst e; simp at h
    simp [this]
  · have : t = d := by simpa using h
    simp [this]
@[simp] theorem flk_nil (t : Nat) : flk t [] = none := rfl

/-! ### States -/
structure Gx where
  w0 : World
  O0 : Nat → Prop
  Oa : Nat → Prop
  n0 : Nat
  ν0 : Nat → Value
def ownS (Oa : Nat → Prop) (hk : Nat → Option Rs) (ν : Nat → Value) : Nat → Prop := fun b => Oa b ∨ ∃ k R, hk k = some R ∧ blk (ν k) = some b
structure Sat (I : World → Prop) (n : Nat) (g : Gx) (N : Nat → Prop) (lk : Nat → Option AV) (hk : Nat → Option Rs) (a : Act) (w : World) (ν : Nat → Value) : Prop where
  size : a.tmps.size = n
  defers : a.defers = []
  stp : Stp g.O0 g.w0 w
  amb : ∀ b, g.Oa b → b < g.w0.heap.size ∧ ¬ g.O0 b
  inv : ∀ w', Stp (ownS g.Oa hk ν) w w' → I w'
  pin : ∀ k, k < g.n0 → N k ∧ ν k = g.ν0 k
  slots : ∀ t s, lk t = some s → Rep ⟨N, ν, ownS g.Oa hk ν, w⟩ s (a.tmps.getD t undef)
  res : ∀ k R, hk k = some R → N k ∧ Holds ⟨N, ν, ownS g.Oa hk ν, w⟩ k R ∧ ∀ b, blk (ν k) = some b → b < w.heap.size ∧ (g.w0.heap.size ≤ b ∨ g.O0 b)
  dist : ∀ k k' R R' b, hk k = some R → hk k' = some R' → k ≠ k' → blk (ν k) = some b → blk (ν k') ≠ some b

def fblk (ν : Nat → Value) (F : Fp) : Nat → Prop := fun b => ∃ k R, flk k F = some R ∧ blk (ν k) = some b
def has (k : Nat) (F : Fp) : Prop := (flk k F).isSome = true
def upd (F F' : Fp) (hk : Nat → Option Rs) (k : Nat) : Option Rs := match flk k F' with
  | some R => some R
  | none => match flk k F with | some _ => none | none => hk k
theorem upd_cases {F F' : Fp} {hk : Nat → Option Rs} {k : Nat} {R : Rs} (h : upd F F' hk k = some R) : flk k F' = some R ∨ (hk k = some R ∧ flk k F' = none ∧ flk k F = none) := by
  unfold upd at h
  split at h
  · rename_i R' h1; exact .inl (h1.trans h)
  · rename_i h1
    split at h
    · cases h
    · rename_i h2; exact .inr ⟨h, h1, h2⟩

/-- what an operation leaves behind -/
structure Ok (c : Cx) (F F' : Fp) (s : AV) (v : Value) (w' : World) (ν' : Nat → Value) : Prop where
  old : ∀ k, c.N k → ν' k = c.ν k
  rep : Rep ⟨fun k => c.N k ∨ has k F', ν', fun b => (c.O b ∧ ¬ fblk c.ν F b) ∨ fblk ν' F' b, w'⟩ s v
  res : ∀ k R, flk k F' = some R → Holds ⟨fun k => c.N k ∨ has k F', ν', fun b => (c.O b ∧ ¬ fblk c.ν F b) ∨ fblk ν' F' b, w'⟩ k R ∧ ∀ b, blk (ν' k) = some b → b < w'.heap.size ∧ (c.w.heap.size ≤ b ∨ fblk c.ν F b)
  dist : ∀ k k' R R' b, flk k F' = some R → flk k' F' = some R' → k ≠ k' → blk (ν' k) = some b → blk (ν' k') ≠ some b
  stp : Stp (fblk c.ν F) c.w w'

theorem HoldsM.le {m : Option Nat} {c c' : Cx} {k e sz n : Nat} {cells : List AV} (hle : c.Le m c') (hm : nqL m cells) (hν : c'.ν k = c.ν k) (hb : ∀ b, blk (c.ν k) = some b → b < c.w.heap.size ∧ c'.w.heap[b]? = c.w.heap[b]?) (h : HoldsM c k e sz n cells) : HoldsM c' k e sz n cells := by
  obtain ⟨vs, h1, h2, h3⟩ := h
  refine ⟨vs, ?_, Reps.le hle _ _ hm h2, h3⟩
  rw [hν]
  refine ⟨h1.1, ?_⟩
  rcases h1.2 with h4 | ⟨g, cap, cur, h4, h5, h6, h7⟩
  · exact .inl h4
  · exact .inr ⟨g, cap, cur, h4, h5, by rw [(hb g (by rw [h4]; rfl)).2]; exact h6, h7⟩
theorem Holds.le {m : Option Nat} {c c' : Cx} {k : Nat} {R : Rs} (hle : c.Le m c') (hm : nqL m R.cells) (hν : c'.ν k = c.ν k) (hb : ∀ b, blk (c.ν k) = some b → b < c.w.heap.size ∧ c'.w.heap[b]? = c.w.heap[b]?) (h : Holds c k R) : Holds c' k R := by
  cases R with
  | var cells =>
    obtain ⟨b, us, h1, ⟨T, h2⟩, h3, h4⟩ := h
    refine ⟨b, us, by rw [hν]; exact h1, ⟨T, ?_⟩, Reps.le hle _ _ hm h3, h4⟩
    rw [(hb b (by rw [h1]; rfl)).2]; exact h2
  | row e t l => exact HoldsM.le hle hm hν hb h
  | rowA e sz n cells => exact HoldsM.le hle hm hν hb h

theorem Sat.step {I : World → Prop} {n : Nat} {g : Gx} {N N' : Nat → Prop} {lk : Nat → Option AV} {hk hk' : Nat → Option Rs} {a : Act} {w w' : World} {ν ν' : Nat → Value} {F F' : Fp} {s : AV} {v : Value}
    (S : Sat I n g N lk hk a w ν) (hF : ∀ k R, flk k F = some R → hk k = some R) (ok : Ok ⟨N, ν, ownS g.Oa hk ν, w⟩ F F' s v w' ν') (hN : ∀ k, N' k ↔ N k ∨ has k F') (hkq : ∀ k, hk' k = upd F F' hk k) :
    Sat I n g N' lk hk' a w' ν' ∧ Rep ⟨N', ν', ownS g.Oa hk' ν', w'⟩ s v := by
  obtain rfl : N' = fun k => N k ∨ has k F' := funext fun k => propext (hN k)
  obtain rfl : hk' = upd F F' hk := funext hkq
  have hfb : ∀ b, fblk ν F b → b < w.heap.size ∧ (g.w0.heap.size ≤ b ∨ g.O0 b) ∧ ownS g.Oa hk ν b := by
    rintro b ⟨k, R, hFk, hb⟩
    have hk := hF k R hFk
    exact ⟨((S.res k R hk).2.2 b hb).1, ((S.res k R hk).2.2 b hb).2, .inr ⟨k, R, hk, hb⟩⟩
  have hcase : ∀ k R, upd F F' hk k = some R → flk k F' = some R ∨ (hk k = some R ∧ ν' k = ν k ∧ ∀ b, blk (ν k) = some b → b < w.heap.size ∧ ¬ fblk ν F b) := by
    intro k R h
    rcases upd_cases h with h | ⟨h1, h2, h3⟩
    · exact .inl h
    · refine .inr ⟨h1, ok.old k (S.res k R h1).1, fun b hb => ⟨((S.res k R h1).2.2 b hb).1, ?_⟩⟩
      rintro ⟨k0, R0, hF0, hb0⟩
      by_cases e : k = k0
      · subst e; rw [h3] at hF0; cases hF0
      · exact S.dist k k0 R R0 b h1 (hF k0 R0 hF0) e hb hb0
  have hown : ∀ b, ownS g.Oa (upd F F' hk) ν' b → (ownS g.Oa hk ν b ∧ ¬ fblk ν F b) ∨ fblk ν' F' b := by
    rintro b (h | ⟨k, R, h, hb⟩)
    · refine .inl ⟨.inl h, fun hf => ?_⟩
      have h1 := S.amb b h
      rcases (hfb b hf).2.1 with h2 | h2
      · omega
      · exact h1.2 h2
    · rcases hcase k R h with h1 | ⟨h1, h2, h3⟩
      · exact .inr ⟨k, R, h1, hb⟩
      · rw [h2] at hb
        exact .inl ⟨.inr ⟨k, R, h1, hb⟩, (h3 b hb).2⟩
  have hownw : ∀ b, b < w.heap.size → ownS g.Oa (upd F F' hk) ν' b → ownS g.Oa hk ν b := by
    intro b hbw hb
    rcases hown b hb with h | ⟨k, R, h, hb'⟩
    · exact h.1
    · rcases ((ok.res k R h).2 b hb').2 with h1 | h1
      · exact absurd hbw (Nat.not_lt.2 h1)
      · exact (hfb b h1).2.2
  have hle : Cx.Le none ⟨N, ν, ownS g.Oa hk ν, w⟩ ⟨fun k => N k ∨ has k F', ν', ownS g.Oa (upd F F' hk) ν', w'⟩ :=
    ⟨fun k _ hNk => ⟨.inl hNk, ok.old k hNk⟩, fun w'' hs => ok.stp.then hs (fun i _ h => (hfb i h).2.2) hownw⟩
  have hle2 : Cx.Le none ⟨fun k => N k ∨ has k F', ν', fun b => (ownS g.Oa hk ν b ∧ ¬ fblk ν F b) ∨ fblk ν' F' b, w'⟩ ⟨fun k => N k ∨ has k F', ν', ownS g.Oa (upd F F' hk) ν', w'⟩ :=
    ⟨fun k _ h => ⟨h, rfl⟩, fun w'' hs => hs.mono fun i _ h => hown i h⟩
  refine ⟨⟨S.size, S.defers, ?_, S.amb, fun w'' hs => S.inv w'' (hle.st w'' hs), fun k hk => ⟨.inl (S.pin k hk).1, (ok.old k (S.pin k hk).1).trans (S.pin k hk).2⟩, fun t s hs => Rep.le hle s _ (nq_none s) (S.slots t s hs), ?_, ?_⟩, ?_⟩
  · refine S.stp.then ok.stp (fun i _ h => h) (fun i hi h => ?_)
    rcases (hfb i h).2.1 with h1 | h1
    · omega
    · exact h1
  · intro k R h
    rcases hcase k R h with h1 | ⟨h1, h2, h3⟩
    · obtain ⟨r1, r2⟩ := ok.res k R h1
      refine ⟨.inr (by unfold has; rw [h1]; rfl), ?_, fun b hb => ⟨(r2 b hb).1, ?_⟩⟩
      · exact Holds.le hle2 (nqL_none _) rfl (fun b hb => ⟨(r2 b hb).1, rfl⟩) r1
      · rcases (r2 b hb).2 with h4 | h4
        · exact .inl (Nat.le_trans S.stp.size h4)
        · exact (hfb b h4).2.1
    · obtain ⟨r0, r1, r2⟩ := S.res k R h1
      refine ⟨.inl r0, ?_, fun b hb => ?_⟩
      · exact Holds.le hle (nqL_none _) h2 (fun b hb => ⟨(h3 b hb).1, ok.stp.block b (h3 b hb).1 (h3 b hb).2⟩) r1
      · rw [h2] at hb
        exact ⟨Nat.lt_of_lt_of_le (r2 b hb).1 ok.stp.size, (r2 b hb).2⟩
  · intro k k' R R' b h h' hne hb hb'
    rcases hcase k R h with h1 | ⟨h1, h2, h3⟩
    · rcases hcase k' R' h' with h1' | ⟨h1', h2', h3'⟩
      · exact ok.dist k k' R R' b h1 h1' hne hb hb'
      · rw [h2'] at hb'
        rcases ((ok.res k R h1).2 b hb).2 with h4 | h4
        · exact absurd (h3' b hb').1 (Nat.not_lt.2 h4)
        · exact (h3' b hb').2 h4
    · rw [h2] at hb
      rcases hcase k' R' h' with h1' | ⟨h1', h2', h3'⟩
      · rcases ((ok.res k' R' h1').2 b hb').2 with h4 | h4
        · exact absurd (h3 b hb).1 (Nat.not_lt.2 h4)
        · exact (h3 b hb).2 h4
      · rw [h2'] at hb'
        exact S.dist k k' R R' b h1 h1' hne hb hb'
  · exact Rep.le hle2 s v (nq_none s) ok.rep

theorem Sat.put {I : World → Prop} {n : Nat} {g : Gx} {N : Nat → Prop} {lk lk' : Nat → Option AV} {hk : Nat → Option Rs} {a : Act} {w : World} {ν : Nat → Value} (S : Sat I n g N lk hk a w ν) {d : Nat} {s : AV} {v : Value} (hd : d < n)
    (hv : Rep ⟨N, ν, ownS g.Oa hk ν, w⟩ s v) (hl : ∀ t, lk' t = if t = d then some s else lk t) : Sat I n g N lk' hk (a.put (some d) v) w ν := by
  refine ⟨by rw [put_size]; exact S.size, by rw [put_defers]; exact S.defers, S.stp, S.amb, S.inv, S.pin, fun t u hu => ?_, S.res, S.dist⟩
  rw [hl] at hu
  by_cases e : t = d
  · rw [if_pos e] at hu
    obtain rfl := Option.some.inj hu
    subst e
    rw [show (a.put (some t) v).tmps.getD t undef = v from getD_put_same _ _ _ (by rw [S.size]; exact hd)]
    exact hv
  · rw [if_neg e] at hu
    rw [show (a.put (some d) v).tmps.getD t undef = a.tmps.getD t undef from getD_put_ne _ _ _ _ e]
    exact S.slots t u hu
theorem Sat.fewer {I : World → Prop} {n : Nat} {g : Gx} {N : Nat → Prop} {lk lk' : Nat → Option AV} {hk : Nat → Option Rs} {a : Act} {w : World} {ν : Nat → Value} (S : Sat I n g N lk hk a w ν) (h : ∀ t s, lk' t = some s → lk t = some s) : Sat I n g N lk' hk a w ν :=
  ⟨S.size, S.defers, S.stp, S.amb, S.inv, S.pin, fun t s hs => S.slots t s (h t s hs), S.res, S.dist⟩
theorem Sat.moreN {I : World → Prop} {n : Nat} {g : Gx} {N N' : Nat → Prop} {lk : Nat → Option AV} {hk : Nat → Option Rs} {a : Act} {w : World} {ν : Nat → Value} (S : Sat I n g N lk hk a w ν) (h : ∀ k, N k → N' k) : Sat I n g N' lk hk a w ν :=
  have hle : Cx.Le none ⟨N, ν, ownS g.Oa hk ν, w⟩ ⟨N', ν, ownS g.Oa hk ν, w⟩ := ⟨fun k _ hk => ⟨h k hk, rfl⟩, fun _ h => h⟩
  ⟨S.size, S.defers, S.stp, S.amb, S.inv, fun k hk => ⟨h k (S.pin k hk).1, (S.pin k hk).2⟩, fun t s hs => Rep.le hle s _ (nq_none s) (S.slots t s hs), fun k R hR => ⟨h k (S.res k R hR).1, Holds.le hle (nqL_none _) rfl (fun b hb => ⟨((S.res k R hR).2.2 b hb).1, rfl⟩) (S.res k R hR).2.1, (S.res k R hR).2.2⟩, S.dist⟩

/-! ### Other names -/
mutual
def ren (ρ : Nat → Nat) : AV → AV
  | .nm k => .nm (ρ k)
  | .pa k o => .pa (ρ k) o
  | .pe k i s o => .pe (ρ k) i s o
  | .tup l => .tup (renL ρ l)
  | .agg l => .agg (renL ρ l)
  | .fn f l q => .fn f (renL ρ l) (renL ρ q)
  | .pt l => .pt (renL ρ l)
  | s => s
def renL (ρ : Nat → Nat) : List AV → List AV
  | [] => []
  | s :: r => ren ρ s :: renL ρ r
end
def renR (ρ : Nat → Nat) : Rs → Rs
  | .var cells => .var (renL ρ cells)
  | .rowA e sz n cells => .rowA e sz n (renL ρ cells)
  | R => R
theorem renL_app (ρ : Nat → Nat) : ∀ (l r : List AV), renL ρ (l ++ r) = renL ρ l ++ renL ρ r
  | [], r => by simp [renL]
  | s :: l, r => by simp only [List.cons_append, renL, renL_app ρ l r]
theorem ren_flat (ρ : Nat → Nat) : ∀ (t : Ty) (x : El t), renL ρ (flat t x) = flat t x
  | .bool, _ | .i64, _ | .u8, _ | .u32, _ | .u64, _ | .str, _ | .unit, _ | .sl _, _ => rfl
  | .pair a b, x => by rw [flat, renL_app, ren_flat ρ a, ren_flat ρ b]
theorem ren_flatL (ρ : Nat → Nat) (t : Ty) : ∀ (l : List (El t)), renL ρ (flatL t l) = flatL t l
  | [] => rfl
  | x :: l => by rw [flatL, renL_app, ren_flat, ren_flatL ρ t l]
theorem renR_cells (ρ : Nat → Nat) (R : Rs) : (renR ρ R).cells = renL ρ R.cells := by
  cases R with
  | row e t l => simp only [renR, Rs.cells, ren_flatL]
  | _ => rfl
def rlt (m : Nat) : Rs → Bool | .var cells => nltL m cells | .rowA _ _ _ cells => nltL m cells | .row _ _ _ => true
theorem rlt_cells (m : Nat) (R : Rs) : rlt m R = nltL m R.cells := by
  cases R with
  | row e t l => simp only [rlt, Rs.cells, nlt_flatL]
  | _ => rfl
mutual
theorem Rep.ren {ρ : Nat → Nat} {N N' : Nat → Prop} {ν ν' : Nat → Value} {O O' : Nat → Prop} {w : World} {m : Nat} (hN : ∀ k, k < m → N (ρ k) → N' k ∧ ν' k = ν (ρ k)) (hO : ∀ w'', Stp O' w w'' → Stp O w w'') : ∀ (s : AV) (u : Value), nlt m s = true → Rep ⟨N, ν, O, w⟩ (Ax.ren ρ s) u → Rep ⟨N', ν', O', w⟩ s u
  | .un, u, _, h => by simp only [Rep]
  | .b _, u, _, h => by simpa only [Ax.ren, Rep] using h
  | .i _, u, _, h => by simpa only [Ax.ren, Rep] using h
  | .u8 _, u, _, h => by simpa only [Ax.ren, Rep] using h
  | .u32 _, u, _, h => by simpa only [Ax.ren, Rep] using h
  | .u64 _, u, _, h => by simpa only [Ax.ren, Rep] using h
  | .str _, u, _, h => by simpa only [Ax.ren, Rep] using h
  | .nil, u, _, h => by simpa only [Ax.ren, Rep] using h
  | .sl t l, u, _, h => by simp only [Ax.ren, Rep] at h ⊢; exact fun w' hs => h w' (hO w' hs)
  | .st t l, u, _, h => by simp only [Ax.ren, Rep] at h ⊢; exact ⟨h.1, fun w' hs => h.2 w' (hO w' hs)⟩
  | .nm k, u, hn, h => by
    simp only [Ax.ren, Rep] at h ⊢
    have := hN k (by simpa [nlt] using hn) h.1
    exact ⟨this.1, by rw [this.2]; exact h.2.1, h.2.2⟩
  | .pa k o, u, hn, h => by
    simp only [Ax.ren, Rep] at h ⊢
    have := hN k (by simpa [nlt] using hn) h.1
    exact ⟨this.1, by rw [this.2]; exact h.2⟩
  | .pe k i s o, u, hn, h => by
    simp only [Ax.ren, Rep] at h ⊢
    have := hN k (by simpa [nlt] using hn) h.1
    exact ⟨this.1, by rw [this.2]; exact h.2⟩
  | .tup l, u, hn, h => by
    simp only [Ax.ren, Rep] at h ⊢
    obtain ⟨us, h1, h2⟩ := h
    exact ⟨us, h1, Reps.ren hN hO l us (by simpa only [nlt] using hn) h2⟩
  | .agg l, u, hn, h => by
    simp only [Ax.ren, Rep] at h ⊢
    obtain ⟨us, h1, h2, h3⟩ := h
    exact ⟨us, h1, Reps.ren hN hO l us (by simpa only [nlt] using hn) h2, h3⟩
  | .fn f l q, u, hn, h => by
    simp only [Ax.ren, Rep] at h ⊢
    obtain ⟨us, vs, h1, h2, h3⟩ := h
    simp only [nlt, Bool.and_eq_true] at hn
    exact ⟨us, vs, h1, Reps.ren hN hO l us hn.1 h2, Reps.ren hN hO q vs hn.2 h3⟩
  | .pt l, u, hn, h => by
    simp only [Ax.ren, Rep] at h ⊢
    obtain ⟨p, us, h1, h2, h3, h4⟩ := h
    exact ⟨p, us, h1, Reps.ren hN hO l us (by simpa only [nlt] using hn) h2, h3, fun w' hs => h4 w' (hO w' hs)⟩
theorem Reps.ren {ρ : Nat → Nat} {N N' : Nat → Prop} {ν ν' : Nat → Value} {O O' : Nat → Prop} {w : World} {m : Nat} (hN : ∀ k, k < m → N (ρ k) → N' k ∧ ν' k = ν (ρ k)) (hO : ∀ w'', Stp O' w w'' → Stp O w w'') : ∀ (s : List AV) (u : List Value), nltL m s = true → Reps ⟨N, ν, O, w⟩ (renL ρ s) u → Reps ⟨N', ν', O', w⟩ s u
  | [], u, _, h => by simpa only [renL, Reps] using h
  | s :: r, u, hn, h => by
    simp only [renL, Reps] at h ⊢
    simp only [nltL, Bool.and_eq_true] at hn
    obtain ⟨v, t, h1, h2, h3⟩ := h
    exact ⟨v, t, h1, Rep.ren hN hO s v hn.1 h2, Reps.ren hN hO r t hn.2 h3⟩
end
theorem Holds.ren {ρ : Nat → Nat} {N N' : Nat → Prop} {ν ν' : Nat → Value} {O O' : Nat → Prop} {w : World} {m k : Nat} {R : Rs} (hN : ∀ k, k < m → N (ρ k) → N' k ∧ ν' k = ν (ρ k)) (hO : ∀ w'', Stp O' w w'' → Stp O w w'') (hk : ν' k = ν (ρ k)) (hR : rlt m R = true) (h : Holds ⟨N, ν, O, w⟩ (ρ k) (renR ρ R)) : Holds ⟨N', ν', O', w⟩ k R := by
  rw [rlt_cells] at hR
  cases R with
  | var cells =>
    obtain ⟨b, us, g1, g2, g3, g4⟩ := h
    exact ⟨b, us, hk.trans g1, g2, Reps.ren hN hO cells us hR g3, g4⟩
  | row e t l =>
    obtain ⟨vs, g1, g2, g3⟩ := h
    exact ⟨vs, by show World.ownsRow _ _ _ _ (ν' k) _ _; rw [hk]; exact g1, Reps.ren hN hO _ vs hR (by rw [ren_flatL]; exact g2), g3⟩
  | rowA e sz n cells =>
    obtain ⟨vs, g1, g2, g3⟩ := h
    exact ⟨vs, by show World.ownsRow _ _ _ _ (ν' k) _ _; rw [hk]; exact g1, Reps.ren hN hO cells vs hR g2, g3⟩
/-- fewer names, slots and resources, and others for them -/
theorem Sat.cut {I : World → Prop} {n : Nat} {g : Gx} {m : Nat} {N : Nat → Prop} {lk lk' : Nat → Option AV} {hk hk' : Nat → Option Rs} {a : Act} {w : World} {ν : Nat → Value} (ρ : Nat → Nat) (S : Sat I n g N lk hk a w ν) (hρ : ∀ k, k < g.n0 → k < m ∧ ρ k = k)
    (hl : ∀ t s, lk' t = some s → lk t = some (ren ρ s) ∧ nlt m s = true) (hh : ∀ k R, hk' k = some R → hk (ρ k) = some (renR ρ R) ∧ k < m ∧ rlt m R = true) (hinj : ∀ k k' R R', hk' k = some R → hk' k' = some R' → ρ k = ρ k' → k = k') : Sat I n g (· < m) lk' hk' a w (fun k => ν (ρ k)) := by
  have hown : ∀ b, ownS g.Oa hk' (fun k => ν (ρ k)) b → ownS g.Oa hk ν b := by
    rintro b (h | ⟨k, R, h, hb⟩)
    · exact .inl h
    · exact .inr ⟨ρ k, _, (hh k R h).1, hb⟩
  have hO : ∀ w'', Stp (ownS g.Oa hk' (fun k => ν (ρ k))) w w'' → Stp (ownS g.Oa hk ν) w w'' := fun w'' hs => hs.mono fun i _ h => hown i h
  have hN : ∀ k, k < m → N (ρ k) → k < m ∧ (fun k => ν (ρ k)) k = ν (ρ k) := fun k h _ => ⟨h, rfl⟩
  refine ⟨S.size, S.defers, S.stp, S.amb, fun w'' hs => S.inv w'' (hO w'' hs), fun k hk => ⟨(hρ k hk).1, by show ν (ρ k) = _; rw [(hρ k hk).2]; exact (S.pin k hk).2⟩, fun t s hs => ?_, fun k R hR => ?_, fun k k' R R' b h h' hne => S.dist (ρ k) (ρ k') _ _ b (hh k R h).1 (hh k' R' h').1 (fun e => hne (hinj k k' R R' h h' e))⟩
  · obtain ⟨h1, h2⟩ := hl t s hs
    exact Rep.ren hN hO s _ h2 (S.slots t _ h1)
  · obtain ⟨h1, h2, h3⟩ := hh k R hR
    obtain ⟨r0, r1, r2⟩ := S.res _ _ h1
    exact ⟨h2, Holds.ren hN hO rfl h3 r1, r2⟩
end Go.Ax
