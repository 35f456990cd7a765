/-
  Own text. Slices of bytes, words and numbers: the lemmas on append, make and literals in terms of lists. It claims nothing of any program.
-/
import Derived.Test.YtlaglaehkhmklaaBlk
namespace Go.Eng
open Go Go.RowKit
set_option linter.unusedVariables false

/-- v is a slice of the call's own (its array in block 'base' or later) that holds l -/
abbrev Own {α : Type} (f : α → Value) (e base : Nat) (w : World) (v : Value) (l : List α) : Prop := w.ownsRow base e 1 v l.length (l.map f)
/-- v holds l -/
abbrev Hold {α : Type} (f : α → Value) (w : World) (v : Value) (l : List α) : Prop := Sl w 1 v (l.map f) l.length

theorem Own.hold {α : Type} {f : α → Value} {e base : Nat} {w : World} {v : Value} {l : List α} (h : Own f e base w v l) : Hold f w v l := Sl.of_own h
theorem Own.ext {α : Type} {f : α → Value} {e base : Nat} {w w' : World} {v : Value} {l : List α} (h : Own f e base w v l) (he : Ext w w') : Own f e base w' v l :=
  h.kept (grownBy.of_ext he none) (by cases hv : v.ownBlock <;> simp)
theorem Own.grown {α : Type} {f : α → Value} {e base : Nat} {w w' : World} {v : Value} {l : List α} {r : Option Nat} (h : Own f e base w v l) (hg : w.grownBy w' r) (hne : ∀ g, v.ownBlock = some g → r ≠ some g) : Own f e base w' v l :=
  h.kept hg (by
    cases hv : v.ownBlock with
    | none => exact .inl rfl
    | some g => exact .inr (fun e => hne g hv e.symm))
theorem Own.base_le {α : Type} {f : α → Value} {e base base' : Nat} {w : World} {v : Value} {l : List α} (h : Own f e base w v l) (hb : base' ≤ base) : Own f e base' w v l := by
  refine ⟨h.1, ?_⟩
  rcases h.2 with h2 | ⟨g, cap, cur, h1, h2, h3⟩
  · exact .inl h2
  · exact .inr ⟨g, cap, cur, h1, Nat.le_trans hb h2, h3⟩
theorem Own.nil {α : Type} (f : α → Value) (e base : Nat) (w : World) : Own f e base w (.slice none 0 0) ([] : List α) := World.ownsRow_nil w base e 1
theorem Own.lt {α : Type} {f : α → Value} {e base : Nat} {w : World} {v : Value} {l : List α} (h : Own f e base w v l) {g : Nat} (hg : v.ownBlock = some g) : base ≤ g ∧ g < w.heap.size := World.ownsRow.lt h g hg
theorem Hold.nil {α : Type} (f : α → Value) (w : World) : Hold f w (.slice none 0 0) ([] : List α) := Sl.nil w 1
theorem Hold.one {α : Type} {f : α → Value} (h1 : ∀ a, (f a).oneCell' = true) (l : List α) : ∀ c ∈ l.map f, c.oneCell' = true := by
  intro c hc; obtain ⟨b, _, rfl⟩ := List.mem_map.1 hc; exact h1 b
theorem Hold.len_le {α : Type} {f : α → Value} {w : World} {v : Value} {l : List α} (h : Hold f w v l) : l.length ≤ 9223372036854775807 := by
  have := h.max; unfold maxLen at this; omega

def evF {α : Type} (g : SV → Option α) (L : Lst) (k : Nat) : List (Nat × Operand) → Option (List α)
  | [] => some []
  | (i, x) :: r => bif Nat.beq i k then (match evo L x with | some s => (match g s, evF g L (k + 1) r with | some a, some as => some (a :: as) | _, _ => none) | none => none) else none
def SV.byte? : SV → Option UInt8 | .u8 b => some b | _ => none
def SV.word? : SV → Option UInt32 | .u32 b => some b | _ => none
def SV.int? : SV → Option Int | .v (.int .i64 n) => some n | _ => none
def SV.raw? : SV → Option Value | .v x => some x | _ => none
theorem evF_parts {α : Type} {f : α → Value} {g : SV → Option α} (hg : ∀ s a, g s = some a → s.den = f a) {L : Lst} : ∀ (ps : List (Nat × Operand)) (k : Nat) (l : List α), evF g L k ps = some l → ∃ ss, evparts L k ps = some ss ∧ ss.map SV.den = l.map f := by
  intro ps
  induction ps with
  | nil => intro k l h; simp only [evF, Option.some.injEq] at h; subst h; exact ⟨[], rfl, rfl⟩
  | cons p r ih =>
    intro k l h
    obtain ⟨i, x⟩ := p
    simp only [evF] at h
    cases hb : Nat.beq i k with
    | false => rw [hb] at h; cases h
    | true =>
      rw [hb] at h
      simp only [cond_true] at h
      cases hx : evo L x with
      | none => rw [hx] at h; cases h
      | some s =>
        rw [hx] at h
        simp only at h
        split at h
        · rename_i a as h1 h2
          obtain rfl := Option.some.inj h
          obtain ⟨ss, e1, e2⟩ := ih _ _ h2
          exact ⟨s :: ss, by simp [evparts, hb, hx, e1], by simp [e2, hg s a h1]⟩
        · cases h
theorem byte_ok (s : SV) (a : UInt8) (h : s.byte? = some a) : s.den = byteV a := by cases s <;> simp_all [SV.byte?, SV.den]
theorem word_ok (s : SV) (a : UInt32) (h : s.word? = some a) : s.den = wordV a := by cases s <;> simp_all [SV.word?, SV.den]
theorem int_ok (s : SV) (a : Int) (h : s.int? = some a) : s.den = intV a := by
  cases s with
  | v x =>
    cases x with
    | int k n => cases k <;> simp_all [SV.int?, SV.den, intV]
    | _ => simp [SV.int?] at h
  | _ => simp [SV.int?] at h
theorem raw_ok (s : SV) (a : Value) (h : s.raw? = some a) : s.den = id a := by cases s <;> simp_all [SV.raw?, SV.den]
theorem byteV_1 (b : UInt8) : (byteV b).oneCell' = true := rfl
theorem wordV_1 (b : UInt32) : (wordV b).oneCell' = true := rfl
theorem intV_1 (b : Int) : (intV b).oneCell' = true := rfl

section
variable {P : Program} {L : Lst} {w : World} {ty : TypeId} {K : SV → World → Prop} {t e bytes : Nat} {z : Value} {α : Type} {f : α → Value}

theorem OP_app {s x : Operand} {v u : Value} {base : Nat} {l m : List α} (T : SliceT P t e z 1 bytes) (h1 : ∀ a, (f a).oneCell' = true) (hs : evo L s = some (.v v)) (hx : evo L x = some (.v u)) (hown : Own f e base w v l) (hsl : Hold f w u m)
    (hb : (l.length + m.length) * bytes ≤ 140737488355328 ∧ 0 < bytes) (hbase : base ≤ w.heap.size)
    (hk : ∀ v' w', Own f e base w' v' (l ++ m) → Below base w w' → w.grownBy w' v.ownBlock → K (.v v') w') :
    OP P L (.call { callee := .builtin .append, args := #[s, x], argTypes := #[t, t] }) ty w K :=
  OP_append T hs hx hown hsl (Hold.one h1 m) ⟨by have := Nat.le_mul_of_pos_right (l.length + m.length) hb.2; unfold maxLen; omega, hb.1⟩ hbase (fun v' w' ho hbl hg => hk v' w' (by
    unfold Own; rw [List.length_append, List.map_append]; exact ho) hbl hg)
theorem OP_appT {s x : Operand} {v u : Value} {l m : List α} (T : SliceT P t e z 1 bytes) (h1 : ∀ a, (f a).oneCell' = true) (hs : evo L s = some (.v v)) (hx : evo L x = some (.v u)) (hv : Hold f w v l) (ht : Tight v) (hsl : Hold f w u m)
    (hb : (l.length + m.length) * bytes ≤ 140737488355328 ∧ 0 < bytes)
    (hk : ∀ v' w', Hold f w' v' (l ++ m) → (Own f e w.heap.size w' v' (l ++ m) ∨ (m = [] ∧ v' = v)) → Ext w w' → K (.v v') w') :
    OP P L (.call { callee := .builtin .append, args := #[s, x], argTypes := #[t, t] }) ty w K :=
  OP_append_tight T hs hx hv ht hsl (Hold.one h1 m) ⟨by have := Nat.le_mul_of_pos_right (l.length + m.length) hb.2; unfold maxLen; omega, hb.1⟩ (fun v' w' hh ho he => hk v' w' (by
    unfold Hold; rw [List.length_append, List.map_append]; exact hh) (by
      rcases ho with ho | ⟨h0, h1⟩
      · exact .inl (by unfold Own; rw [List.length_append, List.map_append]; exact ho)
      · exact .inr ⟨List.eq_nil_of_length_eq_zero h0, h1⟩) he)
theorem OP_mk0 (α : Type) (f : α → Value) {l c : Operand} {base n : Nat} (T : SliceT P t e z 1 bytes) (hl : evo L l = some (.v (.int .i64 0))) (hc : evo L c = some (.v (.int .i64 (n : Int)))) (hb : bytes * n ≤ 281474976710656 ∧ 0 < bytes) (hbase : base ≤ w.heap.size)
    (hk : ∀ v' w', Own f e base w' v' ([] : List α) → Ext w w' → K (.v v') w') : OP P L (.makeSlice t l c) ty w K :=
  OP_make0 T hl hc ⟨hb.1, by have := Nat.le_mul_of_pos_left n hb.2; unfold maxLen; omega⟩ hbase hk
theorem OP_mk {l c : Operand} {base n : Nat} {a0 : α} (T : SliceT P t e (f a0) 1 bytes) (h1 : (f a0).oneCell' = true) (hl : evo L l = some (.v (.int .i64 (n : Int)))) (hc : evo L c = some (.v (.int .i64 (n : Int)))) (hb : bytes * n ≤ 281474976710656 ∧ 0 < bytes) (hbase : base ≤ w.heap.size)
    (hk : ∀ v' w', Own f e base w' v' (List.replicate n a0) → Tight v' → v'.ownBlock = some w.heap.size → Ext w w' → K (.v v') w') : OP P L (.makeSlice t l c) ty w K :=
  OP_make T hl hc ⟨hb.1, by have := Nat.le_mul_of_pos_left n hb.2; unfold maxLen; omega⟩ hbase (fun v' w' ho ht hbk he => hk v' w' (by
    have hc : (f a0).cells = #[f a0] := by cases hd : f a0 <;> first | rfl | (rw [hd] at h1; cases h1)
    rw [hc, toList_madeCells_one, Nat.mul_one] at ho
    unfold Own; rw [List.length_replicate, List.map_replicate]; exact ho) ht hbk he)
theorem OP_li {parts : Array (Nat × Operand)} {len base : Nat} {l : List α} {g : SV → Option α} (hg : ∀ s a, g s = some a → s.den = f a) (h1 : ∀ a, (f a).oneCell' = true) (T : SliceT P t e z 1 bytes) (hp : evF g L 0 parts.toList = some l) (hlen : Nat.beq l.length len = true) (hmax : Nat.ble len 16777216 = true) (hbase : base ≤ w.heap.size)
    (hk : ∀ v' w', Own f e base w' v' l → Tight v' → v'.ownBlock = some w.heap.size → Ext w w' → K (.v v') w') : OP P L (.buildSlice t len parts) ty w K := by
  obtain ⟨ss, hss, hm⟩ := evF_parts hg _ _ _ hp
  have hsl : ss.length = l.length := by have := congrArg List.length hm; simpa using this
  have hlen' : l.length = len := by simpa using hlen
  refine OP_lit T hss (by rw [hsl]; exact hlen) (fun s hs => ?_) hmax hbase (fun v' w' ho ht hbk he => hk v' w' (by unfold Own; rw [hlen', ← hm]; exact ho) ht hbk he)
  have : s.den ∈ l.map f := by rw [← hm]; exact List.mem_map.2 ⟨s, hs, rfl⟩
  obtain ⟨a, _, ha⟩ := List.mem_map.1 this
  rw [← ha]; exact h1 a

section cuts
variable {x l h m : Operand} {v : Value} {q : List α} {il ih im : Int}
theorem OP_cut_lh (T : SliceT P t e z 1 bytes) (hx : evo L x = some (.v v)) (hv : Hold f w v q) (hl : evo L l = some (.v (.int .i64 il))) (hh : evo L h = some (.v (.int .i64 ih))) (b : 0 ≤ il ∧ il ≤ ih ∧ ih ≤ q.length)
    (hk : ∀ v', Hold f w v' ((q.drop il.toNat).take (ih.toNat - il.toNat)) → v'.ownBlock = v.ownBlock → K (.v v') w) : OP P L (.slice t x (some l) (some h) none) ty w K :=
  OP_slice_lh T hx hv hl hh b fun v' hs ho => hk v' (by
    unfold Hold; rw [List.map_take, List.map_drop, List.length_take, List.length_drop, Nat.min_eq_left (by omega)]; simpa using hs) ho
theorem OP_cut_h (T : SliceT P t e z 1 bytes) (hx : evo L x = some (.v v)) (hv : Hold f w v q) (hh : evo L h = some (.v (.int .i64 ih))) (b : 0 ≤ ih ∧ ih ≤ q.length)
    (hk : ∀ v', Hold f w v' (q.take ih.toNat) → v'.ownBlock = v.ownBlock → K (.v v') w) : OP P L (.slice t x none (some h) none) ty w K :=
  OP_slice_h T hx hv hh b fun v' hs ho => hk v' (by
    unfold Hold; rw [List.map_take, List.length_take, Nat.min_eq_left (by omega)]; simpa using hs) ho
theorem OP_cut_l (T : SliceT P t e z 1 bytes) (hx : evo L x = some (.v v)) (hv : Hold f w v q) (hl : evo L l = some (.v (.int .i64 il))) (b : 0 ≤ il ∧ il ≤ q.length)
    (hk : ∀ v', Hold f w v' (q.drop il.toNat) → v'.ownBlock = v.ownBlock → K (.v v') w) : OP P L (.slice t x (some l) none none) ty w K :=
  OP_slice_l T hx hv hl b fun v' hs ho => hk v' (by
    unfold Hold; rw [List.map_drop, List.length_drop]; simpa using hs) ho
theorem OP_cut_hm (T : SliceT P t e z 1 bytes) (hx : evo L x = some (.v v)) (hv : Hold f w v q) (hh : evo L h = some (.v (.int .i64 ih))) (hm : evo L m = some (.v (.int .i64 im))) (b : 0 ≤ ih ∧ ih = im ∧ im ≤ q.length)
    (hk : ∀ v', Hold f w v' (q.take ih.toNat) → v'.ownBlock = v.ownBlock → Tight v' → K (.v v') w) : OP P L (.slice t x none (some h) (some m)) ty w K :=
  OP_slice_hm T hx hv hh hm b fun v' hs ho ht => hk v' (by
    unfold Hold; rw [List.map_take, List.length_take, Nat.min_eq_left (by omega)]; simpa using hs) ho ht
theorem OP_cut_lhm (T : SliceT P t e z 1 bytes) (hx : evo L x = some (.v v)) (hv : Hold f w v q) (hl : evo L l = some (.v (.int .i64 il))) (hh : evo L h = some (.v (.int .i64 ih))) (hm : evo L m = some (.v (.int .i64 im))) (b : 0 ≤ il ∧ il ≤ ih ∧ ih = im ∧ im ≤ q.length)
    (hk : ∀ v', Hold f w v' ((q.drop il.toNat).take (ih.toNat - il.toNat)) → v'.ownBlock = v.ownBlock → Tight v' → K (.v v') w) : OP P L (.slice t x (some l) (some h) (some m)) ty w K :=
  OP_slice_lhm T hx hv hl hh hm b fun v' hs ho ht => hk v' (by
    unfold Hold; rw [List.map_take, List.map_drop, List.length_take, List.length_drop, Nat.min_eq_left (by omega)]; simpa using hs) ho ht
/-- the address of an element -/
theorem OP_el {j : Operand} {i : Int} {k : IntKind} {sj : SV} (T : SliceT P t e z 1 bytes) (hx : evo L x = some (.v v)) (hv : Hold f w v q) (hj : evo L j = some sj) (ej : sj.num = some (k, i)) (b : 0 ≤ i ∧ i < q.length)
    (hk : ∀ p a, q[i.toNat]? = some a → w.cell? p = some (f a) → K (.v (.pointer (some p))) w) : OP P L (.indexAddr t x j) ty w K :=
  OP_ix1 T hx hv hj ej b fun p u hu hc => by
    rw [List.getElem?_map, Option.map_eq_some_iff] at hu
    obtain ⟨a, ha, rfl⟩ := hu
    exact hk p a ha hc
end cuts
end
/-! ### Arrays of words -/
abbrev BlkW (w : World) (b : Nat) (ws : List UInt32) : Prop := Blk w b (ws.map wordV)
theorem BlkW.at {w w' : World} {b : Nat} {ws : List UInt32} (h : BlkW w b ws) (he : Ext w w') (j : Nat) (hj : j < ws.length) : w'.cell? ⟨b, 0 + j, none⟩ = some (wordV (ws.getD j 0)) := by
  refine (h.ext he).cell ?_
  rw [Nat.zero_add, List.getElem?_map, List.getElem?_eq_getElem hj]
  simp [List.getD, hj]
section
variable {P : Program} {L : Lst} {w : World} {ty : TypeId} {K : SV → World → Prop} {t : Nat}
theorem OP_stw {x y : Operand} {b j : Nat} {ws : List UInt32} {a : UInt32} (hsz : (P.info? t).map (·.size) = some 1) (hx : evo L x = some (.v (.pointer (some ⟨b, 0 + j, none⟩)))) (hy : evo L y = some (.u32 a)) (hb : BlkW w b ws) (hj : j < ws.length)
    (hk : ∀ s' w', BlkW w' b (ws.set j a) → w.grownBy w' (some b) → K s' w') : OP P L (.store t x y) ty w K :=
  OP_store (d := .bool) hsz hx hy rfl hb (by simpa using hj) fun s' w' h g => hk s' w' (by
    unfold BlkW; rw [List.map_set]; simpa [SV.den] using h) g
theorem OP_bw {e : Nat} {parts : Array (Nat × Operand)} {n : Nat} {l : List UInt32} {z : Value} (T : ArrT P t n e) (hz : (P.info? t).map (·.zero) = some (some z)) (hzn : z.cells.size = n) (hp : evF SV.word? L 0 parts.toList = some l) (hlen : Nat.beq l.length n = true)
    (hk : K (.v (.agg (l.map wordV).toArray)) w) : OP P L (.build t parts) ty w K := by
  obtain ⟨ss, hss, hm⟩ := evF_parts word_ok _ _ _ hp
  have hsl : ss.length = l.length := by have := congrArg List.length hm; simpa using this
  have hlen' : l.length = n := by simpa using hlen
  refine OP_builda T hz hzn hss (by omega) (fun s hs => ?_) (by rw [hm]; exact hk)
  have : s.den ∈ l.map wordV := by rw [← hm]; exact List.mem_map.2 ⟨s, hs, rfl⟩
  obtain ⟨a, _, ha⟩ := List.mem_map.1 this
  rw [← ha]; rfl
theorem OP_stws {x y : Operand} {b n : Nat} {ws l : List UInt32} (hsz : (P.info? t).map (·.size) = some n) (hx : evo L x = some (.v (.pointer (some ⟨b, 0, none⟩)))) (hy : evo L y = some (.v (.agg (l.map wordV).toArray))) (hb : BlkW w b ws) (hn : ws.length = n) (hl : l.length = n)
    (hk : ∀ s' w', BlkW w' b l → w.grownBy w' (some b) → K s' w') : OP P L (.store t x y) ty w K :=
  OP_storea (d := .bool) hsz hx hy (Hold.one wordV_1 l) hb (by simpa using hn) (by simpa using hl) hk
end
theorem set_snoc {α : Type} (l : List α) (n : Nat) (z x : α) (h : 0 < n) : (l ++ List.replicate n z).set l.length x = (l ++ [x]) ++ List.replicate (n - 1) z := by
  rw [List.set_append_right _ _ (Nat.le_refl _), Nat.sub_self]
  obtain ⟨m, rfl⟩ : ∃ m, n = m + 1 := ⟨n - 1, by omega⟩
  simp [List.replicate_succ]
theorem getD_left {α : Type} (l r : List α) (z : α) (i : Nat) (h : i < l.length) : (l ++ r).getD i z = l.getD i z := by
  simp [List.getD, List.getElem?_append_left h]
end Go.Eng
