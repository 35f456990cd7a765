/-
  Own text. The opening of an argument of any plain type: what a row reads as a datum is plain data to the abstract machine. It claims nothing of any program.
-/
import Derived.Test.YtlaglaehkhmklaaAxO
import Derived.OpenShut
import Derived.ChangeSlices
namespace Go.Ax
open Go Go.RowKit Go.Eng Go.ChangeShapes Go.WideShapes
set_option linter.unusedVariables false
set_option linter.unusedSimpArgs false

/-- the types ts, one behind the other, are the plain data τ -/
def offB (P : Program) : Nat → List Field → Bool
  | _, [] => true
  | o, f :: r => Nat.beq f.offset o && offB P (o + P.cellsOf f.type) r
def tysB (P : Program) : Nat → Ty → List TypeId → Bool
  | 0, _, _ => false
  | n + 1, .unit, [] => true
  | n + 1, τ, [t] => match P.underlying t, τ with
    | some .bool, .bool => true
    | some (.int .i64), .i64 => true
    | some (.int .u8), .u8 => true
    | some (.int .u32), .u32 => true
    | some (.int .u64), .u64 => true
    | some .string, .str => true
    | some (.slice e), .sl a => tysB P n a [e]
    | some (.struct fs), τ => offB P 0 fs.toList && Nat.beq (P.cellsOf t) ((fs.toList.map fun f => P.cellsOf f.type).sum) && tysB P n τ (fs.toList.map (·.type))
    | some (.array k e), τ => Nat.beq (P.cellsOf t) (k * P.cellsOf e) && tysB P n τ (List.replicate k e)
    | _, _ => false
  | n + 1, .pair a b, t :: u :: r => tysB P n a [t] && tysB P n b (u :: r)
  | _, _, _ => false

def oneB (P : Program) (n : Nat) (t : TypeId) (τ : Ty) : Bool := match P.underlying t, τ with
    | some .bool, .bool => true
    | some (.int .i64), .i64 => true
    | some (.int .u8), .u8 => true
    | some (.int .u32), .u32 => true
    | some (.int .u64), .u64 => true
    | some .string, .str => true
    | some (.slice e), .sl a => tysB P n a [e]
    | some (.struct fs), τ => offB P 0 fs.toList && Nat.beq (P.cellsOf t) ((fs.toList.map fun f => P.cellsOf f.type).sum) && tysB P n τ (fs.toList.map (·.type))
    | some (.array k e), τ => Nat.beq (P.cellsOf t) (k * P.cellsOf e) && tysB P n τ (List.replicate k e)
    | _, _ => false
theorem tysB_one (P : Program) (n : Nat) (t : TypeId) (τ : Ty) : tysB P (n + 1) τ [t] = oneB P n t τ := by cases τ <;> rfl
/-- numbers in range, lists no longer than they can be -/
def Wf : (t : Ty) → El t → Prop
  | .i64, x => -9223372036854775808 ≤ x ∧ x ≤ 9223372036854775807
  | .pair a b, x => Wf a x.1 ∧ Wf b x.2
  | .sl e, l => List.length l ≤ maxLen ∧ ∀ x ∈ l, Wf e x
  | .str, l => List.length l ≤ maxLen
  | _, _ => True
section
variable {H : Type} {enc : TypeId × Value → H} {P : Program} {w : World}
def Pcs (enc : TypeId × Value → H) (P : Program) (w : World) : List TypeId → List Value → Prop
  | [], cs => cs = []
  | t :: r, cs => P.cellsOf t ≤ cs.length ∧ (∃ n x, DataW.trod enc P w 0 (fun _ => true) true n t (cs.take (P.cellsOf t)) = some x) ∧ Pcs enc P w r (cs.drop (P.cellsOf t))
theorem mapM_mem {α β : Type} {f : α → Option β} : ∀ {l : List α} {r : List β}, l.mapM f = some r → ∀ (i : Nat) (a : α), l[i]? = some a → ∃ b, f a = some b
  | [], _, _, i, a, hi => by simp at hi
  | x :: l, r, h, i, a, hi => by
    rw [List.mapM_cons] at h
    obtain ⟨y, hy, h⟩ := Option.bind_eq_some_iff.1 h
    obtain ⟨ys, hys, h⟩ := Option.bind_eq_some_iff.1 h
    cases i with
    | zero => simp at hi; subst hi; exact ⟨y, hy⟩
    | succ i => exact mapM_mem hys i a (by simpa using hi)
theorem pcs_fields {cs : List Value} {n : Nat} : ∀ {fs : List Field} {o : Nat}, offB P o fs = true → (∀ (i : Nat) (f : Field), fs[i]? = some f → ∃ x, DataW.trod enc P w 0 (fun _ => true) true n f.type ((cs.drop f.offset).take (P.cellsOf f.type)) = some x) →
    cs.length = o + (fs.map fun f => P.cellsOf f.type).sum → Pcs enc P w (fs.map (·.type)) (cs.drop o)
  | [], o, _, _, hl => by simp only [List.map_nil, Pcs]; exact List.drop_eq_nil_of_le (by simp at hl; omega)
  | f :: r, o, ho, hf, hl => by
    simp only [offB, Bool.and_eq_true] at ho
    have h0 : f.offset = o := by simpa using ho.1
    simp only [List.map_cons, List.sum_cons] at hl
    simp only [List.map_cons, Pcs]
    refine ⟨by rw [List.length_drop]; omega, ?_, ?_⟩
    · obtain ⟨x, hx⟩ := hf 0 f rfl
      rw [h0] at hx
      exact ⟨n, x, hx⟩
    · rw [List.drop_drop]
      exact pcs_fields ho.2 (fun i g hg => hf (i + 1) g (by simpa using hg)) (by omega)
theorem pcs_arr {cs : List Value} {n : Nat} {e : TypeId} : ∀ {k j : Nat}, (∀ i, j ≤ i → i < j + k → ∃ x, DataW.trod enc P w 0 (fun _ => true) true n e ((cs.drop (i * P.cellsOf e)).take (P.cellsOf e)) = some x) →
    cs.length = (j + k) * P.cellsOf e → Pcs enc P w (List.replicate k e) (cs.drop (j * P.cellsOf e))
  | 0, j, _, hl => by simp only [List.replicate_zero, Pcs]; exact List.drop_eq_nil_of_le (by rw [hl]; simp)
  | k + 1, j, h, hl => by
    simp only [List.replicate_succ, Pcs]
    have e1 : (j + (k + 1)) * P.cellsOf e = j * P.cellsOf e + P.cellsOf e + k * P.cellsOf e := by rw [Nat.add_mul, Nat.add_mul]; omega
    refine ⟨by rw [List.length_drop, hl, e1]; omega, ?_, ?_⟩
    · obtain ⟨x, hx⟩ := h j (by omega) (by omega)
      exact ⟨n, x, hx⟩
    · rw [List.drop_drop]
      have := pcs_arr (cs := cs) (n := n) (e := e) (k := k) (j := j + 1) (fun i hi hk => h i (by omega) (by omega)) (by rw [hl]; congr 1; omega)
      rwa [Nat.add_mul, Nat.one_mul] at this
theorem Pcs.len : ∀ {ts : List TypeId} {cs : List Value}, Pcs enc P w ts cs → cs.length = (ts.map fun t => P.cellsOf t).sum
  | [], cs, h => by simp only [Pcs] at h; subst h; rfl
  | t :: r, cs, h => by
    have := Pcs.len h.2.2
    rw [List.length_drop] at this
    simp only [List.map_cons, List.sum_cons]
    have h1 := h.1
    omega
theorem choose_list {α : Type} {p : Nat → α → Prop} : ∀ (n : Nat), (∀ i, i < n → ∃ a, p i a) → ∃ l : List α, l.length = n ∧ ∀ (i : Nat) (a : α), l[i]? = some a → p i a
  | 0, _ => ⟨[], rfl, fun i a h => by simp at h⟩
  | n + 1, h => by
    obtain ⟨l, h1, h2⟩ := choose_list n fun i hi => h i (by omega)
    obtain ⟨a, ha⟩ := h n (by omega)
    refine ⟨l ++ [a], by simp [h1], fun i b hb => ?_⟩
    rcases Nat.lt_or_ge i n with hi | hi
    · exact h2 i b (by rwa [List.getElem?_append_left (by omega)] at hb)
    · have : i = n := by
        have := (List.getElem?_eq_some_iff.1 hb).1
        simp at this; omega
      subst this
      rw [List.getElem?_append_right (by omega), h1] at hb
      simp at hb; subst hb; exact ha
theorem all2_of {α β : Type} {R : α → β → Prop} : ∀ {l : List α} {m : List β}, l.length = m.length → (∀ (i : Nat) (a : α) (b : β), l[i]? = some a → m[i]? = some b → R a b) → All2 R l m
  | [], [], _, _ => trivial
  | a :: l, b :: m, h, hR => ⟨hR 0 a b rfl rfl, all2_of (by simpa using h) fun i x y hx hy => hR (i + 1) x y (by simpa using hx) (by simpa using hy)⟩
  | [], _ :: _, h, _ => by simp at h
  | _ :: _, [], h, _ => by simp at h
theorem flat_get {n : Nat} {d : List Value} : ∀ {l : List (List Value)} (hl : ∀ x ∈ l, x.length = n) {j : Nat} {u : Value}, l.flatten[j]? = some u → ∃ i k c, l[i]? = some c ∧ c[k]? = some u ∧ j = i * n + k ∧ k < n
  | [], _, j, u, h => by simp at h
  | x :: l, hl, j, u, h => by
    have hx := hl x (by simp)
    rw [List.flatten_cons] at h
    rcases Nat.lt_or_ge j x.length with hj | hj
    · rw [List.getElem?_append_left hj] at h
      exact ⟨0, j, x, rfl, h, by omega, by omega⟩
    · rw [List.getElem?_append_right hj] at h
      obtain ⟨i, k, c, h1, h2, h3, h4⟩ := flat_get (d := d) (fun y hy => hl y (by simp [hy])) h
      exact ⟨i + 1, k, c, by simpa using h1, h2, by rw [Nat.add_mul]; omega, h4⟩
theorem flat_length {n : Nat} : ∀ {l : List (List Value)} (hl : ∀ x ∈ l, x.length = n), l.flatten.length = l.length * n
  | [], _ => by simp
  | x :: l, hl => by
    rw [List.flatten_cons, List.length_append, flat_length (fun y hy => hl y (by simp [hy])), hl x (by simp), List.length_cons, Nat.add_mul]; omega
theorem opens : ∀ (n : Nat) {τ : Ty} {ts : List TypeId} {cs : List Value}, tysB P n τ ts = true → Pcs enc P w ts cs → ∃ x : El τ, CR τ x cs w ∧ Wf τ x := by
  intro n
  induction n with
  | zero => intro τ ts cs h; cases h
  | succ n ih =>
    intro τ ts cs h hp
    match ts, h, hp with
    | [], h, hp =>
      cases τ with
      | unit => exact ⟨(), by simpa only [CR, Pcs] using hp, trivial⟩
      | _ => simp [tysB] at h
    | t :: u :: r, h, hp =>
      cases τ with
      | pair a b =>
        simp only [tysB, Bool.and_eq_true] at h
        obtain ⟨h1, h2, h3⟩ := hp
        obtain ⟨m, x, hx⟩ := h2
        have hp1 : Pcs enc P w [t] (cs.take (P.cellsOf t)) := by
          have hl : (cs.take (P.cellsOf t)).length = P.cellsOf t := by simp; omega
          refine ⟨by omega, ⟨m, x, by rw [List.take_of_length_le (by omega)]; exact hx⟩, ?_⟩
          simp only [Pcs]; exact List.drop_eq_nil_of_le (by omega)
        obtain ⟨y, hy, hy'⟩ := ih h.1 hp1
        obtain ⟨z, hz, hz'⟩ := ih h.2 h3
        refine ⟨(y, z), ?_, hy', hz'⟩
        simp only [CR]
        exact ⟨_, _, (List.take_append_drop _ _).symm, hy, hz⟩
      | _ => simp [tysB] at h
    | [t], h, hp =>
      obtain ⟨h1, ⟨m, x, hx⟩, h3⟩ := hp
      simp only [Pcs] at h3
      have hcs : cs.length = P.cellsOf t := by
        have := congrArg List.length h3
        simp at this; omega
      rw [List.take_of_length_le (by omega)] at hx
      rw [tysB_one] at h
      unfold oneB at h
      split at h
      · rename_i hu _; obtain ⟨b, rfl, _⟩ := DataW.trod_bool hu hx; exact ⟨b, by simp only [CR], trivial⟩
      · rename_i hu _; obtain ⟨b, rfl, _, hw⟩ := DataW.trod_int hu hx; exact ⟨b, by simp only [CR], bounds_i64 hw⟩
      · rename_i hu _
        obtain ⟨b, rfl, _, hw⟩ := DataW.trod_int hu hx
        have := bounds_u8 hw
        refine ⟨UInt8.ofNat b.toNat, ?_, trivial⟩
        simp only [CR, byteV, UInt8.toNat_ofNat', List.cons.injEq, Value.int.injEq, true_and, and_true]
        omega
      · rename_i hu _
        obtain ⟨b, rfl, _, hw⟩ := DataW.trod_int hu hx
        have hb := bounds_u32 hw
        refine ⟨UInt32.ofNat b.toNat, ?_, trivial⟩
        simp only [CR, wordV, UInt32.toNat_ofNat', List.cons.injEq, Value.int.injEq, true_and, and_true]
        omega
      · rename_i hu _
        obtain ⟨b, rfl, _, hw⟩ := DataW.trod_int hu hx
        have hb := bounds_u64 hw
        refine ⟨UInt64.ofNat b.toNat, ?_, trivial⟩
        simp only [CR, longV, UInt64.toNat_ofNat', List.cons.injEq, Value.int.injEq, true_and, and_true]
        omega
      · rename_i hu _
        obtain ⟨b, rfl, _, hw⟩ := DataW.trod_string hu hx
        exact ⟨b.data.toList, by simp only [CR], hw⟩
      · rename_i e a hu _
        rcases DataW.trod_slice hu hx with ⟨rfl, _⟩ | ⟨ad, len, cap, elems, rest, n', _, rfl, _, _, hl, hmx, hlen, hel, _⟩
        · exact ⟨[], by simp only [CR]; exact ⟨_, [], rfl, trivial, Sl.nil _ _⟩, by show List.length _ ≤ maxLen ∧ _; exact ⟨by simp, fun x hx => by cases hx⟩⟩
        · have each : ∀ i, i < len → ∃ q : El a × List Value, (CR a q.1 q.2 w ∧ Wf a q.1) ∧ q.2.length = P.cellsOf e ∧ ∀ k, k < P.cellsOf e → w.cell? (ad.add (i * P.cellsOf e + k)) = q.2[k]? := by
            intro i hi
            have h1 := hel i hi
            rw [List.getElem?_eq_getElem (by omega), Option.bind_eq_some_iff] at h1
            obtain ⟨ci, h2, h3⟩ := h1
            obtain ⟨_, h4, h5⟩ := World.cells?_some h2
            have hp1 : Pcs enc P w [e] ci := by
              refine ⟨by omega, ⟨n', _, by rw [List.take_of_length_le (by omega)]; exact h3⟩, ?_⟩
              simp only [Pcs]; exact List.drop_eq_nil_of_le (by omega)
            obtain ⟨y, hy, hy'⟩ := ih h hp1
            exact ⟨(y, ci), ⟨hy, hy'⟩, h4, fun k hk => by have := h5 k hk; rw [add_add] at this; exact this⟩
          obtain ⟨l, hll, hl2⟩ := choose_list len each
          have hsz : ∀ x ∈ l.map (·.2), x.length = a.n := by
            intro x hx
            obtain ⟨q, hq, rfl⟩ := List.mem_map.1 hx
            obtain ⟨i, hi⟩ := List.getElem?_of_mem hq
            exact (hl2 i q hi).1.1.len
          refine ⟨l.map (·.1), ?_, by
            show List.length _ ≤ maxLen ∧ _
            refine ⟨by rw [List.length_map, hll]; omega, fun x hx => ?_⟩
            obtain ⟨q, hq, rfl⟩ := List.mem_map.1 hx
            obtain ⟨i, hi⟩ := List.getElem?_of_mem hq
            exact (hl2 i q hi).1.2⟩
          simp only [CR]
          refine ⟨_, l.map (·.2), rfl, all2_of (by simp) fun i x c hx hc => ?_, ?_⟩
          · rw [List.getElem?_map, Option.map_eq_some_iff] at hx hc
            obtain ⟨q, hq, rfl⟩ := hx
            obtain ⟨q', hq', rfl⟩ := hc
            rw [hq] at hq'; obtain rfl := Option.some.inj hq'
            exact (hl2 i q hq).1.1
          · refine ⟨some ad, cap, by simp [hll], by rw [flat_length hsz]; simp, by simp [hll]; exact hl, hmx, (fun h => by cases h), fun q hq j u hu => ?_⟩
            obtain rfl := Option.some.inj hq
            obtain ⟨i, k, c, h1, h2, h3, h4⟩ := flat_get (d := []) hsz hu
            rw [List.getElem?_map, Option.map_eq_some_iff] at h1
            obtain ⟨q, hq, rfl⟩ := h1
            obtain ⟨g1, g2, g3⟩ := hl2 i q hq
            have hn : a.n = P.cellsOf e := by rw [← g1.1.len, g2]
            rw [h3, hn, g3 k (by omega)]; exact h2
      · rename_i fs hu _
        simp only [Bool.and_eq_true] at h
        obtain ⟨xs, n', _, _, hl, hxl, hf⟩ := DataW.trod_struct hu hx
        refine ih h.2 ?_
        have := pcs_fields (enc := enc) (w := w) (cs := cs) (n := n') h.1.1 (fun i f hif => ?_) (by rw [hl]; have := h.1.2; simp only [Nat.zero_add]; simpa using this)
        · simpa using this
        · have hif' : fs[i]? = some f := by simpa using hif
          have hlt : i < xs.length := by rw [hxl]; exact (Array.getElem?_eq_some_iff.1 hif').1
          exact ⟨xs[i], by rw [hf i f hif', List.getElem?_eq_getElem hlt]⟩
      · rename_i k e hu _
        simp only [Bool.and_eq_true] at h
        obtain ⟨xs, n', _, _, hl, hxl, hf⟩ := DataW.trod_array hu hx
        refine ih h.2 ?_
        have := pcs_arr (enc := enc) (P := P) (w := w) (cs := cs) (n := n') (e := e) (k := k) (j := 0) (fun i _ hi => ⟨xs[i]'(by omega), by rw [hf i (by omega), List.getElem?_eq_getElem (by omega)]⟩) (by rw [hl]; have := h.1; simp only [Nat.zero_add]; simpa using this)
        simpa using this
      · cases h
/-- an argument that a row reads is plain data -/
theorem open_cells {t : TypeId} {v : Value} {d : DataW H} {ps : List MemPlace} {τ : Ty} (n : Nat) (ht : tysB P n τ [t] = true) (h : DataW.Trod enc P w 0 (fun _ => true) true t v d ps) (hl : v.cells.toList.length = P.cellsOf t) : ∃ x : El τ, CR τ x v.cells.toList w ∧ Wf τ x := by
  obtain ⟨m, hm⟩ := h
  refine opens n ht ⟨by omega, ⟨m, _, by rw [List.take_of_length_le (by omega)]; exact hm⟩, ?_⟩
  simp only [Pcs]; exact List.drop_eq_nil_of_le (by omega)
end
theorem CR.ext : ∀ {t : Ty} {x : El t} {us : List Value} {w w' : World}, Ext w w' → CR t x us w → CR t x us w'
  | .bool, x, us, w, w', he, h => by simpa only [CR] using h
  | .i64, x, us, w, w', he, h => by simpa only [CR] using h
  | .u8, x, us, w, w', he, h => by simpa only [CR] using h
  | .u32, x, us, w, w', he, h => by simpa only [CR] using h
  | .u64, x, us, w, w', he, h => by simpa only [CR] using h
  | .str, x, us, w, w', he, h => by simpa only [CR] using h
  | .unit, x, us, w, w', he, h => by simpa only [CR] using h
  | .pair a b, x, us, w, w', he, h => by
    simp only [CR] at h ⊢
    obtain ⟨u1, u2, h0, h1, h2⟩ := h
    exact ⟨u1, u2, h0, h1.ext he, h2.ext he⟩
  | .sl e, l, us, w, w', he, h => by
    simp only [CR] at h ⊢
    obtain ⟨v, cs, h0, h1, h2⟩ := h
    exact ⟨v, cs, h0, All2.mono (fun x c hx => hx.ext he) h1, h2.ext he⟩
end Go.Ax
