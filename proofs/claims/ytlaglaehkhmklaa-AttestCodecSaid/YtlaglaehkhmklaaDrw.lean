/-
  Own text. Regions that draw their order: if every operation, once its operands hold what they should, yields what it should in every world that extends the first, then whatever order is drawn, all slots hold what they should. Operations at the end that wait for all the others come in the order of the text. It claims nothing of any program.
-/
import Derived.Test.YtlaglaehkhmklaaDat2
import Derived.Orders
namespace Go.Eng
open Go Go.RowKit
set_option linter.unusedVariables false

inductive Sp where
  | rig (s : SV)
  | flx (R : Value → World → Prop)
def Sp.ok : Sp → Value → World → Prop
  | .rig s, v, _ => v = s.den
  | .flx R, v, w => R v w
def Sp.stable (R : Sp) : Prop := ∀ v w w', R.ok v w → Ext w w' → R.ok v w'
theorem Sp.stable_rig (s : SV) : (Sp.rig s).stable := fun _ _ _ h _ => h

/-! ### Ancestors -/
def maskOf (acc : List Nat) (o : Oper) : Nat := o.after.foldl (fun s e => if Region.binds .any e then s ||| 2 ^ e.on ||| acc.getD (acc.length - 1 - e.on) 0 else s) 0
/-- masks of ancestors, the last operation first -/
def masks : List Oper → List Nat → List Nat
  | [], acc => acc
  | o :: r, acc => masks r (maskOf acc o :: acc)
inductive Anc (ops : Array Oper) : Nat → Nat → Prop
  | step {j i : Nat} {o : Oper} {e : Edge} : ops[j]? = some o → e ∈ o.after → Region.binds .any e = true → e.on = i → Anc ops j i
  | more {j i : Nat} {o : Oper} {e : Edge} : ops[j]? = some o → e ∈ o.after → Region.binds .any e = true → Anc ops e.on i → Anc ops j i

theorem bits_fold (f : Nat → Edge → Nat) (S : Edge → Nat → Prop) (hf : ∀ s e i, (f s e).testBit i = true → s.testBit i = true ∨ S e i) :
    ∀ (l : List Edge) (s i : Nat), (l.foldl f s).testBit i = true → s.testBit i = true ∨ ∃ e ∈ l, S e i := by
  intro l
  induction l with
  | nil => intro s i h; exact .inl h
  | cons e r ih =>
    intro s i h
    rw [List.foldl_cons] at h
    rcases ih _ _ h with h | ⟨e', he', h⟩
    · rcases hf _ _ _ h with h | h
      · exact .inl h
      · exact .inr ⟨e, by simp, h⟩
    · exact .inr ⟨e', by simp [he'], h⟩

/-- 'acc' has the masks of the first operations of 'ops', the last first -/
def MaskOK (ops : Array Oper) (acc : List Nat) : Prop := ∀ j i, j < acc.length → (acc.getD (acc.length - 1 - j) 0).testBit i = true → Anc ops j i

theorem masks_ok (ops : Array Oper) : ∀ (l : List Oper) (acc : List Nat), (∀ k, l[k]? = ops[acc.length + k]?) → (∀ j (o : Oper), ops[j]? = some o → ∀ e ∈ o.after, Region.binds .any e = true → e.on < j) → MaskOK ops acc → MaskOK ops (masks l acc) := by
  intro l
  induction l with
  | nil => intro acc _ _ h; exact h
  | cons o r ih =>
    intro acc hl hon h
    refine ih (maskOf acc o :: acc) (fun k => ?_) hon ?_
    · have := hl (k + 1)
      simp only [List.getElem?_cons_succ, List.length_cons] at this ⊢
      rw [this]; congr 1; omega
    · intro j i hj hb
      have ho : ops[acc.length]? = some o := by have := hl 0; simpa using this.symm
      simp only [List.length_cons] at hj hb
      by_cases hja : j = acc.length
      · subst hja
        have hb' : (maskOf acc o).testBit i = true := by simpa using hb
        unfold maskOf at hb'
        rw [← Array.foldl_toList] at hb'
        have := bits_fold (fun s e => if Region.binds .any e then s ||| 2 ^ e.on ||| acc.getD (acc.length - 1 - e.on) 0 else s)
          (fun e i => Region.binds .any e = true ∧ (e.on = i ∨ (acc.getD (acc.length - 1 - e.on) 0).testBit i = true)) (by
            intro s e i hs
            split at hs
            · rename_i hbd
              simp only [Nat.testBit_or, Bool.or_eq_true] at hs
              rcases hs with (hs | hs) | hs
              · exact .inl hs
              · exact .inr ⟨hbd, .inl (by rw [Nat.testBit_two_pow] at hs; simpa using hs)⟩
              · exact .inr ⟨hbd, .inr hs⟩
            · exact .inl hs) o.after.toList 0 i hb'
        rcases this with hz | ⟨e, he, hbd, h1 | h1⟩
        · simp at hz
        · exact .step ho (Array.mem_toList_iff.1 he) hbd h1
        · have hlt := hon _ o ho e (Array.mem_toList_iff.1 he) hbd
          exact .more ho (Array.mem_toList_iff.1 he) hbd (h e.on i hlt h1)
      · refine h j i (by omega) ?_
        have e1 : acc.length + 1 - 1 - j = (acc.length - 1 - j) + 1 := by omega
        rw [e1] at hb
        simpa using hb

/-! ### The closed check -/
/-- i is an ancestor of j -/
def ancB (ms : List Nat) (j i : Nat) : Bool := (ms.getD (ms.length - 1 - j) 0).testBit i
def allB (n : Nat) (f : Nat → Bool) : Bool := Nat.rec true (fun k ih => f k && ih) n
theorem allB_spec {n : Nat} {f : Nat → Bool} (h : allB n f = true) : ∀ i, i < n → f i = true := by
  induction n with
  | zero => intro i hi; omega
  | succ k ih =>
    have h' : (f k && allB k f) = true := h
    simp only [Bool.and_eq_true] at h'
    intro i hi
    by_cases e : i = k
    · subst e; exact h'.1
    · exact ih h'.2 i (by omega)
def dstOf (ops : Array Oper) (i : Nat) : Option Nat := (ops[i]?).bind (·.dst)
/-- 'k': the operations from k on come last, in the order of the text -/
def drawOK (n k : Nat) (ops : Array Oper) : Bool :=
  let ms := masks ops.toList []
  (Nat.ble k ops.size && allB ops.size fun j => match ops[j]? with
    | none => false
    | some o => o.after.toList.all (fun e => !Region.binds .any e || Nat.blt e.on j) && (match o.dst with | some d => Nat.blt d n | none => Nat.ble k j) && (match o.op with | .select .. => false | _ => true)) &&
  allB ops.size fun j => match ops[j]? with
    | none => false
    | some o =>
      (if Nat.ble k j then allB j fun i => ancB ms j i else true) &&
      (allB ops.size fun i => Nat.beq i j || (match dstOf ops i with
        | none => true
        | some d => (Nat.ble k i || Nat.ble k j || dstOf ops j != some d) && (!(o.looksAt ops).contains d || (bif Nat.blt i j then ancB ms j i else ancB ms i j))))

section
variable {P : Program} {n k : Nat} {ops : Array Oper} {w0 : World}

structure DrawOK (n k : Nat) (ops : Array Oper) : Prop where
  hk : k ≤ ops.size
  edge : ∀ (j : Nat) (o : Oper), ops[j]? = some o → ∀ e ∈ o.after, Region.binds .any e = true → e.on < j
  dstn : ∀ (j : Nat) (o : Oper) (d : Nat), ops[j]? = some o → o.dst = some d → d < n
  dsts : ∀ (j : Nat) (o : Oper), ops[j]? = some o → j < k → ∃ d, o.dst = some d
  sel : ∀ (j : Nat) (o : Oper), ops[j]? = some o → ∀ cs b, o.op ≠ .select cs b
  late : ∀ j i : Nat, k ≤ j → j < ops.size → i < j → Anc ops j i
  uniq : ∀ i j d : Nat, i ≠ j → i < k → j < k → dstOf ops i = some d → dstOf ops j ≠ some d
  look : ∀ (i j d : Nat) (o : Oper), i ≠ j → ops[j]? = some o → dstOf ops i = some d → d ∈ o.looksAt ops → i < ops.size → (i < j ∧ Anc ops j i) ∨ (j < i ∧ Anc ops i j)

theorem drawOK_spec (h : drawOK n k ops = true) : DrawOK n k ops := by
  simp only [drawOK, Bool.and_eq_true] at h
  obtain ⟨⟨hk, h1⟩, h2⟩ := h
  have h1 := allB_spec h1
  have h2 := allB_spec h2
  have hk : k ≤ ops.size := by simpa using hk
  have hlt : ∀ j (o : Oper), ops[j]? = some o → j < ops.size := fun j o ho => (Array.getElem?_eq_some_iff.1 ho).1
  have edge : ∀ j (o : Oper), ops[j]? = some o → ∀ e ∈ o.after, Region.binds .any e = true → e.on < j := by
    intro j o ho e he hbd
    have := h1 j (hlt j o ho)
    rw [ho] at this
    simp only [Bool.and_eq_true, List.all_eq_true] at this
    have h3 := this.1.1 e (Array.mem_toList_iff.2 he)
    rw [hbd] at h3
    simpa using h3
  have hm : MaskOK ops (masks ops.toList []) := masks_ok ops _ _ (by simp) edge (fun j i hj => by simp at hj)
  have hml : (masks ops.toList []).length = ops.size := by
    have : ∀ (l : List Oper) acc, (masks l acc).length = l.length + acc.length := by
      intro l
      induction l with
      | nil => intro acc; simp [masks]
      | cons o r ih => intro acc; simp [masks, ih]; omega
    rw [this]; simp
  have hanc : ∀ j i, j < ops.size → ancB (masks ops.toList []) j i = true → Anc ops j i := fun j i hj hb => hm j i (by omega) hb
  refine ⟨hk, edge, ?_, ?_, ?_, ?_, ?_, ?_⟩
  · intro j o d ho hd
    have := h1 j (hlt j o ho)
    rw [ho] at this
    simp only [Bool.and_eq_true, hd] at this
    simpa using this.1.2
  · intro j o ho hj
    have := h1 j (hlt j o ho)
    rw [ho] at this
    simp only [Bool.and_eq_true] at this
    cases hd : o.dst with
    | some d => exact ⟨d, rfl⟩
    | none => have h3 := this.1.2; rw [hd] at h3; simp at h3; omega
  · intro j o ho cs b hop
    have := h1 j (hlt j o ho)
    rw [ho] at this
    simp only [Bool.and_eq_true, hop] at this
    exact absurd this.2 (by simp)
  · intro j i hkj hj hij
    have := h2 j hj
    have ho : ops[j]? = some ops[j] := Array.getElem?_eq_getElem hj
    rw [ho] at this
    simp only [Bool.and_eq_true] at this
    have h3 := this.1
    rw [if_pos (by simpa using hkj)] at h3
    exact hanc j i hj (allB_spec h3 i hij)
  · intro i j d hij hi hj hdi hdj
    have := h2 j (by omega)
    have ho : ops[j]? = some ops[j] := Array.getElem?_eq_getElem (by omega)
    rw [ho] at this
    simp only [Bool.and_eq_true] at this
    have h3 := allB_spec this.2 i (by omega)
    simp only [Bool.or_eq_true, hdi, Bool.and_eq_true] at h3
    rcases h3 with h3 | h3
    · simp at h3; exact hij h3
    · rcases h3.1 with (h4 | h4) | h4
      · simp at h4; omega
      · simp at h4; omega
      · simp [hdj] at h4
  · intro i j d o hij ho hdi hd hi
    have := h2 j (hlt j o ho)
    rw [ho] at this
    simp only [Bool.and_eq_true] at this
    have h3 := allB_spec this.2 i hi
    simp only [Bool.or_eq_true, hdi, Bool.and_eq_true] at h3
    rcases h3 with h3 | h3
    · simp at h3; exact absurd h3 hij
    · rcases h3.2 with h4 | h4
      · simp at h4; exact absurd hd h4
      · cases hb : Nat.blt i j with
        | true => rw [hb] at h4; exact .inl ⟨by simpa [Nat.blt_eq] using hb, hanc j i (hlt j o ho) h4⟩
        | false =>
          rw [hb] at h4
          have : ¬ i < j := by intro h; rw [show Nat.blt i j = true from by simpa [Nat.blt_eq] using h] at hb; cases hb
          exact .inr ⟨by omega, hanc i j hi h4⟩

/-! ### The law -/
def LookOK (ops : Array Oper) (L : Lst) (Rs : Nat → Sp) (j : Nat) (lk : List Nat) (a : Act) (w : World) : Prop :=
  ∀ t ∈ lk, (∀ i, i < j → dstOf ops i = some t → (Rs i).ok (a.tmps.getD t undef) w) ∧ ((∀ i, i < j → dstOf ops i ≠ some t) → ∀ s, lkp t L = some s → a.tmps.getD t undef = s.den)
def OpObl (P : Program) (n : Nat) (ops : Array Oper) (L : Lst) (w0 : World) (Rs : Nat → Sp) (j : Nat) : Prop :=
  ∀ o, ops[j]? = some o → ∀ (a : Act) (w : World), a.tmps.size = n → Ext w0 w → LookOK ops L Rs j (o.looksAt ops) a w →
    (Region.wanted o (yielded ops a.tmps) = true → opw P a.eval o.op o.type w fun v w' => Ext w w' ∧ (Rs j).ok v w') ∧
    (Region.wanted o (yielded ops a.tmps) = false → (Rs j).ok undef w)

def Lstd (listed : Array Bool) (i : Nat) : Prop := listed.getD i false = true

structure Inv (n k : Nat) (ops : Array Oper) (L : Lst) (w0 : World) (Rs : Nat → Sp) (listed : Array Bool) (a : Act) (w : World) : Prop where
  len : listed.size = ops.size
  size : a.tmps.size = n
  defers : a.defers = []
  ext : Ext w0 w
  early : ∀ j, k ≤ j → ¬ Lstd listed j
  closed : ∀ j (o : Oper), ops[j]? = some o → Lstd listed j → ∀ e ∈ o.after, Region.binds .any e = true → Lstd listed e.on
  res : ∀ i d, Lstd listed i → dstOf ops i = some d → (Rs i).ok (a.tmps.getD d undef) w
  old : ∀ t s, lkp t L = some s → (∀ i, Lstd listed i → dstOf ops i ≠ some t) → a.tmps.getD t undef = s.den

theorem Anc.listed {listed : Array Bool} (hc : ∀ j (o : Oper), ops[j]? = some o → Lstd listed j → ∀ e ∈ o.after, Region.binds .any e = true → Lstd listed e.on)
    {j i : Nat} (h : Anc ops j i) (hj : Lstd listed j) : Lstd listed i := by
  induction h with
  | step ho he hb hi => exact hi ▸ hc _ _ ho hj _ he hb
  | more ho he hb _ ih => exact ih (hc _ _ ho hj _ he hb)
theorem Anc.ready {listed : Array Bool} (hc : ∀ j (o : Oper), ops[j]? = some o → Lstd listed j → ∀ e ∈ o.after, Region.binds .any e = true → Lstd listed e.on)
    {j i : Nat} (h : Anc ops j i) (hj : ∀ o, ops[j]? = some o → ∀ e ∈ o.after, Region.binds .any e = true → Lstd listed e.on) : Lstd listed i := by
  cases h with
  | step ho he hb hi => exact hi ▸ hj _ ho _ he hb
  | more ho he hb h => exact h.listed hc (hj _ ho _ he hb)

theorem Lstd_set {listed : Array Bool} {i j : Nat} (hi : i < listed.size) : Lstd (listed.setIfInBounds i true) j ↔ j = i ∨ Lstd listed j := by
  unfold Lstd
  by_cases h : i = j
  · subst h; simp [hi]
  · rw [getD_set_ne false h]; simp [Ne.symm h]

/-- the operations from m on, in the order of the text -/
theorem wpAny_tail (hd : DrawOK n k ops) {Q : Exit → Act → World → Prop} : ∀ (fuel m : Nat) (listed : Array Bool) (a : Act) (w : World), k ≤ m → m + fuel = ops.size → listed.size = ops.size → (∀ i, i < ops.size → (Lstd listed i ↔ i < m)) →
    wpList P ops Q (ops.toList.drop m) a w → wpAny P .any ops Q fuel listed a w := by
  intro fuel
  induction fuel with
  | zero =>
    intro m listed a w hkm hm hl hL h
    have hr : Region.ready .any ops listed = [] := by
      cases hr : Region.ready .any ops listed with
      | nil => rfl
      | cons i r =>
        have := mem_ready.1 (show i ∈ Region.ready .any ops listed by rw [hr]; simp)
        obtain ⟨h0, o, ho, _⟩ := this
        have hlt := (Array.getElem?_eq_some_iff.1 ho).1
        have : Lstd listed i := (hL i hlt).2 (by omega)
        unfold Lstd at this
        simp only [Array.getD_eq_getD_getElem?] at this h0
        rw [Array.getElem?_eq_getElem (by omega)] at this h0
        simp at this h0
        rw [this] at h0; cases h0
    refine ⟨hr, ?_⟩
    rw [List.drop_of_length_le (by simp; omega)] at h
    exact h
  | succ fuel ih =>
    intro m listed a w hkm hm hl hL h
    have hmlt : m < ops.size := by omega
    have ho : ops[m]? = some ops[m] := Array.getElem?_eq_getElem hmlt
    have hunl : ∀ i, i < ops.size → (listed.getD i true = false ↔ ¬ Lstd listed i) := by
      intro i hi
      unfold Lstd
      simp only [Array.getD_eq_getD_getElem?]
      rw [Array.getElem?_eq_getElem (by omega)]
      simp
    have hmr : m ∈ Region.ready .any ops listed := by
      rw [mem_ready]
      refine ⟨(hunl m hmlt).2 (by rw [hL m hmlt]; omega), _, ho, fun e he hb => ?_⟩
      have := hd.edge m _ ho e he hb
      exact (hL e.on (by omega)).2 this
    refine ⟨fun h0 => (by rw [h0] at hmr; cases hmr), fun i hi => ?_⟩
    have hi' := mem_ready.1 hi
    obtain ⟨h0, o, hoi, hall⟩ := hi'
    have hilt := (Array.getElem?_eq_some_iff.1 hoi).1
    have him : ¬ i < m := by rw [← hL i hilt]; exact (hunl i hilt).1 h0
    have hc : ∀ j (o : Oper), ops[j]? = some o → Lstd listed j → ∀ e ∈ o.after, Region.binds .any e = true → Lstd listed e.on := by
      intro j o hj hjl e he hb
      have h1 := hd.edge j o hj e he hb
      have h2 := (hL j (Array.getElem?_eq_some_iff.1 hj).1).1 hjl
      exact (hL e.on (by omega)).2 (by omega)
    have hiem : i = m := by
      by_cases e : i = m
      · exact e
      · have ha := hd.late i m (by omega) hilt (by omega)
        have := ha.ready hc (fun o' ho' e he hb => by rw [hoi] at ho'; obtain rfl := Option.some.inj ho'; exact hall e he hb)
        have := (hL m hmlt).1 this
        omega
    subst hiem
    have hdrop : ops.toList.drop i = ops[i] :: ops.toList.drop (i + 1) := by
      rw [List.drop_eq_getElem_cons (by simpa using hilt)]; simp
    rw [hdrop] at h
    unfold wpOp
    rw [ho]
    simp only [wpList] at h
    have hnext : ∀ a w, wpList P ops Q (ops.toList.drop (i + 1)) a w → wpAny P .any ops Q fuel (listed.setIfInBounds i true) a w := fun a w h =>
      ih (i + 1) _ a w (by omega) (by omega) (by simp [hl]) (fun j hj => by rw [Lstd_set (by omega), hL j hj]; omega) h
    show if _ then _ else _
    split
    · rename_i hw
      rw [if_pos hw] at h
      exact h.imp (Oper.wp_mono hnext) id
    · rename_i hw
      rw [if_neg hw] at h
      exact hnext _ _ h

def unl (listed : Array Bool) (N : Nat) : Nat := ((List.range N).filter fun i => !listed.getD i false).length
theorem unl_set {listed : Array Bool} {N i : Nat} (hi : i < listed.size) (hN : i < N) (h : ¬ Lstd listed i) : unl (listed.setIfInBounds i true) N + 1 = unl listed N := by
  unfold unl
  induction N with
  | zero => omega
  | succ N ih =>
    rw [List.range_succ, List.filter_append, List.filter_append, List.length_append, List.length_append]
    by_cases e : i = N
    · subst e
      have h1 : ((List.range i).filter fun j => !(listed.setIfInBounds i true).getD j false) = ((List.range i).filter fun j => !listed.getD j false) := by
        apply List.filter_congr
        intro j hj
        have : j < i := by simpa using hj
        rw [getD_set_ne false (by omega)]
      rw [h1]
      have h2 : listed.getD i false = false := by simpa only [Lstd, Bool.not_eq_true] using h
      have h3 : (listed.setIfInBounds i true).getD i false = true := by simp [hi]
      simp only [List.filter_cons, h2, h3, List.filter_nil]
      simp
    · have := ih (by omega)
      have h1 : (listed.setIfInBounds i true).getD N false = listed.getD N false := getD_set_ne false e
      rw [List.filter_cons, List.filter_cons, h1]
      simp only [List.filter_nil]
      omega
theorem unl_zero {listed : Array Bool} {N : Nat} : unl listed N = 0 ↔ ∀ i, i < N → Lstd listed i := by
  unfold unl Lstd
  rw [List.length_eq_zero_iff, List.filter_eq_nil_iff]
  simp
theorem unl_first {listed : Array Bool} {m : Nat} (N : Nat) (h : ∀ i, i < N → (Lstd listed i ↔ i < m)) : unl listed N = N - m := by
  unfold unl
  induction N with
  | zero => simp
  | succ N ih =>
    rw [List.range_succ, List.filter_append, List.length_append, ih fun i hi => h i (by omega)]
    have := h N (by omega)
    by_cases hN : N < m
    · have : listed.getD N false = true := this.2 hN
      simp only [List.filter_cons, this, List.filter_nil]
      simp; omega
    · have : listed.getD N false = false := (Bool.not_eq_true _).mp fun e => hN (this.1 e)
      simp only [List.filter_cons, this, List.filter_nil]
      simp; omega

theorem wpAny_draw (hd : DrawOK n k ops) {L : Lst} {Rs : Nat → Sp} (hst : ∀ i, i < k → (Rs i).stable) (hob : ∀ j, j < k → OpObl P n ops L w0 Rs j) {Q : Exit → Act → World → Prop}
    (hfin : ∀ (a : Act) (w : World), a.tmps.size = n → a.defers = [] → Ext w0 w → (∀ i d, i < k → dstOf ops i = some d → (Rs i).ok (a.tmps.getD d undef) w) → (∀ t s, lkp t L = some s → (∀ i, i < k → dstOf ops i ≠ some t) → a.tmps.getD t undef = s.den) →
      wpList P ops Q (ops.toList.drop k) a w) :
    ∀ (fuel : Nat) (listed : Array Bool) (a : Act) (w : World), Inv n k ops L w0 Rs listed a w → unl listed ops.size = fuel → wpAny P .any ops Q fuel listed a w := by
  intro fuel
  induction fuel with
  | zero =>
    intro listed a w hI hf
    have hall := unl_zero.1 hf
    refine wpAny_tail hd 0 ops.size listed a w hd.hk (by omega) hI.len (fun i hi => ⟨fun _ => hi, fun _ => hall i hi⟩) ?_
    have : k = ops.size := by
      have := hd.hk
      rcases Nat.lt_or_ge k ops.size with h | h
      · exact absurd (hall k h) (hI.early k (Nat.le_refl _))
      · omega
    rw [← this]
    exact hfin a w hI.size hI.defers hI.ext (fun i d hi hdi => hI.res i d (hall i (by omega)) hdi) (fun t s hs hno => hI.old t s hs fun i hi => by
      rcases Nat.lt_or_ge i k with h | h
      · exact hno i h
      · exact absurd hi (hI.early i h))
  | succ fuel ih =>
    intro listed a w hI hf
    by_cases hall : ∀ i, i < k → Lstd listed i
    · have hL : ∀ i, i < ops.size → (Lstd listed i ↔ i < k) := fun i hi => ⟨fun h => by
        rcases Nat.lt_or_ge i k with h' | h'
        · exact h'
        · exact absurd h (hI.early i h'), hall i⟩
      have := unl_first ops.size hL
      refine wpAny_tail hd (fuel + 1) k listed a w (Nat.le_refl _) (by have := hd.hk; omega) hI.len hL ?_
      exact hfin a w hI.size hI.defers hI.ext (fun i d hi hdi => hI.res i d (hall i hi) hdi) (fun t s hs hno => hI.old t s hs fun i hi => by
        rcases Nat.lt_or_ge i k with h | h
        · exact hno i h
        · exact absurd hi (hI.early i h))
    · have hunl : ∀ i, i < ops.size → (listed.getD i true = false ↔ ¬ Lstd listed i) := by
        intro i hi
        have := hI.len
        unfold Lstd
        simp only [Array.getD_eq_getD_getElem?]
        rw [Array.getElem?_eq_getElem (by omega)]
        simp
      refine ⟨fun h0 => ?_, fun i hi => ?_⟩
      · exfalso
        have hex : ∃ i, i < k ∧ ¬ Lstd listed i := by
          rcases Classical.em (∃ i, i < k ∧ ¬ Lstd listed i) with h | h
          · exact h
          · exact absurd (fun i hi => Classical.byContradiction fun hn => h ⟨i, hi, hn⟩) hall
        obtain ⟨i, ⟨hik, hin⟩, hmin⟩ := exists_least (p := fun i => i < k ∧ ¬ Lstd listed i) hex
        have hil : i < ops.size := Nat.lt_of_lt_of_le hik hd.hk
        have ho : ops[i]? = some ops[i] := Array.getElem?_eq_getElem hil
        have : i ∈ Region.ready .any ops listed := by
          rw [mem_ready]
          refine ⟨(hunl i hil).2 hin, _, ho, fun e he hb => ?_⟩
          have hlt := hd.edge i _ ho e he hb
          refine Classical.byContradiction fun hn => ?_
          have := hmin e.on ⟨by omega, hn⟩
          omega
        rw [h0] at this; cases this
      · have hi' := mem_ready.1 hi
        obtain ⟨h0, o, ho, hedge⟩ := hi'
        have hilt := (Array.getElem?_eq_some_iff.1 ho).1
        have hin : ¬ Lstd listed i := (hunl i hilt).1 h0
        have hrd : ∀ o', ops[i]? = some o' → ∀ e ∈ o'.after, Region.binds .any e = true → Lstd listed e.on := fun o' ho' e he hb => by
          rw [ho] at ho'; obtain rfl := Option.some.inj ho'; exact hedge e he hb
        have hik : i < k := by
          refine Classical.byContradiction fun hn => hall fun j hj => ?_
          exact (hd.late i j (by omega) hilt (by omega)).ready hI.closed hrd
        have hlook : LookOK ops L Rs i (o.looksAt ops) a w := by
          intro t ht
          refine ⟨fun j hj hdj => ?_, fun hno s hs => hI.old t s hs fun j hj hdj => ?_⟩
          · have hjl : j < ops.size := by omega
            rcases hd.look j i t o (by omega) ho hdj ht hjl with ⟨_, ha⟩ | ⟨h, _⟩
            · exact hI.res j t (ha.ready hI.closed hrd) hdj
            · omega
          · have hjl : j < ops.size := by
              unfold dstOf at hdj
              cases hoj : ops[j]? with
              | none => rw [hoj] at hdj; cases hdj
              | some oj => exact (Array.getElem?_eq_some_iff.1 hoj).1
            have hne : j ≠ i := fun e => hin (e ▸ hj)
            rcases hd.look j i t o hne ho hdj ht hjl with ⟨h, _⟩ | ⟨_, ha⟩
            · exact hno j h hdj
            · exact hin (ha.listed hI.closed hj)
        obtain ⟨hyes, hnot⟩ := hob i hik o ho a w hI.size hI.ext hlook
        obtain ⟨d, hdst⟩ := hd.dsts i o ho hik
        have hdo : dstOf ops i = some d := by simp [dstOf, ho, hdst]
        have hdn := hd.dstn i o d ho hdst
        have next : ∀ (v : Value) (w' : World), Ext w w' → (Rs i).ok v w' → wpAny P .any ops Q fuel (listed.setIfInBounds i true) (a.put o.dst v) w' := by
          intro v w' hx hv
          have hls : ∀ j, Lstd (listed.setIfInBounds i true) j ↔ j = i ∨ Lstd listed j := fun j => Lstd_set (by rw [hI.len]; exact hilt)
          have hgo : ∀ t, t ≠ d → (a.put o.dst v).tmps.getD t undef = a.tmps.getD t undef := fun t ht => by rw [hdst]; exact getD_put_ne _ _ _ _ ht
          have hgs : (a.put o.dst v).tmps.getD d undef = v := by rw [hdst]; exact getD_put_same _ _ _ (by rw [hI.size]; exact hdn)
          refine ih _ _ _ ⟨by simp [hI.len], by rw [put_size]; exact hI.size, by rw [put_defers]; exact hI.defers, hI.ext.trans hx, ?_, ?_, ?_, ?_⟩ (by have := unl_set (by rw [hI.len]; exact hilt) hilt hin; omega)
          · intro j hj h
            rcases (hls j).1 h with rfl | h
            · omega
            · exact hI.early j hj h
          · intro j o' ho' h e he hb
            refine (hls _).2 ?_
            rcases (hls j).1 h with rfl | h
            · exact .inr (hrd o' ho' e he hb)
            · exact .inr (hI.closed j o' ho' h e he hb)
          · intro j d' h hdj
            rcases (hls j).1 h with rfl | h
            · rw [hdo] at hdj
              obtain rfl := Option.some.inj hdj
              rw [hgs]; exact hv
            · have hjk : j < k := by
                rcases Nat.lt_or_ge j k with h' | h'
                · exact h'
                · exact absurd h (hI.early j h')
              have hne : j ≠ i := fun e => hin (e ▸ h)
              have : d' ≠ d := fun e => hd.uniq j i d' hne hjk hik hdj (e ▸ hdo)
              rw [hgo d' this]
              exact hst j hjk _ _ _ (hI.res j d' h hdj) hx
          · intro t s hs hno
            have h1 : t ≠ d := fun e => hno i ((hls i).2 (.inl rfl)) (e ▸ hdo)
            rw [hgo t h1]
            exact hI.old t s hs fun j hj => hno j ((hls j).2 (.inr hj))
        unfold wpOp
        rw [ho]
        show if _ then _ else _
        split
        · rename_i hw
          exact .inl (wp_of_opw (opw_mono (hyes hw) fun v w' ⟨h1, h2⟩ => next v w' h1 h2))
        · rename_i hw
          exact next undef w (Ext.refl _) (hnot (by simpa using hw))

/-! ### The law, operation by operation -/
abbrev Flx := List (Nat × (Value → World → Prop))
/-- slots that are looked at and whose value is known by a sentence alone -/
def InstF (lk : List Nat) (w : World) (kk : Lst → Prop) : Flx → Lst → Prop
  | [], L => kk L
  | (t, R) :: r, L => bif lk.contains t then ∀ v, R v w → InstF lk w kk r ((t, .v v) :: L) else InstF lk w kk r L
def InstAll (w : World) (kk : Lst → Prop) : Flx → Lst → Prop
  | [], L => kk L
  | (t, R) :: r, L => ∀ v, R v w → InstAll w kk r ((t, .v v) :: L)

/-- one operation -/
def OPd (P : Program) (ops : Array Oper) (o : Oper) (w : World) (R : Sp) (L : Lst) : Prop :=
  match o.guard with
  | none => OP P L o.op o.type w fun s w' => Ext w w' ∧ R.ok s.den w'
  | some (j, want) => ∃ d b, dstOf ops j = some d ∧ lkp d L = some (.v (.bool b)) ∧ (b = want → OP P L o.op o.type w fun s w' => Ext w w' ∧ R.ok s.den w') ∧ (b = !want → R.ok undef w)

def DR (P : Program) (ops : Array Oper) (w0 : World) (fin : Lst → World → Prop) : List Oper → Lst → Flx → Prop
  | [], L, F => ∀ w, Ext w0 w → InstAll w (fun L' => fin L' w) F L
  | o :: r, L, F => ∃ R : Sp, R.stable ∧ (∀ w, Ext w0 w → InstF (o.looksAt ops) w (OPd P ops o w R) F L) ∧
      (match o.dst, R with
        | some d, .rig s => DR P ops w0 fin r ((d, s) :: L) F
        | some d, .flx R => DR P ops w0 fin r L ((d, R) :: F)
        | none, _ => False)

/-- what the lexical state says of a slot -/
def SlotOK (L : Lst) (F : Flx) (t : Nat) (v : Value) (w : World) : Prop :=
  (∀ R, (t, R) ∈ F → R v w) ∧ ((∀ R, (t, R) ∉ F) → ∀ s, lkp t L = some s → v = s.den)

theorem InstF_inst {lk : List Nat} {w : World} {kk : Lst → Prop} (val : Nat → Value) : ∀ (F : Flx) (L : Lst), InstF lk w kk F L → (∀ t R, (t, R) ∈ F → t ∈ lk → R (val t) w) →
    ∃ L', kk L' ∧ ∀ t, t ∈ lk → ((∀ s, lkp t L' = some s → s.den = val t) ∨ ((∀ R, (t, R) ∉ F) ∧ lkp t L' = lkp t L)) := by
  intro F
  induction F with
  | nil => intro L h _; exact ⟨L, h, fun t _ => .inr ⟨fun R => by simp, rfl⟩⟩
  | cons p r ih =>
    intro L h hv
    obtain ⟨t, R⟩ := p
    unfold InstF at h
    cases hc : lk.contains t with
    | true =>
      rw [hc] at h
      have ht : t ∈ lk := by simpa using hc
      obtain ⟨L', hk, hL'⟩ := ih _ (h (val t) (hv t R (by simp) ht)) fun t' R' h1 h2 => hv t' R' (by simp [h1]) h2
      refine ⟨L', hk, fun u hu => ?_⟩
      rcases hL' u hu with h1 | ⟨h1, h2⟩
      · exact .inl h1
      · rw [lkp_cons] at h2
        by_cases e : u = t
        · subst e
          rw [if_pos rfl] at h2
          exact .inl fun s hs => by rw [h2] at hs; obtain rfl := Option.some.inj hs; rfl
        · rw [if_neg e] at h2
          exact .inr ⟨fun R' hm => by rcases List.mem_cons.1 hm with h3 | h3; · cases h3; exact e rfl
                                      · exact h1 R' h3, h2⟩
    | false =>
      rw [hc] at h
      have ht : t ∉ lk := by intro h; rw [show lk.contains t = true from by simpa using h] at hc; cases hc
      obtain ⟨L', hk, hL'⟩ := ih _ h fun t' R' h1 h2 => hv t' R' (by simp [h1]) h2
      refine ⟨L', hk, fun u hu => ?_⟩
      rcases hL' u hu with h1 | ⟨h1, h2⟩
      · exact .inl h1
      · exact .inr ⟨fun R' hm => by rcases List.mem_cons.1 hm with h3 | h3; · cases h3; exact ht hu
                                    · exact h1 R' h3, h2⟩

theorem InstAll_inst {w : World} {kk : Lst → Prop} (val : Nat → Value) : ∀ (F : Flx) (L : Lst), InstAll w kk F L → (∀ t R, (t, R) ∈ F → R (val t) w) →
    ∃ L', kk L' ∧ ∀ t, ((∀ s, lkp t L' = some s → s.den = val t) ∨ ((∀ R, (t, R) ∉ F) ∧ lkp t L' = lkp t L)) := by
  intro F
  induction F with
  | nil => intro L h _; exact ⟨L, h, fun t => .inr ⟨fun R => by simp, rfl⟩⟩
  | cons p r ih =>
    intro L h hv
    obtain ⟨t, R⟩ := p
    obtain ⟨L', hk, hL'⟩ := ih _ (h (val t) (hv t R (by simp))) fun t' R' h1 => hv t' R' (by simp [h1])
    refine ⟨L', hk, fun u => ?_⟩
    rcases hL' u with h1 | ⟨h1, h2⟩
    · exact .inl h1
    · rw [lkp_cons] at h2
      by_cases e : u = t
      · subst e
        rw [if_pos rfl] at h2
        exact .inl fun s hs => by rw [h2] at hs; obtain rfl := Option.some.inj hs; rfl
      · rw [if_neg e] at h2
        exact .inr ⟨fun R' hm => by rcases List.mem_cons.1 hm with h3 | h3; · cases h3; exact e rfl
                                    · exact h1 R' h3, h2⟩

/-- an operation depends on the slots that it looks at alone -/
theorem opw_of_OP {o : Oper} {a : Act} {w : World} {L' : Lst} {K : Value → World → Prop} (hs : ∀ cs b, o.op ≠ .select cs b) (hL : ∀ t, t ∈ o.looksAt ops → ∀ s, lkp t L' = some s → a.tmps.getD t undef = s.den)
    (h : OP P L' o.op o.type w fun s w' => K s.den w') : opw P a.eval o.op o.type w K := by
  let e : Operand → Value := fun x => match x with
    | .tmp t => if t ∈ o.looksAt ops then a.tmps.getD t undef else match lkp t L' with | some s => s.den | none => undef
    | .const v => v
    | .global g => .pointer (some ⟨g, 0, none⟩)
    | .func f => .func (.func f) #[] #[]
  have he : Val e L' := by
    intro x s hx
    cases x with
    | tmp t =>
      have hx' : lkp t L' = some s := hx
      show (if t ∈ o.looksAt ops then a.tmps.getD t undef else match lkp t L' with | some s => s.den | none => undef) = s.den
      split
      · rename_i ht; exact hL t ht s hx'
      · rw [hx']
    | const c => simp only [evo, Option.some.injEq] at hx; subst hx; exact (SV.den_of c).symm
    | global g => simp only [evo, Option.some.injEq] at hx; subst hx; rfl
    | func g => simp only [evo, Option.some.injEq] at hx; subst hx; rfl
  have hop := opw_mono (h e he) (K' := K) fun v w ⟨s, hs, k⟩ => hs ▸ k
  have hcg : execOp e ⟨none, o.op, o.type, "", #[], none⟩ = execOp a.eval ⟨none, o.op, o.type, "", #[], none⟩ := by
    refine execOp_congr ⟨none, o.op, o.type, "", #[], none⟩ hs fun x hx => ?_
    cases x with
    | tmp t =>
      have : t ∈ o.looksAt ops := List.mem_append_left _ (List.mem_filterMap.2 ⟨.tmp t, by simpa using hx, rfl⟩)
      show (if t ∈ o.looksAt ops then a.tmps.getD t undef else _) = a.tmps.getD t undef
      rw [if_pos this]
    | const c => rfl
    | global g => rfl
    | func g => rfl
  unfold opw at hop ⊢
  rw [hcg] at hop
  exact hop

theorem LookOK.congr {L : Lst} {Rs Rs' : Nat → Sp} {j : Nat} {lk : List Nat} {a : Act} {w : World} (h : ∀ i, i < j → Rs' i = Rs i) (hl : LookOK ops L Rs' j lk a w) : LookOK ops L Rs j lk a w :=
  fun t ht => ⟨fun i hi hd => h i hi ▸ (hl t ht).1 i hi hd, (hl t ht).2⟩
theorem OpObl.congr {L : Lst} {Rs Rs' : Nat → Sp} {j : Nat} (h : ∀ i, i ≤ j → Rs' i = Rs i) (ho : OpObl P n ops L w0 Rs j) : OpObl P n ops L w0 Rs' j := by
  intro o hoj a w h1 h2 h3
  rw [h j (Nat.le_refl _)]
  exact ho o hoj a w h1 h2 (h3.congr fun i hi => h i (by omega))

theorem DR_exists (hd : DrawOK n k ops) {L0 : Lst} {fin : Lst → World → Prop} : ∀ (l : List Oper) (j : Nat) (L : Lst) (F : Flx) (Rs : Nat → Sp), j + l.length = k → (∀ i, i < l.length → l[i]? = ops[j + i]?) →
    (∀ t v w, (∀ i, i < j → dstOf ops i = some t → (Rs i).ok v w) → ((∀ i, i < j → dstOf ops i ≠ some t) → ∀ s, lkp t L0 = some s → v = s.den) → SlotOK L F t v w) →
    (∀ t R, (t, R) ∈ F → ∃ i, i < j ∧ dstOf ops i = some t) →
    (∀ i, i < j → (Rs i).stable ∧ OpObl P n ops L0 w0 Rs i) → DR P ops w0 fin l L F →
    ∃ Rs' : Nat → Sp, (∀ i, i < k → (Rs' i).stable ∧ OpObl P n ops L0 w0 Rs' i) ∧
      ∀ (a : Act) (w : World), Ext w0 w → (∀ i d, i < k → dstOf ops i = some d → (Rs' i).ok (a.tmps.getD d undef) w) → (∀ t s, lkp t L0 = some s → (∀ i, i < k → dstOf ops i ≠ some t) → a.tmps.getD t undef = s.den) →
        ∃ L', fin L' w ∧ Agr a L' := by
  intro l
  induction l with
  | nil =>
    intro j L F Rs hj hl hS hF hob h
    simp only [List.length_nil, Nat.add_zero] at hj
    subst hj
    refine ⟨Rs, hob, fun a w hw hres hold => ?_⟩
    have hslot := fun t => hS t (a.tmps.getD t undef) w (fun i hi hdi => hres i t hi hdi) (fun hno s hs => hold t s hs hno)
    obtain ⟨L', hk, hL'⟩ := InstAll_inst (fun t => a.tmps.getD t undef) F L (h w hw) fun t R hm => (hslot t).1 R hm
    refine ⟨L', hk, fun t s hs => ?_⟩
    rcases hL' t with h1 | ⟨h1, h2⟩
    · exact (h1 s hs).symm
    · exact (hslot t).2 h1 s (h2 ▸ hs)
  | cons o r ih =>
    intro j L F Rs hj hl hS hF hob h
    simp only [List.length_cons] at hj
    obtain ⟨R, hR, hop, hrest⟩ := h
    have ho : ops[j]? = some o := by have := hl 0 (by simp); simpa using this.symm
    obtain ⟨d, hdst⟩ := hd.dsts j o ho (by omega)
    have hdo : dstOf ops j = some d := by simp [dstOf, ho, hdst]
    rw [hdst] at hrest
    let Rs' : Nat → Sp := fun i => if i = j then R else Rs i
    have e1 : ∀ i, i < j → Rs' i = Rs i := fun i hi => if_neg (by omega)
    have e2 : Rs' j = R := if_pos rfl
    have hnoF : ∀ R', (d, R') ∉ F := fun R' hm => by
      obtain ⟨i, hi, hdi⟩ := hF d R' hm
      exact hd.uniq i j d (by omega) (by omega) (by omega) hdi hdo
    have hnew : OpObl P n ops L0 w0 Rs' j := by
      intro o' ho' a w hsz hw hlook
      rw [ho] at ho'; obtain rfl := Option.some.inj ho'
      have hlook := hlook.congr (Rs := Rs) e1
      have hslot : ∀ t, t ∈ o.looksAt ops → SlotOK L F t (a.tmps.getD t undef) w := fun t ht => hS t _ w (hlook t ht).1 (hlook t ht).2
      obtain ⟨L', hk, hL'⟩ := InstF_inst (fun t => a.tmps.getD t undef) F L (hop w hw) fun t R' hm ht => (hslot t ht).1 R' hm
      have hval : ∀ t, t ∈ o.looksAt ops → ∀ s, lkp t L' = some s → a.tmps.getD t undef = s.den := fun t ht s hs => by
        rcases hL' t ht with h1 | ⟨h1, h2⟩
        · exact (h1 s hs).symm
        · exact (hslot t ht).2 h1 s (h2 ▸ hs)
      rw [e2]
      unfold OPd at hk
      cases hg : o.guard with
      | none =>
        rw [hg] at hk
        have hw' : Region.wanted o (yielded ops a.tmps) = true := by simp [Region.wanted, hg]
        exact ⟨fun _ => opw_of_OP (hd.sel j o ho) hval hk, fun h => by rw [hw'] at h; cases h⟩
      | some p =>
        obtain ⟨g, want⟩ := p
        rw [hg] at hk
        obtain ⟨d', b, hd', hb, hy, hn⟩ := hk
        have hlk : d' ∈ o.looksAt ops := by
          refine List.mem_append_right _ ?_
          have : (ops[g]?).bind (·.dst) = some d' := hd'
          simp [hg, this]
        have hvb := hval d' hlk _ hb
        have hgl : ∃ og, ops[g]? = some og ∧ og.dst = some d' := by
          have : (ops[g]?).bind (·.dst) = some d' := hd'
          cases hog : ops[g]? with
          | none => rw [hog] at this; cases this
          | some og => exact ⟨og, rfl, by rw [hog] at this; exact this⟩
        obtain ⟨og, hog, hogd⟩ := hgl
        have hdn' := hd.dstn g og d' hog hogd
        have hyield : yielded ops a.tmps g = some b := by
          simp only [yielded, hog, Option.bind_some, hogd]
          rw [Array.getD_eq_getD_getElem?] at hvb
          have hlt : d' < a.tmps.size := by omega
          simp only [hlt, Array.getElem?_eq_getElem, Option.getD_some] at hvb ⊢
          rw [hvb]; rfl
        have hwd : Region.wanted o (yielded ops a.tmps) = (b == want) := by
          simp only [Region.wanted, hg, hyield]
          cases b <;> cases want <;> rfl
        refine ⟨fun h => opw_of_OP (hd.sel j o ho) hval (hy (by rw [hwd] at h; simpa using h)), fun h => hn ?_⟩
        rw [hwd] at h
        cases b <;> cases want <;> simp_all
    have hob' : ∀ i, i < j + 1 → (Rs' i).stable ∧ OpObl P n ops L0 w0 Rs' i := fun i hi => by
      by_cases hij : i = j
      · subst hij; exact ⟨e2 ▸ hR, hnew⟩
      · have := hob i (by omega)
        exact ⟨e1 i (by omega) ▸ this.1, this.2.congr fun i' hi' => e1 i' (by omega)⟩
    have hl' : ∀ i, i < r.length → r[i]? = ops[j + 1 + i]? := fun i hi => by
      have := hl (i + 1) (by simp; omega)
      simp only [List.getElem?_cons_succ] at this
      rw [this]; congr 1; omega
    have hSne : ∀ t v w, t ≠ d → (∀ i, i < j + 1 → dstOf ops i = some t → (Rs' i).ok v w) → ((∀ i, i < j + 1 → dstOf ops i ≠ some t) → ∀ s, lkp t L0 = some s → v = s.den) → SlotOK L F t v w := fun t v w ht h1 h2 =>
      hS t v w (fun i hi hdi => e1 i hi ▸ h1 i (by omega) hdi) (fun hno => h2 fun i hi => by
        by_cases hij : i = j
        · subst hij; rw [hdo]; exact fun e => ht (Option.some.inj e).symm
        · exact hno i (by omega))
    cases R with
    | rig s =>
      refine ih (j + 1) ((d, s) :: L) F Rs' (by omega) hl' ?_ (fun t R' hm => by obtain ⟨i, hi, hdi⟩ := hF t R' hm; exact ⟨i, by omega, hdi⟩) hob' hrest
      intro t v w h1 h2
      by_cases ht : t = d
      · subst ht
        have hv := h1 j (by omega) hdo
        rw [e2] at hv
        refine ⟨fun R' hm => absurd hm (hnoF R'), fun _ s' hs' => ?_⟩
        rw [lkp_cons, if_pos rfl] at hs'
        obtain rfl := Option.some.inj hs'
        exact hv
      · have := hSne t v w ht h1 h2
        exact ⟨this.1, fun hn s' hs' => this.2 hn s' (by rwa [lkp_cons, if_neg ht] at hs')⟩
    | flx R =>
      refine ih (j + 1) L ((d, R) :: F) Rs' (by omega) hl' ?_ (fun t R' hm => by
        rcases List.mem_cons.1 hm with h | h
        · cases h; exact ⟨j, by omega, hdo⟩
        · obtain ⟨i, hi, hdi⟩ := hF t R' h; exact ⟨i, by omega, hdi⟩) hob' hrest
      intro t v w h1 h2
      by_cases ht : t = d
      · subst ht
        have hv := h1 j (by omega) hdo
        rw [e2] at hv
        refine ⟨fun R' hm => ?_, fun hn => absurd (List.mem_cons_self) (hn R)⟩
        rcases List.mem_cons.1 hm with h | h
        · cases h; exact hv
        · exact absurd h (hnoF R')
      · have := hSne t v w ht h1 h2
        exact ⟨fun R' hm => by
          rcases List.mem_cons.1 hm with h | h
          · cases h; exact absurd rfl ht
          · exact this.1 R' h, fun hn => this.2 fun R' hm => hn R' (by simp [hm])⟩

/-- A REGION THAT DRAWS ITS ORDER: the first k operations in any order, the others behind them. -/
theorem FW_draw {id : Nat} {l : List Oper} {Q : Post} {L : Lst} {w : World} (hm : P.follows .mixedOrders = true) (k : Nat) (hd : drawOK n k l.toArray = true)
    (h : DR P l.toArray w (fun L' w' => RL P n l.toArray Q (l.drop k) L' w') (l.take k) L []) : FW P n (.region id l.toArray true) Q L w := by
  intro a h1 h2 h3
  have hdk := drawOK_spec hd
  have hlen : (l.take k).length = k := by have := hdk.hk; simp at this; simp; omega
  obtain ⟨Rs, hob, hfin⟩ := DR_exists (n := n) (w0 := w) hdk (L0 := L) (l.take k) 0 L [] (fun _ => .rig (.v undef)) (by omega) (fun i hi => by rw [List.getElem?_take_of_lt (by omega)]; simp) (fun t v w _ h2 => ⟨(fun R hm => by cases hm), fun _ => h2 fun i hi => by omega⟩)
    (fun t R hm => by cases hm) (fun i hi => by omega) h
  refine wp_region_any hm ?_
  have hI : Inv n k l.toArray L w Rs (Array.replicate l.toArray.size false) a { w with drawn := w.drawn + 1 } := by
    have hno : ∀ j, ¬ Lstd (Array.replicate l.toArray.size false) j := fun j h => by
      unfold Lstd at h
      simp only [Array.getD_eq_getD_getElem?, Array.getElem?_replicate] at h
      split at h <;> simp at h
    exact ⟨by simp, h1, h2, Ext.drew w, fun j _ => hno j, fun j o _ h => absurd h (hno j), fun i d h => absurd h (hno i), fun t s hs _ => h3 t s hs⟩
  have hu : unl (Array.replicate l.toArray.size false) l.toArray.size = l.toArray.size := by
    have := unl_first (listed := Array.replicate l.toArray.size false) (m := 0) l.toArray.size (fun i hi => by
      have hi' : i < l.length := by simpa using hi
      unfold Lstd
      simp [hi'])
    simpa using this
  refine wpAny_draw hdk (fun i hi => (hob i hi).1) (fun j hj => (hob j hj).2) ?_ _ _ a _ hI hu
  intro a' w' h1' h2' hx hres hold
  obtain ⟨L', hL', hA⟩ := hfin a' w' hx hres hold
  have := hL' a' h1' h2' hA
  simpa using this
end
end Go.Eng
