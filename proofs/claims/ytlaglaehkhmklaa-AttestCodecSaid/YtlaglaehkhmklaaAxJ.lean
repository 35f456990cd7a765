/-
  Own text. The abstract machine: regions that draw their order. Each operation is shown right over the slots that it looks at and the resource that it touches; where two operations touch one resource or one slot, the order between them must be forced. Then every order leads to the state that the order of the text leads to. It claims nothing of any program.
-/
import Derived.Test.YtlaglaehkhmklaaAxI
namespace Go.Ax
noncomputable section
open Go Go.RowKit Go.Eng
set_option linter.unusedVariables false

set_option linter.unusedSimpArgs false
theorem lkx_rst {lk : List Nat} {t : Nat} {s : AV} : ∀ {L : LX}, lkx t (rst lk L) = some s → memN t lk = true ∧ lkx t L = some s
  | [], h => by cases h
  | (d, v) :: L, h => by
    simp only [rst] at h
    rw [lkx_cons]
    cases hm : memN d lk with
    | false =>
      rw [hm] at h
      obtain ⟨h1, h2⟩ := lkx_rst (L := L) h
      have : t ≠ d := fun e => by rw [e, hm] at h1; cases h1
      exact ⟨h1, by rw [if_neg this]; exact h2⟩
    | true =>
      rw [hm] at h
      simp only [cond_true] at h
      rw [lkx_cons] at h
      by_cases e : t = d
      · rw [if_pos e] at h ⊢; exact ⟨by rw [e]; exact hm, h⟩
      · rw [if_neg e] at h ⊢; exact lkx_rst (L := L) h
def Obl (P : Program) (I : World → Prop) (ops : Array Oper) (o : Oper) (L : LX) (t : Tr) : Prop := match o.guard with
  | none => OPL P I (rst (o.looksAt ops) L) t.F o.op o.type t.s t.F'
  | some (j, want) => ∃ d v, dstOf ops j = some d ∧ lkx d L = some v ∧ ((v = .b want ∧ OPL P I (rst (o.looksAt ops) L) t.F o.op o.type t.s t.F') ∨ ((v = .b (!want) ∨ v = .tup []) ∧ t.F = [] ∧ t.F' = [] ∧ t.s = .tup []))
abbrev stepH (t : Tr) (H : HX) : HX := stH t H
abbrev stepL (d : Option Nat) (s : AV) (L : LX) : LX := putL d s L
def stepM (t : Tr) (m : Nat) : Nat := m + t.nn
structure StepOK (P : Program) (I : World → Prop) (ops : Array Oper) (o : Oper) (t : Tr) (m : Nat) (L : LX) (H : HX) : Prop where
  obl : Obl P I ops o L t
  pre : ∀ k R, flk k t.F = some R → hlk k H = some R
  new : ∀ k, has k t.F' → has k t.F ∨ (m ≤ k ∧ k < m + t.nn)
  rd : t.rd = true → t.F' = t.F
def DRX (P : Program) (I : World → Prop) (ops : Array Oper) (fin : List Tr → Nat → LX → HX → Prop) : List Oper → List Tr → Nat → LX → HX → Prop
  | [], tr, m, L, H => fin tr m L H
  | o :: r, tr, m, L, H => ∃ t, StepOK P I ops o t m L H ∧ DRX P I ops fin r (tr ++ [t]) (stepM t m) (stepL o.dst t.s L) (stepH t H)

/-! ### The states, read off the list of steps -/
def wr (t : Tr) (k : Nat) : Option (Option Rs) := bif t.rd then none else match flk k t.F' with
  | some R => some (some R)
  | none => (match flk k t.F with | some _ => some none | none => none)
def touches (t : Tr) (k : Nat) : Bool := (flk k t.F).isSome || (flk k t.F').isSome
def lvn (D : Nat → Bool) (ops : Array Oper) (T : List Tr) (t : Nat) (v : Option AV) : Nat → Option AV
  | 0 => v
  | n + 1 => bif D n then (match dstOf ops n, T[n]? with
    | some d, some tr => if d = t then some tr.s else lvn D ops T t v n
    | _, _ => lvn D ops T t v n) else lvn D ops T t v n
def hvn (D : Nat → Bool) (T : List Tr) (k : Nat) (v : Option Rs) : Nat → Option Rs
  | 0 => v
  | n + 1 => bif D n then (match (T[n]?).bind (wr · k) with | some x => x | none => hvn D T k v n) else hvn D T k v n
def mvn (T : List Tr) (m : Nat) : Nat → Nat
  | 0 => m
  | n + 1 => match T[n]? with | some t => stepM t (mvn T m n) | none => mvn T m n

theorem hlk_step (t : Tr) (H : HX) (k : Nat) : hlk k (stepH t H) = match wr t k with | some x => x | none => hlk k H := by
  unfold stepH stH wr
  cases t.rd
  · simp only [cond_false, hlk_put, hlk_del]
    cases flk k t.F' <;> cases flk k t.F <;> rfl
  · rfl
theorem upd_wr (t : Tr) (hk : Nat → Option Rs) (k : Nat) (hr : t.rd = false) : upd t.F t.F' hk k = match wr t k with | some x => x | none => hk k := by
  unfold upd wr
  rw [hr]
  simp only [cond_false]
  cases flk k t.F' <;> cases flk k t.F <;> rfl
theorem wr_touches {t : Tr} {k : Nat} {x : Option Rs} (h : wr t k = some x) : touches t k = true ∧ t.rd = false := by
  unfold wr at h
  cases hr : t.rd with
  | true => rw [hr] at h; cases h
  | false =>
    rw [hr] at h
    simp only [cond_false] at h
    refine ⟨?_, rfl⟩
    unfold touches
    cases h1 : flk k t.F' with
    | some R => simp
    | none => cases h2 : flk k t.F with
      | some R => simp
      | none => rw [h1, h2] at h; cases h
theorem wr_some {t : Tr} {k : Nat} {R : Rs} (h : wr t k = some (some R)) : has k t.F' := by
  unfold wr at h
  cases hr : t.rd with
  | true => rw [hr] at h; cases h
  | false =>
    rw [hr] at h
    simp only [cond_false] at h
    unfold has
    cases h1 : flk k t.F' with
    | some R => rfl
    | none => rw [h1] at h; cases h2 : flk k t.F <;> rw [h2] at h <;> cases h

theorem hvn_congr {D D' : Nat → Bool} {T : List Tr} {k : Nat} {v : Option Rs} : ∀ {n : Nat}, (∀ i, i < n → ∀ t x, T[i]? = some t → wr t k = some x → D i = D' i) → hvn D T k v n = hvn D' T k v n
  | 0, _ => rfl
  | n + 1, h => by
    have ih := hvn_congr (D := D) (D' := D') (T := T) (k := k) (v := v) (n := n) fun i hi => h i (by omega)
    simp only [hvn]
    cases ht : (T[n]?).bind (wr · k) with
    | none => simp only [ih]; cases D n <;> cases D' n <;> rfl
    | some x =>
      obtain ⟨t, h1, h2⟩ := Option.bind_eq_some_iff.1 ht
      rw [h n (by omega) t x h1 h2, ih]
theorem hvn_skip {D : Nat → Bool} {T : List Tr} {k : Nat} {v : Option Rs} {j : Nat} : ∀ {n : Nat}, j ≤ n → (∀ i, j ≤ i → i < n → ∀ t x, T[i]? = some t → wr t k = some x → D i = false) → hvn D T k v n = hvn D T k v j
  | 0, hj, _ => by have : j = 0 := by omega
                   rw [this]
  | n + 1, hj, h => by
    by_cases e : j = n + 1
    · rw [e]
    · rw [← hvn_skip (n := n) (by omega) fun i hi hi' => h i hi (by omega)]
      simp only [hvn]
      cases ht : (T[n]?).bind (wr · k) with
      | none => cases D n <;> rfl
      | some x =>
        obtain ⟨t, h1, h2⟩ := Option.bind_eq_some_iff.1 ht
        rw [h n (by omega) (by omega) t x h1 h2]; rfl
theorem lvn_congr {D D' : Nat → Bool} {ops : Array Oper} {T : List Tr} {t : Nat} {v : Option AV} : ∀ {n : Nat}, (∀ i, i < n → dstOf ops i = some t → D i = D' i) → lvn D ops T t v n = lvn D' ops T t v n
  | 0, _ => rfl
  | n + 1, h => by
    have ih := lvn_congr (D := D) (D' := D') (ops := ops) (T := T) (t := t) (v := v) (n := n) fun i hi => h i (by omega)
    simp only [lvn]
    by_cases e : dstOf ops n = some t
    · rw [h n (by omega) e, ih]
    · rw [ih]
      have : ∀ (b : Bool), (bif b then (match dstOf ops n, T[n]? with | some d, some tr => if d = t then some tr.s else lvn D' ops T t v n | _, _ => lvn D' ops T t v n) else lvn D' ops T t v n) = lvn D' ops T t v n := by
        intro b
        cases b
        · rfl
        · simp only [cond_true]
          split
          · rename_i d tr h1 h2
            rw [if_neg (fun e' => e (by rw [h1, e']))]
          · rfl
      rw [this, this]
theorem lvn_skip {D : Nat → Bool} {ops : Array Oper} {T : List Tr} {t : Nat} {v : Option AV} {j : Nat} : ∀ {n : Nat}, j ≤ n → (∀ i, j ≤ i → i < n → dstOf ops i = some t → D i = false) → lvn D ops T t v n = lvn D ops T t v j
  | 0, hj, _ => by have : j = 0 := by omega
                   rw [this]
  | n + 1, hj, h => by
    by_cases e : j = n + 1
    · rw [e]
    · rw [← lvn_skip (n := n) (by omega) fun i hi hi' => h i hi (by omega)]
      simp only [lvn]
      by_cases e2 : dstOf ops n = some t
      · rw [h n (by omega) (by omega) e2]; rfl
      · cases D n
        · rfl
        · simp only [cond_true]
          split
          · rename_i d tr h1 h2
            rw [if_neg (fun e' => e2 (by rw [h1, e']))]
          · rfl

/-! ### The closed check -/
def keysOf (F : Fp) : List Nat := F.map (·.1)
theorem keys_has {F : Fp} {k : Nat} (h : has k F) : k ∈ keysOf F := by
  induction F with
  | nil => simp [has] at h
  | cons p F ih =>
    obtain ⟨d, v⟩ := p
    unfold has at h
    rw [flk_cons] at h
    by_cases e : k = d
    · simp [keysOf, e]
    · rw [if_neg e] at h; exact List.mem_cons_of_mem _ (ih h)
def confl (ops : Array Oper) (i j : Nat) (ti tj : Tr) : Bool :=
  (match dstOf ops i, ops[j]? with | some d, some o => (o.looksAt ops).contains d | _, _ => false) ||
  (match dstOf ops j, ops[i]? with | some d, some o => (o.looksAt ops).contains d | _, _ => false) ||
  (bif ti.rd && tj.rd then false else (keysOf ti.F ++ keysOf ti.F').any fun k => touches tj k)
def drawChk0 (n : Nat) (ops : Array Oper) (T : List Tr) : Bool :=
  let ms := masks ops.toList []
  (Nat.beq T.length ops.size && allB ops.size fun j => match ops[j]? with
    | none => false
    | some o => o.after.toList.all (fun e => !Region.binds .any e || Nat.blt e.on j) && (match o.dst with | some d => Nat.blt d n | none => true) && (match o.op with | .select .. => false | _ => true)) &&
  allB ops.size fun j => allB j fun i => (match dstOf ops i, dstOf ops j with | some d, some d' => !Nat.beq d d' | _, _ => true) && (match T[i]?, T[j]? with
    | some ti, some tj => !confl ops i j ti tj || ancB ms j i
    | _, _ => false)

structure Chk (n : Nat) (ops : Array Oper) (T : List Tr) : Prop where
  len : T.length = ops.size
  edge : ∀ (j : Nat) (o : Oper), ops[j]? = some o → ∀ e ∈ o.after, Region.binds .any e = true → e.on < j
  dstn : ∀ (j : Nat) (o : Oper) (d : Nat), ops[j]? = some o → o.dst = some d → d < n
  sel : ∀ (j : Nat) (o : Oper), ops[j]? = some o → ∀ cs b, o.op ≠ .select cs b
  uniq : ∀ i j d : Nat, i < j → j < ops.size → dstOf ops i = some d → dstOf ops j ≠ some d
  conf : ∀ (i j : Nat) (ti tj : Tr), i < j → j < ops.size → T[i]? = some ti → T[j]? = some tj → confl ops i j ti tj = true → Anc ops j i
theorem drawChk_spec {n : Nat} {ops : Array Oper} {T : List Tr} (h : drawChk0 n ops T = true) : Chk n ops T := by
  simp only [drawChk0, Bool.and_eq_true] at h
  obtain ⟨⟨hl, h1⟩, h2⟩ := h
  have h1 := allB_spec h1
  have h2 := allB_spec h2
  have hlt : ∀ j (o : Oper), ops[j]? = some o → j < ops.size := fun j o ho => (Array.getElem?_eq_some_iff.1 ho).1
  have edge : ∀ j (o : Oper), ops[j]? = some o → ∀ e ∈ o.after, Region.binds .any e = true → e.on < j := by
    intro j o ho e he hbd
    have := h1 j (hlt j o ho)
    rw [ho] at this
    simp only [Bool.and_eq_true, List.all_eq_true] at this
    have h3 := this.1.1 e (Array.mem_toList_iff.2 he)
    rw [hbd] at h3
    simpa using h3
  have hm : MaskOK ops (masks ops.toList []) := masks_ok ops _ _ (by simp) edge (fun j i hj => by simp at hj)
  have hml : (masks ops.toList []).length = ops.size := by
    have : ∀ (l : List Oper) acc, (masks l acc).length = l.length + acc.length := by
      intro l
      induction l with
      | nil => intro acc; simp [masks]
      | cons o r ih => intro acc; simp [masks, ih]; omega
    rw [this]; simp
  have hanc : ∀ j i, j < ops.size → ancB (masks ops.toList []) j i = true → Anc ops j i := fun j i hj hb => hm j i (by omega) hb
  refine ⟨by simpa using hl, edge, ?_, ?_, ?_, ?_⟩
  · intro j o d ho hd
    have := h1 j (hlt j o ho)
    rw [ho] at this
    simp only [Bool.and_eq_true, hd] at this
    simpa using this.1.2
  · intro j o ho cs b hop
    have := h1 j (hlt j o ho)
    rw [ho] at this
    simp only [Bool.and_eq_true, hop] at this
    exact absurd this.2 (by simp)
  · intro i j d hij hj hdi hdj
    have := allB_spec (h2 j hj) i hij
    simp only [Bool.and_eq_true, hdi, hdj] at this
    simp at this
  · intro i j ti tj hij hj hti htj hc
    have := allB_spec (h2 j hj) i hij
    simp only [Bool.and_eq_true, hti, htj, hc] at this
    exact hanc j i hj (by simpa using this.2)

/-- what DRX says of each step -/
structure Steps (P : Program) (I : World → Prop) (ops : Array Oper) (T : List Tr) (m0 : Nat) (L0 : LX) (H0 : HX) : Prop where
  at' : ∀ (j : Nat) (o : Oper), ops[j]? = some o → ∃ t m L H, T[j]? = some t ∧ StepOK P I ops o t m L H ∧ m = mvn T m0 j ∧ (∀ x, lkx x L = lvn (fun _ => true) ops T x (lkx x L0) j) ∧ (∀ k, hlk k H = hvn (fun _ => true) T k (hlk k H0) j)

theorem lvn_app {D : Nat → Bool} {ops : Array Oper} {T T' : List Tr} {t : Nat} {v : Option AV} : ∀ {n : Nat}, n ≤ T.length → lvn D ops (T ++ T') t v n = lvn D ops T t v n
  | 0, _ => rfl
  | n + 1, h => by simp only [lvn, lvn_app (n := n) (show n ≤ T.length by omega), List.getElem?_append_left (show n < T.length by omega)]
theorem hvn_app {D : Nat → Bool} {T T' : List Tr} {k : Nat} {v : Option Rs} : ∀ {n : Nat}, n ≤ T.length → hvn D (T ++ T') k v n = hvn D T k v n
  | 0, _ => rfl
  | n + 1, h => by simp only [hvn, hvn_app (n := n) (show n ≤ T.length by omega), List.getElem?_append_left (show n < T.length by omega)]
theorem mvn_app {T T' : List Tr} {m : Nat} : ∀ {n : Nat}, n ≤ T.length → mvn (T ++ T') m n = mvn T m n
  | 0, _ => rfl
  | n + 1, h => by simp only [mvn, mvn_app (n := n) (show n ≤ T.length by omega), List.getElem?_append_left (show n < T.length by omega)]

theorem DRX.steps {P : Program} {I : World → Prop} {ops : Array Oper} {fin : List Tr → Nat → LX → HX → Prop} {m0 : Nat} {L0 : LX} {H0 : HX} : ∀ (l : List Oper) (tr : List Tr) (m : Nat) (L : LX) (H : HX), DRX P I ops fin l tr m L H → (∀ i, i < l.length → l[i]? = ops[tr.length + i]?) →
    m = mvn tr m0 tr.length → (∀ x, lkx x L = lvn (fun _ => true) ops tr x (lkx x L0) tr.length) → (∀ k, hlk k H = hvn (fun _ => true) tr k (hlk k H0) tr.length) →
    ∃ T m' L' H', T.length = tr.length + l.length ∧ (∀ i, i < tr.length → T[i]? = tr[i]?) ∧ fin T m' L' H' ∧ m' = mvn T m0 T.length ∧ (∀ x, lkx x L' = lvn (fun _ => true) ops T x (lkx x L0) T.length) ∧ (∀ k, hlk k H' = hvn (fun _ => true) T k (hlk k H0) T.length) ∧
      ∀ (j : Nat) (o : Oper), tr.length ≤ j → j < T.length → ops[j]? = some o → ∃ t m L H, T[j]? = some t ∧ StepOK P I ops o t m L H ∧ m = mvn T m0 j ∧ (∀ x, lkx x L = lvn (fun _ => true) ops T x (lkx x L0) j) ∧ (∀ k, hlk k H = hvn (fun _ => true) T k (hlk k H0) j)
  | [], tr, m, L, H, h, _, hm, hL, hH => ⟨tr, m, L, H, by simp, fun _ _ => rfl, h, hm, hL, hH, fun j o h1 h2 => by omega⟩
  | o :: r, tr, m, L, H, h, hl, hm, hL, hH => by
    obtain ⟨t, hs, hr⟩ := h
    have ho : ops[tr.length]? = some o := by have := hl 0 (by simp); simpa using this.symm
    have hlast : (tr ++ [t])[tr.length]? = some t := by simp
    obtain ⟨T, m', L', H', g1, g2, g3, g4, g5, g6, g7⟩ := DRX.steps (m0 := m0) (L0 := L0) (H0 := H0) r (tr ++ [t]) _ _ _ hr (fun i hi => by
        have := hl (i + 1) (by simp; omega)
        simp only [List.getElem?_cons_succ] at this
        rw [this]; congr 1; simp; omega) (by
        rw [show (tr ++ [t]).length = tr.length + 1 from by simp]
        simp only [mvn, hlast, mvn_app (Nat.le_refl _)]
        rw [hm]) (fun x => by
        rw [show (tr ++ [t]).length = tr.length + 1 from by simp]
        simp only [lvn, hlast, lvn_app (Nat.le_refl _), cond_true, dstOf, ho, Option.bind_some]
        unfold stepL
        cases o.dst with
        | none => exact hL x
        | some d =>
          simp only [putL, lkx_cons]
          by_cases e : x = d
          · rw [if_pos e, if_pos e.symm]
          · rw [if_neg e, if_neg (fun e' => e e'.symm)]; exact hL x) (fun k => by
        rw [show (tr ++ [t]).length = tr.length + 1 from by simp]
        simp only [hvn, hlast, hvn_app (Nat.le_refl _), cond_true, Option.bind_some]
        rw [hlk_step, hH k])
    have hT : ∀ i, i ≤ tr.length → T[i]? = (tr ++ [t])[i]? := fun i hi => g2 i (by simp; omega)
    have hpre : ∃ T2, T = (tr ++ [t]) ++ T2 := ⟨T.drop (tr.length + 1), by
      apply List.ext_getElem?
      intro i
      rcases Nat.lt_or_ge i (tr.length + 1) with hi | hi
      · rw [List.getElem?_append_left (by simp; omega)]; exact hT i (by omega)
      · rw [List.getElem?_append_right (by simp; omega), List.getElem?_drop]; congr 1; simp; omega⟩
    obtain ⟨T2, rfl⟩ := hpre
    refine ⟨_, m', L', H', by rw [g1]; simp; omega, fun i hi => by rw [hT i (by omega), List.getElem?_append_left hi], g3, g4, g5, g6, fun j o' h1 h2 ho' => ?_⟩
    rcases Nat.lt_or_ge j (tr ++ [t]).length with hj | hj
    · have hj' : j = tr.length := by simp at hj; omega
      subst hj'
      rw [ho] at ho'; obtain rfl := Option.some.inj ho'
      have hle : tr.length ≤ (tr ++ [t]).length := by simp
      exact ⟨t, m, L, H, by rw [hT _ (Nat.le_refl _), hlast], hs, by rw [mvn_app hle, mvn_app (Nat.le_refl _)]; exact hm, fun x => by rw [lvn_app hle, lvn_app (Nat.le_refl _)]; exact hL x, fun k => by rw [hvn_app hle, hvn_app (Nat.le_refl _)]; exact hH k⟩
    · exact g7 j o' hj h2 ho'

/-! ### Names -/
section
variable {P : Program} {I : World → Prop} {n : Nat} {g : Gx} {ops : Array Oper} {T : List Tr} {m0 : Nat} {L0 : LX} {H0 : HX}
theorem stepM_le (t : Tr) (m : Nat) : m ≤ stepM t m := Nat.le_add_right _ _
theorem mvn_mono {j : Nat} : ∀ {i : Nat}, j ≤ i → mvn T m0 j ≤ mvn T m0 i
  | 0, h => by have : j = 0 := by omega
               rw [this]; exact Nat.le_refl _
  | i + 1, h => by
    by_cases e : j = i + 1
    · rw [e]; exact Nat.le_refl _
    · refine Nat.le_trans (mvn_mono (i := i) (by omega)) ?_
      simp only [mvn]
      split
      · exact stepM_le _ _
      · exact Nat.le_refl _
theorem Steps.names (St : Steps P I ops T m0 L0 H0) (hT : T.length = ops.size) (h0 : ∀ k R, hlk k H0 = some R → k < m0) : ∀ (j : Nat), j ≤ ops.size → ∀ k R, hvn (fun _ => true) T k (hlk k H0) j = some R → k < mvn T m0 j
  | 0, _, k, R, h => h0 k R h
  | j + 1, hj, k, R, h => by
    obtain ⟨t, m, L, H, h1, h2, h3, h4, h5⟩ := St.at' j ops[j] (Array.getElem?_eq_getElem (by omega))
    simp only [hvn, h1, Option.bind_some, cond_true] at h
    have hle : mvn T m0 j ≤ mvn T m0 (j + 1) := mvn_mono (by omega)
    cases hw : wr t k with
    | none => rw [hw] at h; exact Nat.lt_of_lt_of_le (St.names hT h0 j (by omega) k R h) hle
    | some x =>
      rw [hw] at h
      simp only at h
      subst h
      rcases h2.new k (wr_some hw) with hF | hF
      · obtain ⟨R0, hF⟩ := (has_iff _ _).1 hF
        have := h2.pre k R0 hF
        rw [h5] at this
        exact Nat.lt_of_lt_of_le (St.names hT h0 j (by omega) k R0 this) hle
      · simp only [mvn, h1, stepM]
        omega

def NDr (T : List Tr) (m0 : Nat) (D : Nat → Bool) (k : Nat) : Prop := k < m0 ∨ ∃ i t, D i = true ∧ T[i]? = some t ∧ has k t.F'
structure InvX (P : Program) (I : World → Prop) (n : Nat) (g : Gx) (ops : Array Oper) (T : List Tr) (m0 : Nat) (L0 : LX) (H0 : HX) (listed : Array Bool) (a : Act) (w : World) : Prop where
  len : listed.size = ops.size
  closed : ∀ j (o : Oper), ops[j]? = some o → Lstd listed j → ∀ e ∈ o.after, Region.binds .any e = true → Lstd listed e.on
  sat : ∃ ν, Sat I n g (NDr T m0 (listed.getD · false)) (fun t => lvn (listed.getD · false) ops T t (lkx t L0) ops.size) (fun k => hvn (listed.getD · false) T k (hlk k H0) ops.size) a w ν

theorem wpAny_drx (C : Chk n ops T) (St : Steps P I ops T m0 L0 H0) (h0 : ∀ k R, hlk k H0 = some R → k < m0) {Q : Exit → Act → World → Prop}
    (hfin : ∀ a w ν, Sat I n g (· < mvn T m0 ops.size) (fun t => lvn (fun _ => true) ops T t (lkx t L0) ops.size) (fun k => hvn (fun _ => true) T k (hlk k H0) ops.size) a w ν → Q .normal a w) :
    ∀ (fuel : Nat) (listed : Array Bool) (a : Act) (w : World), InvX P I n g ops T m0 L0 H0 listed a w → unl listed ops.size = fuel → wpAny P .any ops Q fuel listed a w := by
  have hTget : ∀ i, i < ops.size → ∃ t, T[i]? = some t := fun i hi => ⟨T[i]'(by rw [C.len]; exact hi), List.getElem?_eq_getElem _⟩
  have hTlt : ∀ i t, T[i]? = some t → i < ops.size := fun i t h => by rw [← C.len]; exact (List.getElem?_eq_some_iff.1 h).1
  intro fuel
  induction fuel with
  | zero =>
    intro listed a w hI hf
    have hall := unl_zero.1 hf
    have hr : Region.ready .any ops listed = [] := by
      cases hr : Region.ready .any ops listed with
      | nil => rfl
      | cons i r =>
        obtain ⟨h0', o, ho, _⟩ := mem_ready.1 (show i ∈ Region.ready .any ops listed by rw [hr]; simp)
        have hlt := (Array.getElem?_eq_some_iff.1 ho).1
        have : Lstd listed i := hall i hlt
        have hl := hI.len
        unfold Lstd at this
        simp only [Array.getD_eq_getD_getElem?] at this h0'
        rw [Array.getElem?_eq_getElem (by omega)] at this h0'
        simp at this h0'
        rw [this] at h0'; cases h0'
    refine ⟨hr, ?_⟩
    obtain ⟨ν, S⟩ := hI.sat
    refine hfin a w ν ?_
    have e1 : (fun t => lvn (listed.getD · false) ops T t (lkx t L0) ops.size) = fun t => lvn (fun _ => true) ops T t (lkx t L0) ops.size := funext fun t => lvn_congr fun i hi _ => hall i hi
    have e2 : (fun k => hvn (listed.getD · false) T k (hlk k H0) ops.size) = fun k => hvn (fun _ => true) T k (hlk k H0) ops.size := funext fun k => hvn_congr fun i hi _ _ _ _ => hall i hi
    rw [← e1, ← e2]
    refine S.moreN fun k hk => ?_
    rcases hk with h | ⟨i, t, hi, ht, hF'⟩
    · exact Nat.lt_of_lt_of_le h (mvn_mono (j := 0) (Nat.zero_le _))
    · have hilt := hTlt i t ht
      obtain ⟨t', m, L, H, h1, h2, h3, h4, h5⟩ := St.at' i ops[i] (Array.getElem?_eq_getElem hilt)
      rw [ht] at h1; obtain rfl := Option.some.inj h1
      have hle : mvn T m0 (i + 1) ≤ mvn T m0 ops.size := mvn_mono (by omega)
      rcases h2.new k hF' with hF | hF
      · obtain ⟨R0, hF⟩ := (has_iff _ _).1 hF
        have := h2.pre k R0 hF
        rw [h5] at this
        exact Nat.lt_of_lt_of_le (St.names C.len h0 i (by omega) k R0 this) (mvn_mono (by omega))
      · have e : mvn T m0 (i + 1) = stepM t (mvn T m0 i) := by simp only [mvn, ht]
        show k < mvn T m0 ops.size
        have e2 : stepM t (mvn T m0 i) = mvn T m0 i + t.nn := rfl
        omega
  | succ fuel ih =>
    intro listed a w hI hf
    have hunl : ∀ i, i < ops.size → (listed.getD i true = false ↔ ¬ Lstd listed i) := by
      intro i hi
      have := hI.len
      unfold Lstd
      simp only [Array.getD_eq_getD_getElem?]
      rw [Array.getElem?_eq_getElem (by omega)]
      simp
    refine ⟨fun hr0 => ?_, fun j hj => ?_⟩
    · exfalso
      have hex : ∃ i, i < ops.size ∧ ¬ Lstd listed i := by
        rcases Classical.em (∃ i, i < ops.size ∧ ¬ Lstd listed i) with h | h
        · exact h
        · have := unl_zero.2 fun i hi => Classical.byContradiction fun hn => h ⟨i, hi, hn⟩
          omega
      obtain ⟨i, ⟨hik, hin⟩, hmin⟩ := exists_least (p := fun i => i < ops.size ∧ ¬ Lstd listed i) hex
      have ho : ops[i]? = some ops[i] := Array.getElem?_eq_getElem hik
      have : i ∈ Region.ready .any ops listed := by
        rw [mem_ready]
        refine ⟨(hunl i hik).2 hin, _, ho, fun e he hb => ?_⟩
        have hlt := C.edge i _ ho e he hb
        refine Classical.byContradiction fun hn => ?_
        have := hmin e.on ⟨by omega, hn⟩
        omega
      rw [hr0] at this; cases this
    · obtain ⟨h0', o, ho, hedge⟩ := mem_ready.1 hj
      have hjlt := (Array.getElem?_eq_some_iff.1 ho).1
      have hjn : ¬ Lstd listed j := (hunl j hjlt).1 h0'
      have hDj : listed.getD j false = false := by simpa [Lstd] using hjn
      have hrd : ∀ o', ops[j]? = some o' → ∀ e ∈ o'.after, Region.binds .any e = true → Lstd listed e.on := fun o' ho' e he hb => by
        rw [ho] at ho'; obtain rfl := Option.some.inj ho'; exact hedge e he hb
      obtain ⟨t, m, L, H, hTj, hst, hm, hL, hH⟩ := St.at' j o ho
      obtain ⟨ν, S⟩ := hI.sat
      -- what is forced
      have before : ∀ i ti, i < j → T[i]? = some ti → confl ops i j ti t = true → listed.getD i false = true := fun i ti hi hti hc => (C.conf i j ti t hi hjlt hti hTj hc).ready hI.closed hrd
      have after : ∀ i ti, j < i → T[i]? = some ti → confl ops j i t ti = true → listed.getD i false = false := fun i ti hi hti hc => by
        cases hb : listed.getD i false with
        | false => rfl
        | true => exact absurd ((C.conf j i t ti hi (hTlt i ti hti) hTj hti hc).listed hI.closed hb) hjn
      have slotB : ∀ i d, i < j → dstOf ops i = some d → (o.looksAt ops).contains d = true → listed.getD i false = true := fun i d hi hd hc => by
        obtain ⟨ti, hti⟩ := hTget i (by omega)
        exact before i ti hi hti (by simp only [confl, hd, ho]; rw [hc]; rfl)
      have slotA : ∀ i d, j < i → dstOf ops i = some d → (o.looksAt ops).contains d = true → listed.getD i false = false := fun i d hi hd hc => by
        have hilt : i < ops.size := by
          unfold dstOf at hd
          cases hoi : ops[i]? with
          | none => rw [hoi] at hd; cases hd
          | some oi => exact (Array.getElem?_eq_some_iff.1 hoi).1
        obtain ⟨ti, hti⟩ := hTget i hilt
        exact after i ti hi hti (by simp only [confl, hd, ho]; rw [hc]; simp)
      have keyin : ∀ (q : Tr) k, touches q k = true → k ∈ keysOf q.F ++ keysOf q.F' := fun q k h => by
        unfold touches at h
        rw [Bool.or_eq_true] at h
        exact List.mem_append.2 (h.imp keys_has keys_has)
      have cf : ∀ (i1 i2 : Nat) (t1 t2 : Tr) (k : Nat), touches t1 k = true → touches t2 k = true → (t1.rd = false ∨ t2.rd = false) → confl ops i1 i2 t1 t2 = true := fun i1 i2 t1 t2 k h1 h2 h3 => by
        unfold confl
        rw [Bool.or_eq_true]
        refine .inr ?_
        have : (t1.rd && t2.rd) = false := by rcases h3 with h | h <;> simp [h]
        rw [this]
        exact List.any_eq_true.2 ⟨k, keyin t1 k h1, h2⟩
      have resB : ∀ i ti k x, i < j → T[i]? = some ti → wr ti k = some x → touches t k = true → listed.getD i false = true := fun i ti k x hi hti hw hk =>
        before i ti hi hti (cf i j ti t k (wr_touches hw).1 hk (.inl (wr_touches hw).2))
      have resA : ∀ i ti k x, j < i → T[i]? = some ti → wr ti k = some x → touches t k = true → listed.getD i false = false := fun i ti k x hi hti hw hk =>
        after i ti hi hti (cf j i t ti k hk (wr_touches hw).1 (.inr (wr_touches hw).2))
      -- what is looked at
      have hlook : ∀ x s, memN x (o.looksAt ops) = true → lkx x L = some s → Rep ⟨NDr T m0 (listed.getD · false), ν, ownS g.Oa (fun k => hvn (listed.getD · false) T k (hlk k H0) ops.size) ν, w⟩ s (a.tmps.getD x undef) := fun x s hx hs => by
        have hc : (o.looksAt ops).contains x = true := by simpa using memN_iff.1 hx
        refine S.slots x s ?_
        show lvn (listed.getD · false) ops T x (lkx x L0) ops.size = some s
        rw [lvn_skip (j := j) (by omega) (fun i hi _ hd => by
          rcases Nat.lt_or_eq_of_le hi with h | h
          · exact slotA i x h hd hc
          · rw [← h]; exact hDj), lvn_congr (D' := fun _ => true) (fun i hi hd => slotB i x hi hd hc), ← hL]
        exact hs
      have hval : ValX ⟨NDr T m0 (listed.getD · false), ν, ownS g.Oa (fun k => hvn (listed.getD · false) T k (hlk k H0) ops.size) ν, w⟩ (rst (o.looksAt ops) L) a.eval := by
        intro x s hx
        cases x with
        | tmp q => obtain ⟨h1, h2⟩ := lkx_rst hx; exact hlook q s h1 h2
        | const c => simp only [evx, Option.some.injEq] at hx; subst hx; exact AV.of_rep _ c
        | global g => cases hx
        | func g => simp only [evx, Option.some.injEq] at hx; subst hx; simp only [Rep, Reps]; exact ⟨[], [], rfl, rfl, rfl⟩
      have hpre : ∀ k R, flk k t.F = some R → hvn (listed.getD · false) T k (hlk k H0) ops.size = some R := fun k R hF => by
        have htk : touches t k = true := by simp [touches, hF]
        rw [hvn_skip (j := j) (by omega) (fun i hi _ ti x hti hw => by
          rcases Nat.lt_or_eq_of_le hi with h | h
          · exact resA i ti k x h hti hw htk
          · rw [← h]; exact hDj), hvn_congr (D' := fun _ => true) (fun i hi ti x hti hw => resB i ti k x hi hti hw htk), ← hH]
        exact hst.pre k R hF
      have hnew : ∀ k, has k t.F' → has k t.F ∨ ¬ NDr T m0 (listed.getD · false) k := fun k hF' => by
        have htk : touches t k = true := by unfold has at hF'; simp [touches, hF']
        rcases hst.new k hF' with h | h
        · exact .inl h
        · by_cases hF : has k t.F
          · exact .inl hF
          · right
            have hrdj : t.rd = false := by
              cases hr : t.rd with
              | false => rfl
              | true => exact absurd (by rw [← hst.rd hr]; exact hF') hF
            have ej : mvn T m0 (j + 1) = mvn T m0 j + t.nn := by simp only [mvn, hTj, stepM]
            rintro (hlt | ⟨i, ti, hDi, hti, hFi⟩)
            · have : m0 ≤ mvn T m0 j := mvn_mono (j := 0) (Nat.zero_le _)
              omega
            · have hDi : listed.getD i false = true := hDi
              have hij : i ≠ j := fun e => by rw [e, hDj] at hDi; cases hDi
              have htik : touches ti k = true := by unfold has at hFi; simp [touches, hFi]
              have hilt := hTlt i ti hti
              obtain ⟨t', m', L', H', g1, g2, g3, g4, g5⟩ := St.at' i ops[i] (Array.getElem?_eq_getElem hilt)
              rw [hti] at g1; obtain rfl := Option.some.inj g1
              rcases Nat.lt_or_gt_of_ne hij with hlt | hgt
              · rcases g2.new k hFi with hFi2 | hFi2
                · obtain ⟨R0, hq⟩ := (has_iff _ _).1 hFi2
                  have := g2.pre k R0 hq
                  rw [g5] at this
                  have := St.names C.len h0 i (by omega) k R0 this
                  have hmm : mvn T m0 i ≤ mvn T m0 j := mvn_mono (by omega)
                  omega
                · have ei : mvn T m0 (i + 1) = mvn T m0 i + ti.nn := by simp only [mvn, hti, stepM]
                  have hmm : mvn T m0 (i + 1) ≤ mvn T m0 j := mvn_mono (by omega)
                  omega
              · have := after i ti hgt hti (cf j i t ti k htk htik (.inl hrdj))
                rw [this] at hDi; cases hDi
      -- what follows
      have hls : ∀ i, Lstd (listed.setIfInBounds j true) i ↔ i = j ∨ Lstd listed i := fun i => Lstd_set (by rw [hI.len]; exact hjlt)
      have hD' : ∀ i, i ≠ j → (listed.setIfInBounds j true).getD i false = listed.getD i false := fun i hi => getD_set_ne false (fun e => hi e.symm)
      have hD'j : (listed.setIfInBounds j true).getD j false = true := by have := hI.len; simp [show j < listed.size by omega]
      have hlen' : (listed.setIfInBounds j true).size = ops.size := by simp [hI.len]
      have hcl' : ∀ i (o : Oper), ops[i]? = some o → Lstd (listed.setIfInBounds j true) i → ∀ e ∈ o.after, Region.binds .any e = true → Lstd (listed.setIfInBounds j true) e.on := fun i o' ho' h e he hb => (hls _).2 (by
        rcases (hls i).1 h with rfl | h
        · exact .inr (hrd o' ho' e he hb)
        · exact .inr (hI.closed i o' ho' h e he hb))
      have hunl' : unl (listed.setIfInBounds j true) ops.size = fuel := by have := unl_set (by rw [hI.len]; exact hjlt) hjlt hjn; omega
      have hN : ∀ k, NDr T m0 ((listed.setIfInBounds j true).getD · false) k ↔ NDr T m0 (listed.getD · false) k ∨ has k t.F' := fun k => by
        constructor
        · rintro (h | ⟨i, ti, h1, h2, h3⟩)
          · exact .inl (.inl h)
          · by_cases e : i = j
            · subst e
              rw [hTj] at h2; obtain rfl := Option.some.inj h2
              exact .inr h3
            · have h1 : (listed.setIfInBounds j true).getD i false = true := h1
              rw [hD' i e] at h1; exact .inl (.inr ⟨i, ti, h1, h2, h3⟩)
        · rintro ((h | ⟨i, ti, h1, h2, h3⟩) | h)
          · exact .inl h
          · have h1 : listed.getD i false = true := h1
            by_cases e : i = j
            · rw [e, hDj] at h1; cases h1
            · exact .inr ⟨i, ti, by show (listed.setIfInBounds j true).getD i false = true; rw [hD' i e]; exact h1, h2, h3⟩
          · exact .inr ⟨j, t, hD'j, hTj, h⟩
      have hkq : ∀ k, hvn ((listed.setIfInBounds j true).getD · false) T k (hlk k H0) ops.size = upd t.F t.F' (fun k => hvn (listed.getD · false) T k (hlk k H0) ops.size) k := fun k => by
        have same : wr t k = none → hvn ((listed.setIfInBounds j true).getD · false) T k (hlk k H0) ops.size = hvn (listed.getD · false) T k (hlk k H0) ops.size := fun hw => hvn_congr fun i _ ti x hti hwi => by
          by_cases e : i = j
          · rw [e] at hti; rw [hTj] at hti; obtain rfl := Option.some.inj hti; rw [hw] at hwi; cases hwi
          · exact hD' i e
        cases hr : t.rd with
        | true =>
          have hw : wr t k = none := by unfold wr; rw [hr]; rfl
          rw [same hw]
          have hFF := hst.rd hr
          rw [hFF]
          simp only [upd]
          cases hF : flk k t.F with
          | none => rfl
          | some R0 => exact hpre k R0 hF
        | false =>
          rw [upd_wr t _ k hr]
          cases hw : wr t k with
          | none => exact same hw
          | some x =>
            have htk := (wr_touches hw).1
            rw [hvn_skip (j := j + 1) (by omega) (fun i hi _ ti x hti hwi => by
              show (listed.setIfInBounds j true).getD i false = false
              rw [hD' i (by omega)]
              exact resA i ti k x (by omega) hti hwi htk)]
            simp only [hvn, hTj, Option.bind_some, hw, hD'j, cond_true]
      have hlq : ∀ x, lvn ((listed.setIfInBounds j true).getD · false) ops T x (lkx x L0) ops.size = if o.dst = some x then some t.s else lvn (listed.getD · false) ops T x (lkx x L0) ops.size := fun x => by
        have hdj : dstOf ops j = o.dst := by simp [dstOf, ho]
        by_cases e : o.dst = some x
        · rw [if_pos e, lvn_skip (j := j + 1) (by omega) (fun i hi hi2 hd => absurd hd (C.uniq j i x (by omega) hi2 (by rw [hdj]; exact e)))]
          simp only [lvn, hdj, e, hTj, hD'j, cond_true, if_true]
        · rw [if_neg e]
          exact lvn_congr fun i _ hd => by
            by_cases e2 : i = j
            · rw [e2, hdj] at hd; exact absurd hd e
            · exact hD' i e2
      have next : ∀ (v : Value) (w' : World) (ν' : Nat → Value), Ok ⟨NDr T m0 (listed.getD · false), ν, ownS g.Oa (fun k => hvn (listed.getD · false) T k (hlk k H0) ops.size) ν, w⟩ t.F t.F' t.s v w' ν' → wpAny P .any ops Q fuel (listed.setIfInBounds j true) (a.put o.dst v) w' := by
        intro v w' ν' ok
        obtain ⟨S', hr⟩ := S.step (N' := NDr T m0 ((listed.setIfInBounds j true).getD · false)) (hk' := fun k => hvn ((listed.setIfInBounds j true).getD · false) T k (hlk k H0) ops.size) hpre ok hN hkq
        refine ih _ _ _ ⟨hlen', hcl', ν', ?_⟩ hunl'
        cases hd : o.dst with
        | none =>
          have e1 : (fun x => lvn ((listed.setIfInBounds j true).getD · false) ops T x (lkx x L0) ops.size) = fun x => lvn (listed.getD · false) ops T x (lkx x L0) ops.size := funext fun x => by rw [hlq x, hd]; simp
          rw [e1]
          exact S'
        | some d =>
          exact S'.put (C.dstn j o d ho hd) hr fun x => by
            rw [hlq x, hd]
            by_cases e : x = d
            · rw [e]; simp
            · rw [if_neg (fun h => e (Option.some.inj h).symm), if_neg e]
      unfold wpOp
      rw [ho]
      show if _ then _ else _
      have hobl := hst.obl
      unfold Obl at hobl
      cases hg : o.guard with
      | none =>
        rw [hg] at hobl
        rw [if_pos (by simp [Region.wanted, hg])]
        refine .inl (wp_of_opw (opw_mono (hobl _ a.eval (S.good) hval ⟨fun k R hF => ?_, fun k k' R R' b h h' => S.dist k k' R R' b (hpre k R h) (hpre k' R' h'), hnew⟩) ?_))
        · obtain ⟨r0, r1, r2⟩ := S.res k R (hpre k R hF)
          exact ⟨r0, r1, fun b hb => .inr ⟨k, R, hpre k R hF, hb⟩⟩
        · rintro v w' ⟨ν', ok⟩
          exact next v w' ν' ok
      | some p =>
        obtain ⟨gi, want⟩ := p
        rw [hg] at hobl
        obtain ⟨d', vd, hd', hb, hcase⟩ := hobl
        have hlkd : memN d' (o.looksAt ops) = true := by
          refine memN_iff.2 (List.mem_append_right _ ?_)
          have : (ops[gi]?).bind (·.dst) = some d' := hd'
          simp [hg, this]
        have hvb := hlook d' _ hlkd hb
        have hgl : ∃ og, ops[gi]? = some og ∧ og.dst = some d' := by
          have : (ops[gi]?).bind (·.dst) = some d' := hd'
          cases hog : ops[gi]? with
          | none => rw [hog] at this; cases this
          | some og => exact ⟨og, rfl, by rw [hog] at this; exact this⟩
        obtain ⟨og, hog, hogd⟩ := hgl
        have hdn' := C.dstn gi og d' hog hogd
        have hyb : ∀ b, vd = .b b → yielded ops a.tmps gi = some b := by
          rintro b rfl
          simp only [Rep] at hvb
          simp only [yielded, hog, Option.bind_some, hogd]
          rw [Array.getD_eq_getD_getElem?] at hvb
          have hlt : d' < a.tmps.size := by rw [S.size]; exact hdn'
          simp only [hlt, Array.getElem?_eq_getElem, Option.getD_some] at hvb ⊢
          rw [hvb]
        have hyu : vd = .tup [] → yielded ops a.tmps gi = none := by
          rintro rfl
          simp only [Rep, Reps] at hvb
          obtain ⟨us, hvb, rfl⟩ := hvb
          simp only [yielded, hog, Option.bind_some, hogd]
          rw [Array.getD_eq_getD_getElem?] at hvb
          have hlt : d' < a.tmps.size := by rw [S.size]; exact hdn'
          simp only [hlt, Array.getElem?_eq_getElem, Option.getD_some] at hvb ⊢
          rw [hvb]
        rcases hcase with ⟨hv, hy⟩ | ⟨hv, e1, e2, e3⟩
        · rw [if_pos (by simp [Region.wanted, hg, hyb _ hv])]
          refine .inl (wp_of_opw (opw_mono (hy _ a.eval (S.good) hval ⟨fun k R hF => ?_, fun k k' R R' b h h' => S.dist k k' R R' b (hpre k R h) (hpre k' R' h'), hnew⟩) ?_))
          · obtain ⟨r0, r1, r2⟩ := S.res k R (hpre k R hF)
            exact ⟨r0, r1, fun b hb => .inr ⟨k, R, hpre k R hF, hb⟩⟩
          · rintro v w' ⟨ν', ok⟩
            exact next v w' ν' ok
        · rw [if_neg (by
            rcases hv with hv | hv
            · simp only [Region.wanted, hg, hyb _ hv]; cases want <;> simp
            · simp only [Region.wanted, hg, hyu hv]; simp)]
          have := Ok.pure (c := ⟨NDr T m0 (listed.getD · false), ν, ownS g.Oa (fun k => hvn (listed.getD · false) T k (hlk k H0) ops.size) ν, w⟩) (s := .tup []) (v := undef) (w' := w) (by simp only [Rep, Reps]; exact ⟨[], rfl, rfl⟩) (Stp.refl _ _)
          obtain ⟨ν', ok⟩ := this
          exact next undef w ν' (by rw [e1, e2, e3]; exact ok)

/-- A REGION THAT DRAWS ITS ORDER. -/
theorem Wc_draw {Q : PostX} {id : Nat} {l : List Oper} {m : Nat} {L : LX} {H : HX} (hm : P.follows .mixedOrders = true) (h : DRX P I l.toArray (fun tr m' L' H' => drawChk0 n l.toArray tr = true ∧ Q .normal m' L' H') l [] m L H) : Wc P I n g (.region id l.toArray true) Q m L H := by
  intro a w ν S
  obtain ⟨T, m', L', H', g1, g2, ⟨g3, g3'⟩, g4, g5, g6, g7⟩ := h.steps (m0 := m) (L0 := L) (H0 := H) l [] m L H (fun i hi => by simp) rfl (fun x => rfl) (fun k => rfl)
  have C := drawChk_spec g3
  have hTl : T.length = l.toArray.size := by simpa using g1
  have St : Steps P I l.toArray T m L H := ⟨fun j o ho => g7 j o (Nat.zero_le _) (by rw [hTl]; exact (Array.getElem?_eq_some_iff.1 ho).1) ho⟩
  refine wp_region_any hm ?_
  have hno : ∀ j, (Array.replicate l.toArray.size false).getD j false = false := fun j => by
    simp only [Array.getD_eq_getD_getElem?, Array.getElem?_replicate]
    split <;> rfl
  have hu : unl (Array.replicate l.toArray.size false) l.toArray.size = l.toArray.size := by
    have := unl_first (listed := Array.replicate l.toArray.size false) (m := 0) l.toArray.size (fun i hi => by
      unfold Lstd; rw [hno]; simp)
    simpa using this
  have S1 : SatL I n g m L H a { w with drawn := w.drawn + 1 } ν := by
    have hst : Stp No w { w with drawn := w.drawn + 1 } := ⟨rfl, rfl, rfl, Nat.le_refl _, fun _ _ _ => rfl⟩
    have hle : Cx.Le none ⟨(· < m), ν, ownS g.Oa (fun k => hlk k H) ν, w⟩ ⟨(· < m), ν, ownS g.Oa (fun k => hlk k H) ν, { w with drawn := w.drawn + 1 }⟩ := ⟨fun _ _ h => ⟨h, rfl⟩, fun w'' hs => hst.then hs (fun i _ h => h.elim) fun i _ h => h⟩
    refine ⟨S.size, S.defers, S.stp.then hst (fun i _ h => h) (fun i _ h => h.elim), S.amb, fun w' hs => S.inv w' (hle.st w' hs), S.pin, fun t s hs => Rep.le hle s _ (nq_none s) (S.slots t s hs), fun k R hR => ?_, S.dist⟩
    obtain ⟨r0, r1, r2⟩ := S.res k R hR
    exact ⟨r0, Holds.le hle (nqL_none _) rfl (fun b hb => ⟨(r2 b hb).1, rfl⟩) r1, r2⟩
  refine wpAny_drx (g := g) C St (fun k R hk => (S.res k R hk).1) (Q := liftX I n g Q) ?_ _ _ a _ ⟨by simp, (fun j o _ h => by unfold Lstd at h; rw [hno] at h; cases h), ν, ?_⟩ hu
  · intro a' w' ν' S'
    refine ⟨m', L', H', ν', g3', ?_⟩
    have e1 : (fun t => lvn (fun _ => true) l.toArray T t (lkx t L) l.toArray.size) = fun t => lkx t L' := funext fun t => by rw [← hTl]; exact (g5 t).symm
    have e2 : (fun k => hvn (fun _ => true) T k (hlk k H) l.toArray.size) = fun k => hlk k H' := funext fun k => by rw [← hTl]; exact (g6 k).symm
    rw [e1, e2, ← hTl, ← g4] at S'
    exact S'
  · have e1 : (fun t => lvn ((Array.replicate l.toArray.size false).getD · false) l.toArray T t (lkx t L) l.toArray.size) = fun t => lkx t L := funext fun t => lvn_skip (j := 0) (Nat.zero_le _) fun i _ _ _ => hno i
    have e2 : (fun k => hvn ((Array.replicate l.toArray.size false).getD · false) T k (hlk k H) l.toArray.size) = fun k => hlk k H := funext fun k => hvn_skip (j := 0) (Nat.zero_le _) fun i _ _ _ _ _ _ => hno i
    rw [e1, e2]
    exact S1.moreN fun k hk => .inl hk
end

def drawChk : Nat → Array Oper → List Tr → Bool := sealed drawChk0
theorem drawChk_d : drawChk = drawChk0 := sealed_eq _
theorem drw {n : Nat} {ops : Array Oper} {tr : List Tr} (h : drawChk0 n ops tr = true) : drawChk n ops tr = true := by rw [drawChk_d]; exact h

/-! ### What is computed of it -/
def forceX {R : Type} : LX → (LX → R) → R
  | [], K => K []
  | (t, s) :: L, K => force s fun s => forceX L fun L => K ((t, s) :: L)
theorem forceX_eq {R : Type} : ∀ (l : LX) (K : LX → R), forceX l K = K l
  | [], K => rfl
  | (t, s) :: r, K => by simp only [forceX, force_eq, forceX_eq r]
def evDrw {R : Type} (T : TT) (G : FT) (Q : Req → Option Rsp) (ops : List Oper) : List Oper → List Tr → Nat → LX → HX → (List Tr → Nat → LX → HX → Option R) → Option R
  | [], tr, m, L, H, K => K tr m L H
  | o :: r, tr, m, L, H, K => match o.guard with
    | none => forceNs (o.looksAt ops.toArray) fun lk => forceX (rst lk L) fun L' => evAny T G Q (evx L') (fun k => hlk k H) m o.op fun t => stepK o.dst t m L H fun m L H => evDrw T G Q ops r (tr ++ [t]) m L H K
    | some (j, want) => (match (ops[j]?).bind (·.dst) with
      | some d' => (match lkx d' L with
        | some (.b c) => bif c then
            bif want then forceNs (o.looksAt ops.toArray) fun lk => forceX (rst lk L) fun L' => evAny T G Q (evx L') (fun k => hlk k H) m o.op fun t => stepK o.dst t m L H fun m L H => evDrw T G Q ops r (tr ++ [t]) m L H K
            else evDrw T G Q ops r (tr ++ [⟨.tup [], [], [], true, 0⟩]) m (putL o.dst (.tup []) L) H K
          else
            bif want then evDrw T G Q ops r (tr ++ [⟨.tup [], [], [], true, 0⟩]) m (putL o.dst (.tup []) L) H K
            else forceNs (o.looksAt ops.toArray) fun lk => forceX (rst lk L) fun L' => evAny T G Q (evx L') (fun k => hlk k H) m o.op fun t => stepK o.dst t m L H fun m L H => evDrw T G Q ops r (tr ++ [t]) m L H K
        | some (.tup []) => evDrw T G Q ops r (tr ++ [⟨.tup [], [], [], true, 0⟩]) m (putL o.dst (.tup []) L) H K
        | _ => none)
      | none => none)
theorem hm_step {t : Tr} {m : Nat} {H : HX} (hm : ∀ k R, hlk k H = some R → k < m) (hpre : ∀ k R, flk k t.F = some R → hlk k H = some R) (hnew : ∀ k, has k t.F' → has k t.F ∨ (m ≤ k ∧ k < m + t.nn)) (hrd : t.rd = true → t.F' = t.F) : ∀ k R, hlk k (stH t H) = some R → k < m + t.nn := by
  intro k R h
  rw [hlk_stH hpre hrd] at h
  rcases upd_cases h with h | ⟨h, _, _⟩
  · rcases hnew k ((has_iff _ _).2 ⟨R, h⟩) with h1 | h1
    · obtain ⟨R0, h2⟩ := (has_iff _ _).1 h1
      have := hm k R0 (hpre k R0 h2); omega
    · exact h1.2
  · have := hm k R h; omega
section
variable {P : Program} {I : World → Prop} {n : Nat} {g : Gx} {T : TT} {G : FT} {Q : Req → Option Rsp} {α : Type} {r : α}
theorem evDrw_ok (hT : TTok P T) (hG : FTok P G) (hQ : QOK P I Q) {ops : List Oper} {fin : List Tr → Nat → LX → HX → Prop} {K : List Tr → Nat → LX → HX → Option α} (hK : ∀ tr m L H, K tr m L H = some r → fin tr m L H) (l : List Oper) : ∀ (tr : List Tr) (m : Nat) (L : LX) (H : HX), (∀ k R, hlk k H = some R → k < m) → evDrw T G Q ops l tr m L H K = some r → DRX P I ops.toArray fin l tr m L H := by
  induction l with
  | nil => intro tr m L H _ h; exact hK _ _ _ _ h
  | cons o l ih =>
    intro tr m L H hm h
    rw [evDrw] at h
    have run : ∀ lk, lk = o.looksAt ops.toArray → evAny T G Q (evx (rst lk L)) (fun k => hlk k H) m o.op (fun t => stepK o.dst t m L H fun m L H => evDrw T G Q ops l (tr ++ [t]) m L H K) = some r → ∃ t, (OPL P I (rst (o.looksAt ops.toArray) L) t.F o.op o.type t.s t.F') ∧ (∀ k R, flk k t.F = some R → hlk k H = some R) ∧ (∀ k, has k t.F' → has k t.F ∨ (m ≤ k ∧ k < m + t.nn)) ∧ (t.rd = true → t.F' = t.F) ∧ DRX P I ops.toArray fin l (tr ++ [t]) (stepM t m) (stepL o.dst t.s L) (stepH t H) := by
      clear h
      rintro lk rfl h9
      obtain ⟨t, ht, ok⟩ := evAny_ok hT hG hQ hm h9
      rw [stepK_eq] at ht
      exact ⟨t, ok.opl _, ok.pre, ok.new, ok.rd, ih _ _ _ _ (hm_step hm ok.pre ok.new ok.rd) ht⟩
    have skip : evDrw T G Q ops l (tr ++ [⟨.tup [], [], [], true, 0⟩]) m (putL o.dst (.tup []) L) H K = some r → DRX P I ops.toArray fin l (tr ++ [⟨.tup [], [], [], true, 0⟩]) (stepM ⟨.tup [], [], [], true, 0⟩ m) (stepL o.dst (.tup []) L) (stepH ⟨.tup [], [], [], true, 0⟩ H) := fun h => ih _ _ _ _ hm h
    have hnil : ∀ k R, flk k ([] : Fp) = some R → hlk k H = some R := fun k R h => by cases h
    have hnil2 : ∀ k, has k ([] : Fp) → has k ([] : Fp) ∨ (m ≤ k ∧ k < m + 0) := fun k h => absurd h (has_nil k)
    split at h
    · rename_i hg
      rw [forceNs_eq, forceX_eq] at h
      obtain ⟨t, h1, h2, h3, h4, h5⟩ := run _ rfl h
      exact ⟨t, ⟨by unfold Obl; rw [hg]; exact h1, h2, h3, h4⟩, h5⟩
    · rename_i j want hg
      split at h
      · rename_i d' hd'
        have hj : dstOf ops.toArray j = some d' := by simpa [dstOf] using hd'
        split at h
        · rename_i c hc
          have run2 : c = want → evAny T G Q (evx (rst (o.looksAt ops.toArray) L)) (fun k => hlk k H) m o.op (fun t => stepK o.dst t m L H fun m L H => evDrw T G Q ops l (tr ++ [t]) m L H K) = some r → DRX P I ops.toArray fin (o :: l) tr m L H := by
            intro e h9
            obtain ⟨t, h1, h2, h3, h4, h5⟩ := run _ rfl h9
            exact ⟨t, ⟨by unfold Obl; rw [hg]; exact ⟨d', .b c, hj, hc, .inl ⟨by rw [e], h1⟩⟩, h2, h3, h4⟩, h5⟩
          have skip2 : c = !want → evDrw T G Q ops l (tr ++ [⟨.tup [], [], [], true, 0⟩]) m (putL o.dst (.tup []) L) H K = some r → DRX P I ops.toArray fin (o :: l) tr m L H := by
            intro e h9
            exact ⟨⟨.tup [], [], [], true, 0⟩, ⟨by unfold Obl; rw [hg]; exact ⟨d', .b c, hj, hc, .inr ⟨.inl (by rw [e]), rfl, rfl, rfl⟩⟩, hnil, hnil2, fun _ => rfl⟩, skip h9⟩
          cases c with
          | true =>
            cases want with
            | true => simp only [cond_true, forceNs_eq, forceX_eq] at h; exact run2 rfl h
            | false => exact skip2 rfl h
          | false =>
            cases want with
            | true => exact skip2 rfl h
            | false => simp only [cond_false, forceNs_eq, forceX_eq] at h; exact run2 rfl h
        · rename_i hc
          exact ⟨⟨.tup [], [], [], true, 0⟩, ⟨by unfold Obl; rw [hg]; exact ⟨d', .tup [], hj, hc, .inr ⟨.inr rfl, rfl, rfl, rfl⟩⟩, hnil, hnil2, fun _ => rfl⟩, skip h⟩
        · cases h
      · cases h
end
end
end Go.Ax
