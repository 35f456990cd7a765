/-
  Own texts, laid together for this claim: the rules that every walk uses, which claim nothing of any program.
-/
import Derived.Laws.BitsLemmas
import Derived.Test.YtfjcmolccckhhaaGreatDoorMgb
set_option linter.all false

namespace Go.Ax
noncomputable section
open Go Go.RowKit Go.Eng
set_option linter.unusedVariables false
set_option linter.unusedSimpArgs false
theorem lkx_rst {lk : List Nat} {t : Nat} {s : AV} : ∀ {L : LX}, lkx t (rst lk L) = some s → memN t lk = true ∧ lkx t L = some s
  | [], h => by cases h
  | (d, v) :: L, h => by
    simp only [rst] at h
    rw [lkx_cons]
    cases hm : memN d lk with
    | false =>
      rw [hm] at h
      obtain ⟨h1, h2⟩ := lkx_rst (L := L) h
      have : t ≠ d := fun e => by rw [e, hm] at h1; cases h1
      exact ⟨h1, by rw [if_neg this]; exact h2⟩
    | true =>
      rw [hm] at h
      simp only [cond_true] at h
      rw [lkx_cons] at h
      by_cases e : t = d
      · rw [if_pos e] at h ⊢; exact ⟨by rw [e]; exact hm, h⟩
      · rw [if_neg e] at h ⊢; exact lkx_rst (L := L) h
def Obl (P : Program) (I : World → Prop) (ops : Array Oper) (o : Oper) (L : LX) (t : Tr) : Prop := match o.guard with
  | none => OPL P I (rst (o.looksAt ops) L) t.F o.op o.type t.s t.F'
  | some (j, want) => ∃ d v, dstOf ops j = some d ∧ lkx d L = some v ∧ ((v = .b want ∧ OPL P I (rst (o.looksAt ops) L) t.F o.op o.type t.s t.F') ∨ ((v = .b (!want) ∨ v = .tup []) ∧ t.F = [] ∧ t.F' = [] ∧ t.s = .tup []))
abbrev stepH (t : Tr) (H : HX) : HX := stH t H
abbrev stepL (d : Option Nat) (s : AV) (L : LX) : LX := putL d s L
def stepM (t : Tr) (m : Nat) : Nat := m + t.nn
structure StepOK (P : Program) (I : World → Prop) (ops : Array Oper) (o : Oper) (t : Tr) (m : Nat) (L : LX) (H : HX) : Prop where
  obl : Obl P I ops o L t
  pre : ∀ k R, flk k t.F = some R → hlk k H = some R
  new : ∀ k, has k t.F' → has k t.F ∨ (m ≤ k ∧ k < m + t.nn)
  rd : t.rd = true → t.F' = t.F
def DRX (P : Program) (I : World → Prop) (ops : Array Oper) (fin : List Tr → Nat → LX → HX → Prop) : List Oper → List Tr → Nat → LX → HX → Prop
  | [], tr, m, L, H => fin tr m L H
  | o :: r, tr, m, L, H => ∃ t, StepOK P I ops o t m L H ∧ DRX P I ops fin r (tr ++ [t]) (stepM t m) (stepL o.dst t.s L) (stepH t H)
def wr (t : Tr) (k : Nat) : Option (Option Rs) := bif t.rd then none else match flk k t.F' with
  | some R => some (some R)
  | none => (match flk k t.F with | some _ => some none | none => none)
def touches (t : Tr) (k : Nat) : Bool := (flk k t.F).isSome || (flk k t.F').isSome
def lvn (D : Nat → Bool) (ops : Array Oper) (T : List Tr) (t : Nat) (v : Option AV) : Nat → Option AV
  | 0 => v
  | n + 1 => bif D n then (match dstOf ops n, T[n]? with
    | some d, some tr => if d = t then some tr.s else lvn D ops T t v n
    | _, _ => lvn D ops T t v n) else lvn D ops T t v n
def hvn (D : Nat → Bool) (T : List Tr) (k : Nat) (v : Option Rs) : Nat → Option Rs
  | 0 => v
  | n + 1 => bif D n then (match (T[n]?).bind (wr · k) with | some x => x | none => hvn D T k v n) else hvn D T k v n
def mvn (T : List Tr) (m : Nat) : Nat → Nat
  | 0 => m
  | n + 1 => match T[n]? with | some t => stepM t (mvn T m n) | none => mvn T m n
theorem hlk_step (t : Tr) (H : HX) (k : Nat) : hlk k (stepH t H) = match wr t k with | some x => x | none => hlk k H := by
  unfold stepH stH wr
  cases t.rd
  · simp only [cond_false, hlk_put, hlk_del]
    cases flk k t.F' <;> cases flk k t.F <;> rfl
  · rfl
theorem upd_wr (t : Tr) (hk : Nat → Option Rs) (k : Nat) (hr : t.rd = false) : upd t.F t.F' hk k = match wr t k with | some x => x | none => hk k := by
  unfold upd wr
  rw [hr]
  simp only [cond_false]
  cases flk k t.F' <;> cases flk k t.F <;> rfl
theorem wr_touches {t : Tr} {k : Nat} {x : Option Rs} (h : wr t k = some x) : touches t k = true ∧ t.rd = false := by
  unfold wr at h
  cases hr : t.rd with
  | true => rw [hr] at h; cases h
  | false =>
    rw [hr] at h
    simp only [cond_false] at h
    refine ⟨?_, rfl⟩
    unfold touches
    cases h1 : flk k t.F' with
    | some R => simp
    | none => cases h2 : flk k t.F with
      | some R => simp
      | none => rw [h1, h2] at h; cases h
theorem wr_some {t : Tr} {k : Nat} {R : Rs} (h : wr t k = some (some R)) : has k t.F' := by
  unfold wr at h
  cases hr : t.rd with
  | true => rw [hr] at h; cases h
  | false =>
    rw [hr] at h
    simp only [cond_false] at h
    unfold has
    cases h1 : flk k t.F' with
    | some R => rfl
    | none => rw [h1] at h; cases h2 : flk k t.F <;> rw [h2] at h <;> cases h
theorem hvn_congr {D D' : Nat → Bool} {T : List Tr} {k : Nat} {v : Option Rs} : ∀ {n : Nat}, (∀ i, i < n → ∀ t x, T[i]? = some t → wr t k = some x → D i = D' i) → hvn D T k v n = hvn D' T k v n
  | 0, _ => rfl
  | n + 1, h => by
    have ih := hvn_congr (D := D) (D' := D') (T := T) (k := k) (v := v) (n := n) fun i hi => h i (by omega)
    simp only [hvn]
    cases ht : (T[n]?).bind (wr · k) with
    | none => simp only [ih]; cases D n <;> cases D' n <;> rfl
    | some x =>
      obtain ⟨t, h1, h2⟩ := Option.bind_eq_some_iff.1 ht
      rw [h n (by omega) t x h1 h2, ih]
theorem hvn_skip {D : Nat → Bool} {T : List Tr} {k : Nat} {v : Option Rs} {j : Nat} : ∀ {n : Nat}, j ≤ n → (∀ i, j ≤ i → i < n → ∀ t x, T[i]? = some t → wr t k = some x → D i = false) → hvn D T k v n = hvn D T k v j
  | 0, hj, _ => by have : j = 0 := by omega
                   rw [this]
  | n + 1, hj, h => by
    by_cases e : j = n + 1
    · rw [e]
    · rw [← hvn_skip (n := n) (by omega) fun i hi hi' => h i hi (by omega)]
      simp only [hvn]
      cases ht : (T[n]?).bind (wr · k) with
      | none => cases D n <;> rfl
      | some x =>
        obtain ⟨t, h1, h2⟩ := Option.bind_eq_some_iff.1 ht
        rw [h n (by omega) (by omega) t x h1 h2]; rfl
theorem lvn_congr {D D' : Nat → Bool} {ops : Array Oper} {T : List Tr} {t : Nat} {v : Option AV} : ∀ {n : Nat}, (∀ i, i < n → dstOf ops i = some t → D i = D' i) → lvn D ops T t v n = lvn D' ops T t v n
  | 0, _ => rfl
  | n + 1, h => by
    have ih := lvn_congr (D := D) (D' := D') (ops := ops) (T := T) (t := t) (v := v) (n := n) fun i hi => h i (by omega)
    simp only [lvn]
    by_cases e : dstOf ops n = some t
    · rw [h n (by omega) e, ih]
    · rw [ih]
      have : ∀ (b : Bool), (bif b then (match dstOf ops n, T[n]? with | some d, some tr => if d = t then some tr.s else lvn D' ops T t v n | _, _ => lvn D' ops T t v n) else lvn D' ops T t v n) = lvn D' ops T t v n := by
        intro b
        cases b
        · rfl
        · simp only [cond_true]
          split
          · rename_i d tr h1 h2
            rw [if_neg (fun e' => e (by rw [h1, e']))]
          · rfl
      rw [this, this]
theorem lvn_skip {D : Nat → Bool} {ops : Array Oper} {T : List Tr} {t : Nat} {v : Option AV} {j : Nat} : ∀ {n : Nat}, j ≤ n → (∀ i, j ≤ i → i < n → dstOf ops i = some t → D i = false) → lvn D ops T t v n = lvn D ops T t v j
  | 0, hj, _ => by have : j = 0 := by omega
                   rw [this]
  | n + 1, hj, h => by
    by_cases e : j = n + 1
    · rw [e]
    · rw [← lvn_skip (n := n) (by omega) fun i hi hi' => h i hi (by omega)]
      simp only [lvn]
      by_cases e2 : dstOf ops n = some t
      · rw [h n (by omega) (by omega) e2]; rfl
      · cases D n
        · rfl
        · simp only [cond_true]
          split
          · rename_i d tr h1 h2
            rw [if_neg (fun e' => e2 (by rw [h1, e']))]
          · rfl
def keysOf (F : Fp) : List Nat := F.map (·.1)
theorem keys_has {F : Fp} {k : Nat} (h : has k F) : k ∈ keysOf F := by
  induction F with
  | nil => simp [has] at h
  | cons p F ih =>
    obtain ⟨d, v⟩ := p
    unfold has at h
    rw [flk_cons] at h
    by_cases e : k = d
    · simp [keysOf, e]
    · rw [if_neg e] at h; exact List.mem_cons_of_mem _ (ih h)
def confl (ops : Array Oper) (i j : Nat) (ti tj : Tr) : Bool :=
  (match dstOf ops i, ops[j]? with | some d, some o => (o.looksAt ops).contains d | _, _ => false) ||
  (match dstOf ops j, ops[i]? with | some d, some o => (o.looksAt ops).contains d | _, _ => false) ||
  (bif ti.rd && tj.rd then false else (keysOf ti.F ++ keysOf ti.F').any fun k => touches tj k)
def drawChk0 (n : Nat) (ops : Array Oper) (T : List Tr) : Bool :=
  let ms := masks ops.toList []
  (Nat.beq T.length ops.size && allB ops.size fun j => match ops[j]? with
    | none => false
    | some o => o.after.toList.all (fun e => !Region.binds .any e || Nat.blt e.on j) && (match o.dst with | some d => Nat.blt d n | none => true) && (match o.op with | .select .. => false | _ => true)) &&
  allB ops.size fun j => allB j fun i => (match dstOf ops i, dstOf ops j with | some d, some d' => !Nat.beq d d' | _, _ => true) && (match T[i]?, T[j]? with
    | some ti, some tj => !confl ops i j ti tj || ancB ms j i
    | _, _ => false)
structure Chk (n : Nat) (ops : Array Oper) (T : List Tr) : Prop where
  len : T.length = ops.size
  edge : ∀ (j : Nat) (o : Oper), ops[j]? = some o → ∀ e ∈ o.after, Region.binds .any e = true → e.on < j
  dstn : ∀ (j : Nat) (o : Oper) (d : Nat), ops[j]? = some o → o.dst = some d → d < n
  sel : ∀ (j : Nat) (o : Oper), ops[j]? = some o → ∀ cs b, o.op ≠ .select cs b
  uniq : ∀ i j d : Nat, i < j → j < ops.size → dstOf ops i = some d → dstOf ops j ≠ some d
  conf : ∀ (i j : Nat) (ti tj : Tr), i < j → j < ops.size → T[i]? = some ti → T[j]? = some tj → confl ops i j ti tj = true → Anc ops j i
theorem drawChk_spec {n : Nat} {ops : Array Oper} {T : List Tr} (h : drawChk0 n ops T = true) : Chk n ops T := by
  simp only [drawChk0, Bool.and_eq_true] at h
  obtain ⟨⟨hl, h1⟩, h2⟩ := h
  have h1 := allB_spec h1
  have h2 := allB_spec h2
  have hlt : ∀ j (o : Oper), ops[j]? = some o → j < ops.size := fun j o ho => (Array.getElem?_eq_some_iff.1 ho).1
  have edge : ∀ j (o : Oper), ops[j]? = some o → ∀ e ∈ o.after, Region.binds .any e = true → e.on < j := by
    intro j o ho e he hbd
    have := h1 j (hlt j o ho)
    rw [ho] at this
    simp only [Bool.and_eq_true, List.all_eq_true] at this
    have h3 := this.1.1 e (Array.mem_toList_iff.2 he)
    rw [hbd] at h3
    simpa using h3
  have hm : MaskOK ops (masks ops.toList []) := masks_ok ops _ _ (by simp) edge (fun j i hj => by simp at hj)
  have hml : (masks ops.toList []).length = ops.size := by
    have : ∀ (l : List Oper) acc, (masks l acc).length = l.length + acc.length := by
      intro l
      induction l with
      | nil => intro acc; simp [masks]
      | cons o r ih => intro acc; simp [masks, ih]; omega
    rw [this]; simp
  have hanc : ∀ j i, j < ops.size → ancB (masks ops.toList []) j i = true → Anc ops j i := fun j i hj hb => hm j i (by omega) hb
  refine ⟨by simpa using hl, edge, ?_, ?_, ?_, ?_⟩
  · intro j o d ho hd
    have := h1 j (hlt j o ho)
    rw [ho] at this
    simp only [Bool.and_eq_true, hd] at this
    simpa using this.1.2
  · intro j o ho cs b hop
    have := h1 j (hlt j o ho)
    rw [ho] at this
    simp only [Bool.and_eq_true, hop] at this
    exact absurd this.2 (by simp)
  · intro i j d hij hj hdi hdj
    have := allB_spec (h2 j hj) i hij
    simp only [Bool.and_eq_true, hdi, hdj] at this
    simp at this
  · intro i j ti tj hij hj hti htj hc
    have := allB_spec (h2 j hj) i hij
    simp only [Bool.and_eq_true, hti, htj, hc] at this
    exact hanc j i hj (by simpa using this.2)
structure Steps (P : Program) (I : World → Prop) (ops : Array Oper) (T : List Tr) (m0 : Nat) (L0 : LX) (H0 : HX) : Prop where
  at' : ∀ (j : Nat) (o : Oper), ops[j]? = some o → ∃ t m L H, T[j]? = some t ∧ StepOK P I ops o t m L H ∧ m = mvn T m0 j ∧ (∀ x, lkx x L = lvn (fun _ => true) ops T x (lkx x L0) j) ∧ (∀ k, hlk k H = hvn (fun _ => true) T k (hlk k H0) j)
theorem lvn_app {D : Nat → Bool} {ops : Array Oper} {T T' : List Tr} {t : Nat} {v : Option AV} : ∀ {n : Nat}, n ≤ T.length → lvn D ops (T ++ T') t v n = lvn D ops T t v n
  | 0, _ => rfl
  | n + 1, h => by simp only [lvn, lvn_app (n := n) (show n ≤ T.length by omega), List.getElem?_append_left (show n < T.length by omega)]
theorem hvn_app {D : Nat → Bool} {T T' : List Tr} {k : Nat} {v : Option Rs} : ∀ {n : Nat}, n ≤ T.length → hvn D (T ++ T') k v n = hvn D T k v n
  | 0, _ => rfl
  | n + 1, h => by simp only [hvn, hvn_app (n := n) (show n ≤ T.length by omega), List.getElem?_append_left (show n < T.length by omega)]
theorem mvn_app {T T' : List Tr} {m : Nat} : ∀ {n : Nat}, n ≤ T.length → mvn (T ++ T') m n = mvn T m n
  | 0, _ => rfl
  | n + 1, h => by simp only [mvn, mvn_app (n := n) (show n ≤ T.length by omega), List.getElem?_append_left (show n < T.length by omega)]
theorem DRX.steps {P : Program} {I : World → Prop} {ops : Array Oper} {fin : List Tr → Nat → LX → HX → Prop} {m0 : Nat} {L0 : LX} {H0 : HX} : ∀ (l : List Oper) (tr : List Tr) (m : Nat) (L : LX) (H : HX), DRX P I ops fin l tr m L H → (∀ i, i < l.length → l[i]? = ops[tr.length + i]?) →
    m = mvn tr m0 tr.length → (∀ x, lkx x L = lvn (fun _ => true) ops tr x (lkx x L0) tr.length) → (∀ k, hlk k H = hvn (fun _ => true) tr k (hlk k H0) tr.length) →
    ∃ T m' L' H', T.length = tr.length + l.length ∧ (∀ i, i < tr.length → T[i]? = tr[i]?) ∧ fin T m' L' H' ∧ m' = mvn T m0 T.length ∧ (∀ x, lkx x L' = lvn (fun _ => true) ops T x (lkx x L0) T.length) ∧ (∀ k, hlk k H' = hvn (fun _ => true) T k (hlk k H0) T.length) ∧
      ∀ (j : Nat) (o : Oper), tr.length ≤ j → j < T.length → ops[j]? = some o → ∃ t m L H, T[j]? = some t ∧ StepOK P I ops o t m L H ∧ m = mvn T m0 j ∧ (∀ x, lkx x L = lvn (fun _ => true) ops T x (lkx x L0) j) ∧ (∀ k, hlk k H = hvn (fun _ => true) T k (hlk k H0) j)
  | [], tr, m, L, H, h, _, hm, hL, hH => ⟨tr, m, L, H, by simp, fun _ _ => rfl, h, hm, hL, hH, fun j o h1 h2 => by omega⟩
  | o :: r, tr, m, L, H, h, hl, hm, hL, hH => by
    obtain ⟨t, hs, hr⟩ := h
    have ho : ops[tr.length]? = some o := by have := hl 0 (by simp); simpa using this.symm
    have hlast : (tr ++ [t])[tr.length]? = some t := by simp
    obtain ⟨T, m', L', H', g1, g2, g3, g4, g5, g6, g7⟩ := DRX.steps (m0 := m0) (L0 := L0) (H0 := H0) r (tr ++ [t]) _ _ _ hr (fun i hi => by
        have := hl (i + 1) (by simp; omega)
        simp only [List.getElem?_cons_succ] at this
        rw [this]; congr 1; simp; omega) (by
        rw [show (tr ++ [t]).length = tr.length + 1 from by simp]
        simp only [mvn, hlast, mvn_app (Nat.le_refl _)]
        rw [hm]) (fun x => by
        rw [show (tr ++ [t]).length = tr.length + 1 from by simp]
        simp only [lvn, hlast, lvn_app (Nat.le_refl _), cond_true, dstOf, ho, Option.bind_some]
        unfold stepL
        cases o.dst with
        | none => exact hL x
        | some d =>
          simp only [putL, lkx_cons]
          by_cases e : x = d
          · rw [if_pos e, if_pos e.symm]
          · rw [if_neg e, if_neg (fun e' => e e'.symm)]; exact hL x) (fun k => by
        rw [show (tr ++ [t]).length = tr.length + 1 from by simp]
        simp only [hvn, hlast, hvn_app (Nat.le_refl _), cond_true, Option.bind_some]
        rw [hlk_step, hH k])
    have hT : ∀ i, i ≤ tr.length → T[i]? = (tr ++ [t])[i]? := fun i hi => g2 i (by simp; omega)
    have hpre : ∃ T2, T = (tr ++ [t]) ++ T2 := ⟨T.drop (tr.length + 1), by
      apply List.ext_getElem?
      intro i
      rcases Nat.lt_or_ge i (tr.length + 1) with hi | hi
      · rw [List.getElem?_append_left (by simp; omega)]; exact hT i (by omega)
      · rw [List.getElem?_append_right (by simp; omega), List.getElem?_drop]; congr 1; simp; omega⟩
    obtain ⟨T2, rfl⟩ := hpre
    refine ⟨_, m', L', H', by rw [g1]; simp; omega, fun i hi => by rw [hT i (by omega), List.getElem?_append_left hi], g3, g4, g5, g6, fun j o' h1 h2 ho' => ?_⟩
    rcases Nat.lt_or_ge j (tr ++ [t]).length with hj | hj
    · have hj' : j = tr.length := by simp at hj; omega
      subst hj'
      rw [ho] at ho'; obtain rfl := Option.some.inj ho'
      have hle : tr.length ≤ (tr ++ [t]).length := by simp
      exact ⟨t, m, L, H, by rw [hT _ (Nat.le_refl _), hlast], hs, by rw [mvn_app hle, mvn_app (Nat.le_refl _)]; exact hm, fun x => by rw [lvn_app hle, lvn_app (Nat.le_refl _)]; exact hL x, fun k => by rw [hvn_app hle, hvn_app (Nat.le_refl _)]; exact hH k⟩
    · exact g7 j o' hj h2 ho'
section
variable {P : Program} {I : World → Prop} {n : Nat} {g : Gx} {ops : Array Oper} {T : List Tr} {m0 : Nat} {L0 : LX} {H0 : HX}
theorem stepM_le (t : Tr) (m : Nat) : m ≤ stepM t m := Nat.le_add_right _ _
theorem mvn_mono {j : Nat} : ∀ {i : Nat}, j ≤ i → mvn T m0 j ≤ mvn T m0 i
  | 0, h => by have : j = 0 := by omega
               rw [this]; exact Nat.le_refl _
  | i + 1, h => by
    by_cases e : j = i + 1
    · rw [e]; exact Nat.le_refl _
    · refine Nat.le_trans (mvn_mono (i := i) (by omega)) ?_
      simp only [mvn]
      split
      · exact stepM_le _ _
      · exact Nat.le_refl _
theorem Steps.names (St : Steps P I ops T m0 L0 H0) (hT : T.length = ops.size) (h0 : ∀ k R, hlk k H0 = some R → k < m0) : ∀ (j : Nat), j ≤ ops.size → ∀ k R, hvn (fun _ => true) T k (hlk k H0) j = some R → k < mvn T m0 j
  | 0, _, k, R, h => h0 k R h
  | j + 1, hj, k, R, h => by
    obtain ⟨t, m, L, H, h1, h2, h3, h4, h5⟩ := St.at' j ops[j] (Array.getElem?_eq_getElem (by omega))
    simp only [hvn, h1, Option.bind_some, cond_true] at h
    have hle : mvn T m0 j ≤ mvn T m0 (j + 1) := mvn_mono (by omega)
    cases hw : wr t k with
    | none => rw [hw] at h; exact Nat.lt_of_lt_of_le (St.names hT h0 j (by omega) k R h) hle
    | some x =>
      rw [hw] at h
      simp only at h
      subst h
      rcases h2.new k (wr_some hw) with hF | hF
      · obtain ⟨R0, hF⟩ := (has_iff _ _).1 hF
        have := h2.pre k R0 hF
        rw [h5] at this
        exact Nat.lt_of_lt_of_le (St.names hT h0 j (by omega) k R0 this) hle
      · simp only [mvn, h1, stepM]
        omega
def NDr (T : List Tr) (m0 : Nat) (D : Nat → Bool) (k : Nat) : Prop := k < m0 ∨ ∃ i t, D i = true ∧ T[i]? = some t ∧ has k t.F'
structure InvX (P : Program) (I : World → Prop) (n : Nat) (g : Gx) (ops : Array Oper) (T : List Tr) (m0 : Nat) (L0 : LX) (H0 : HX) (listed : Array Bool) (a : Act) (w : World) : Prop where
  len : listed.size = ops.size
  closed : ∀ j (o : Oper), ops[j]? = some o → Lstd listed j → ∀ e ∈ o.after, Region.binds .any e = true → Lstd listed e.on
  sat : ∃ ν, Sat I n g (NDr T m0 (listed.getD · false)) (fun t => lvn (listed.getD · false) ops T t (lkx t L0) ops.size) (fun k => hvn (listed.getD · false) T k (hlk k H0) ops.size) a w ν
theorem wpAny_drx (C : Chk n ops T) (St : Steps P I ops T m0 L0 H0) (h0 : ∀ k R, hlk k H0 = some R → k < m0) {Q : Exit → Act → World → Prop}
    (hfin : ∀ a w ν, Sat I n g (· < mvn T m0 ops.size) (fun t => lvn (fun _ => true) ops T t (lkx t L0) ops.size) (fun k => hvn (fun _ => true) T k (hlk k H0) ops.size) a w ν → Q .normal a w) :
    ∀ (fuel : Nat) (listed : Array Bool) (a : Act) (w : World), InvX P I n g ops T m0 L0 H0 listed a w → unl listed ops.size = fuel → wpAny P .any ops Q fuel listed a w := by
  have hTget : ∀ i, i < ops.size → ∃ t, T[i]? = some t := fun i hi => ⟨T[i]'(by rw [C.len]; exact hi), List.getElem?_eq_getElem _⟩
  have hTlt : ∀ i t, T[i]? = some t → i < ops.size := fun i t h => by rw [← C.len]; exact (List.getElem?_eq_some_iff.1 h).1
  intro fuel
  induction fuel with
  | zero =>
    intro listed a w hI hf
    have hall := unl_zero.1 hf
    have hr : Region.ready .any ops listed = [] := by
      cases hr : Region.ready .any ops listed with
      | nil => rfl
      | cons i r =>
        obtain ⟨h0', o, ho, _⟩ := mem_ready.1 (show i ∈ Region.ready .any ops listed by rw [hr]; simp)
        have hlt := (Array.getElem?_eq_some_iff.1 ho).1
        have : Lstd listed i := hall i hlt
        have hl := hI.len
        unfold Lstd at this
        simp only [Array.getD_eq_getD_getElem?] at this h0'
        rw [Array.getElem?_eq_getElem (by omega)] at this h0'
        simp at this h0'
        rw [this] at h0'; cases h0'
    refine ⟨hr, ?_⟩
    obtain ⟨ν, S⟩ := hI.sat
    refine hfin a w ν ?_
    have e1 : (fun t => lvn (listed.getD · false) ops T t (lkx t L0) ops.size) = fun t => lvn (fun _ => true) ops T t (lkx t L0) ops.size := funext fun t => lvn_congr fun i hi _ => hall i hi
    have e2 : (fun k => hvn (listed.getD · false) T k (hlk k H0) ops.size) = fun k => hvn (fun _ => true) T k (hlk k H0) ops.size := funext fun k => hvn_congr fun i hi _ _ _ _ => hall i hi
    rw [← e1, ← e2]
    refine S.moreN fun k hk => ?_
    rcases hk with h | ⟨i, t, hi, ht, hF'⟩
    · exact Nat.lt_of_lt_of_le h (mvn_mono (j := 0) (Nat.zero_le _))
    · have hilt := hTlt i t ht
      obtain ⟨t', m, L, H, h1, h2, h3, h4, h5⟩ := St.at' i ops[i] (Array.getElem?_eq_getElem hilt)
      rw [ht] at h1; obtain rfl := Option.some.inj h1
      have hle : mvn T m0 (i + 1) ≤ mvn T m0 ops.size := mvn_mono (by omega)
      rcases h2.new k hF' with hF | hF
      · obtain ⟨R0, hF⟩ := (has_iff _ _).1 hF
        have := h2.pre k R0 hF
        rw [h5] at this
        exact Nat.lt_of_lt_of_le (St.names C.len h0 i (by omega) k R0 this) (mvn_mono (by omega))
      · have e : mvn T m0 (i + 1) = stepM t (mvn T m0 i) := by simp only [mvn, ht]
        show k < mvn T m0 ops.size
        have e2 : stepM t (mvn T m0 i) = mvn T m0 i + t.nn := rfl
        omega
  | succ fuel ih =>
    intro listed a w hI hf
    have hunl : ∀ i, i < ops.size → (listed.getD i true = false ↔ ¬ Lstd listed i) := by
      intro i hi
      have := hI.len
      unfold Lstd
      simp only [Array.getD_eq_getD_getElem?]
      rw [Array.getElem?_eq_getElem (by omega)]
      simp
    refine ⟨fun hr0 => ?_, fun j hj => ?_⟩
    · exfalso
      have hex : ∃ i, i < ops.size ∧ ¬ Lstd listed i := by
        rcases Classical.em (∃ i, i < ops.size ∧ ¬ Lstd listed i) with h | h
        · exact h
        · have := unl_zero.2 fun i hi => Classical.byContradiction fun hn => h ⟨i, hi, hn⟩
          omega
      obtain ⟨i, ⟨hik, hin⟩, hmin⟩ := exists_least (p := fun i => i < ops.size ∧ ¬ Lstd listed i) hex
      have ho : ops[i]? = some ops[i] := Array.getElem?_eq_getElem hik
      have : i ∈ Region.ready .any ops listed := by
        rw [mem_ready]
        refine ⟨(hunl i hik).2 hin, _, ho, fun e he hb => ?_⟩
        have hlt := C.edge i _ ho e he hb
        refine Classical.byContradiction fun hn => ?_
        have := hmin e.on ⟨by omega, hn⟩
        omega
      rw [hr0] at this; cases this
    · obtain ⟨h0', o, ho, hedge⟩ := mem_ready.1 hj
      have hjlt := (Array.getElem?_eq_some_iff.1 ho).1
      have hjn : ¬ Lstd listed j := (hunl j hjlt).1 h0'
      have hDj : listed.getD j false = false := by simpa [Lstd] using hjn
      have hrd : ∀ o', ops[j]? = some o' → ∀ e ∈ o'.after, Region.binds .any e = true → Lstd listed e.on := fun o' ho' e he hb => by
        rw [ho] at ho'; obtain rfl := Option.some.inj ho'; exact hedge e he hb
      obtain ⟨t, m, L, H, hTj, hst, hm, hL, hH⟩ := St.at' j o ho
      obtain ⟨ν, S⟩ := hI.sat
      -- what is forced
      have before : ∀ i ti, i < j → T[i]? = some ti → confl ops i j ti t = true → listed.getD i false = true := fun i ti hi hti hc => (C.conf i j ti t hi hjlt hti hTj hc).ready hI.closed hrd
      have after : ∀ i ti, j < i → T[i]? = some ti → confl ops j i t ti = true → listed.getD i false = false := fun i ti hi hti hc => by
        cases hb : listed.getD i false with
        | false => rfl
        | true => exact absurd ((C.conf j i t ti hi (hTlt i ti hti) hTj hti hc).listed hI.closed hb) hjn
      have slotB : ∀ i d, i < j → dstOf ops i = some d → (o.looksAt ops).contains d = true → listed.getD i false = true := fun i d hi hd hc => by
        obtain ⟨ti, hti⟩ := hTget i (by omega)
        exact before i ti hi hti (by simp only [confl, hd, ho]; rw [hc]; rfl)
      have slotA : ∀ i d, j < i → dstOf ops i = some d → (o.looksAt ops).contains d = true → listed.getD i false = false := fun i d hi hd hc => by
        have hilt : i < ops.size := by
          unfold dstOf at hd
          cases hoi : ops[i]? with
          | none => rw [hoi] at hd; cases hd
          | some oi => exact (Array.getElem?_eq_some_iff.1 hoi).1
        obtain ⟨ti, hti⟩ := hTget i hilt
        exact after i ti hi hti (by simp only [confl, hd, ho]; rw [hc]; simp)
      have keyin : ∀ (q : Tr) k, touches q k = true → k ∈ keysOf q.F ++ keysOf q.F' := fun q k h => by
        unfold touches at h
        rw [Bool.or_eq_true] at h
        exact List.mem_append.2 (h.imp keys_has keys_has)
      have cf : ∀ (i1 i2 : Nat) (t1 t2 : Tr) (k : Nat), touches t1 k = true → touches t2 k = true → (t1.rd = false ∨ t2.rd = false) → confl ops i1 i2 t1 t2 = true := fun i1 i2 t1 t2 k h1 h2 h3 => by
        unfold confl
        rw [Bool.or_eq_true]
        refine .inr ?_
        have : (t1.rd && t2.rd) = false := by rcases h3 with h | h <;> simp [h]
        rw [this]
        exact List.any_eq_true.2 ⟨k, keyin t1 k h1, h2⟩
      have resB : ∀ i ti k x, i < j → T[i]? = some ti → wr ti k = some x → touches t k = true → listed.getD i false = true := fun i ti k x hi hti hw hk =>
        before i ti hi hti (cf i j ti t k (wr_touches hw).1 hk (.inl (wr_touches hw).2))
      have resA : ∀ i ti k x, j < i → T[i]? = some ti → wr ti k = some x → touches t k = true → listed.getD i false = false := fun i ti k x hi hti hw hk =>
        after i ti hi hti (cf j i t ti k hk (wr_touches hw).1 (.inr (wr_touches hw).2))
      -- what is looked at
      have hlook : ∀ x s, memN x (o.looksAt ops) = true → lkx x L = some s → Rep ⟨NDr T m0 (listed.getD · false), ν, ownS g.Oa (fun k => hvn (listed.getD · false) T k (hlk k H0) ops.size) ν, w⟩ s (a.tmps.getD x undef) := fun x s hx hs => by
        have hc : (o.looksAt ops).contains x = true := by simpa using memN_iff.1 hx
        refine S.slots x s ?_
        show lvn (listed.getD · false) ops T x (lkx x L0) ops.size = some s
        rw [lvn_skip (j := j) (by omega) (fun i hi _ hd => by
          rcases Nat.lt_or_eq_of_le hi with h | h
          · exact slotA i x h hd hc
          · rw [← h]; exact hDj), lvn_congr (D' := fun _ => true) (fun i hi hd => slotB i x hi hd hc), ← hL]
        exact hs
      have hval : ValX ⟨NDr T m0 (listed.getD · false), ν, ownS g.Oa (fun k => hvn (listed.getD · false) T k (hlk k H0) ops.size) ν, w⟩ (rst (o.looksAt ops) L) a.eval := by
        intro x s hx
        cases x with
        | tmp q => obtain ⟨h1, h2⟩ := lkx_rst hx; exact hlook q s h1 h2
        | const c => simp only [evx, Option.some.injEq] at hx; subst hx; exact AV.of_rep _ c
        | global g => cases hx
        | func g => simp only [evx, Option.some.injEq] at hx; subst hx; simp only [Rep, Reps]; exact ⟨[], [], rfl, rfl, rfl⟩
      have hpre : ∀ k R, flk k t.F = some R → hvn (listed.getD · false) T k (hlk k H0) ops.size = some R := fun k R hF => by
        have htk : touches t k = true := by simp [touches, hF]
        rw [hvn_skip (j := j) (by omega) (fun i hi _ ti x hti hw => by
          rcases Nat.lt_or_eq_of_le hi with h | h
          · exact resA i ti k x h hti hw htk
          · rw [← h]; exact hDj), hvn_congr (D' := fun _ => true) (fun i hi ti x hti hw => resB i ti k x hi hti hw htk), ← hH]
        exact hst.pre k R hF
      have hnew : ∀ k, has k t.F' → has k t.F ∨ ¬ NDr T m0 (listed.getD · false) k := fun k hF' => by
        have htk : touches t k = true := by unfold has at hF'; simp [touches, hF']
        rcases hst.new k hF' with h | h
        · exact .inl h
        · by_cases hF : has k t.F
          · exact .inl hF
          · right
            have hrdj : t.rd = false := by
              cases hr : t.rd with
              | false => rfl
              | true => exact absurd (by rw [← hst.rd hr]; exact hF') hF
            have ej : mvn T m0 (j + 1) = mvn T m0 j + t.nn := by simp only [mvn, hTj, stepM]
            rintro (hlt | ⟨i, ti, hDi, hti, hFi⟩)
            · have : m0 ≤ mvn T m0 j := mvn_mono (j := 0) (Nat.zero_le _)
              omega
            · have hDi : listed.getD i false = true := hDi
              have hij : i ≠ j := fun e => by rw [e, hDj] at hDi; cases hDi
              have htik : touches ti k = true := by unfold has at hFi; simp [touches, hFi]
              have hilt := hTlt i ti hti
              obtain ⟨t', m', L', H', g1, g2, g3, g4, g5⟩ := St.at' i ops[i] (Array.getElem?_eq_getElem hilt)
              rw [hti] at g1; obtain rfl := Option.some.inj g1
              rcases Nat.lt_or_gt_of_ne hij with hlt | hgt
              · rcases g2.new k hFi with hFi2 | hFi2
                · obtain ⟨R0, hq⟩ := (has_iff _ _).1 hFi2
                  have := g2.pre k R0 hq
                  rw [g5] at this
                  have := St.names C.len h0 i (by omega) k R0 this
                  have hmm : mvn T m0 i ≤ mvn T m0 j := mvn_mono (by omega)
                  omega
                · have ei : mvn T m0 (i + 1) = mvn T m0 i + ti.nn := by simp only [mvn, hti, stepM]
                  have hmm : mvn T m0 (i + 1) ≤ mvn T m0 j := mvn_mono (by omega)
                  omega
              · have := after i ti hgt hti (cf j i t ti k htk htik (.inl hrdj))
                rw [this] at hDi; cases hDi
      -- what follows
      have hls : ∀ i, Lstd (listed.setIfInBounds j true) i ↔ i = j ∨ Lstd listed i := fun i => Lstd_set (by rw [hI.len]; exact hjlt)
      have hD' : ∀ i, i ≠ j → (listed.setIfInBounds j true).getD i false = listed.getD i false := fun i hi => getD_set_ne false (fun e => hi e.symm)
      have hD'j : (listed.setIfInBounds j true).getD j false = true := by have := hI.len; simp [show j < listed.size by omega]
      have hlen' : (listed.setIfInBounds j true).size = ops.size := by simp [hI.len]
      have hcl' : ∀ i (o : Oper), ops[i]? = some o → Lstd (listed.setIfInBounds j true) i → ∀ e ∈ o.after, Region.binds .any e = true → Lstd (listed.setIfInBounds j true) e.on := fun i o' ho' h e he hb => (hls _).2 (by
        rcases (hls i).1 h with rfl | h
        · exact .inr (hrd o' ho' e he hb)
        · exact .inr (hI.closed i o' ho' h e he hb))
      have hunl' : unl (listed.setIfInBounds j true) ops.size = fuel := by have := unl_set (by rw [hI.len]; exact hjlt) hjlt hjn; omega
      have hN : ∀ k, NDr T m0 ((listed.setIfInBounds j true).getD · false) k ↔ NDr T m0 (listed.getD · false) k ∨ has k t.F' := fun k => by
        constructor
        · rintro (h | ⟨i, ti, h1, h2, h3⟩)
          · exact .inl (.inl h)
          · by_cases e : i = j
            · subst e
              rw [hTj] at h2; obtain rfl := Option.some.inj h2
              exact .inr h3
            · have h1 : (listed.setIfInBounds j true).getD i false = true := h1
              rw [hD' i e] at h1; exact .inl (.inr ⟨i, ti, h1, h2, h3⟩)
        · rintro ((h | ⟨i, ti, h1, h2, h3⟩) | h)
          · exact .inl h
          · have h1 : listed.getD i false = true := h1
            by_cases e : i = j
            · rw [e, hDj] at h1; cases h1
            · exact .inr ⟨i, ti, by show (listed.setIfInBounds j true).getD i false = true; rw [hD' i e]; exact h1, h2, h3⟩
          · exact .inr ⟨j, t, hD'j, hTj, h⟩
      have hkq : ∀ k, hvn ((listed.setIfInBounds j true).getD · false) T k (hlk k H0) ops.size = upd t.F t.F' (fun k => hvn (listed.getD · false) T k (hlk k H0) ops.size) k := fun k => by
        have same : wr t k = none → hvn ((listed.setIfInBounds j true).getD · false) T k (hlk k H0) ops.size = hvn (listed.getD · false) T k (hlk k H0) ops.size := fun hw => hvn_congr fun i _ ti x hti hwi => by
          by_cases e : i = j
          · rw [e] at hti; rw [hTj] at hti; obtain rfl := Option.some.inj hti; rw [hw] at hwi; cases hwi
          · exact hD' i e
        cases hr : t.rd with
        | true =>
          have hw : wr t k = none := by unfold wr; rw [hr]; rfl
          rw [same hw]
          have hFF := hst.rd hr
          rw [hFF]
          simp only [upd]
          cases hF : flk k t.F with
          | none => rfl
          | some R0 => exact hpre k R0 hF
        | false =>
          rw [upd_wr t _ k hr]
          cases hw : wr t k with
          | none => exact same hw
          | some x =>
            have htk := (wr_touches hw).1
            rw [hvn_skip (j := j + 1) (by omega) (fun i hi _ ti x hti hwi => by
              show (listed.setIfInBounds j true).getD i false = false
              rw [hD' i (by omega)]
              exact resA i ti k x (by omega) hti hwi htk)]
            simp only [hvn, hTj, Option.bind_some, hw, hD'j, cond_true]
      have hlq : ∀ x, lvn ((listed.setIfInBounds j true).getD · false) ops T x (lkx x L0) ops.size = if o.dst = some x then some t.s else lvn (listed.getD · false) ops T x (lkx x L0) ops.size := fun x => by
        have hdj : dstOf ops j = o.dst := by simp [dstOf, ho]
        by_cases e : o.dst = some x
        · rw [if_pos e, lvn_skip (j := j + 1) (by omega) (fun i hi hi2 hd => absurd hd (C.uniq j i x (by omega) hi2 (by rw [hdj]; exact e)))]
          simp only [lvn, hdj, e, hTj, hD'j, cond_true, if_true]
        · rw [if_neg e]
          exact lvn_congr fun i _ hd => by
            by_cases e2 : i = j
            · rw [e2, hdj] at hd; exact absurd hd e
            · exact hD' i e2
      have next : ∀ (v : Value) (w' : World) (ν' : Nat → Value), Ok ⟨NDr T m0 (listed.getD · false), ν, ownS g.Oa (fun k => hvn (listed.getD · false) T k (hlk k H0) ops.size) ν, w⟩ t.F t.F' t.s v w' ν' → wpAny P .any ops Q fuel (listed.setIfInBounds j true) (a.put o.dst v) w' := by
        intro v w' ν' ok
        obtain ⟨S', hr⟩ := S.step (N' := NDr T m0 ((listed.setIfInBounds j true).getD · false)) (hk' := fun k => hvn ((listed.setIfInBounds j true).getD · false) T k (hlk k H0) ops.size) hpre ok hN hkq
        refine ih _ _ _ ⟨hlen', hcl', ν', ?_⟩ hunl'
        cases hd : o.dst with
        | none =>
          have e1 : (fun x => lvn ((listed.setIfInBounds j true).getD · false) ops T x (lkx x L0) ops.size) = fun x => lvn (listed.getD · false) ops T x (lkx x L0) ops.size := funext fun x => by rw [hlq x, hd]; simp
          rw [e1]
          exact S'
        | some d =>
          exact S'.put (C.dstn j o d ho hd) hr fun x => by
            rw [hlq x, hd]
            by_cases e : x = d
            · rw [e]; simp
            · rw [if_neg (fun h => e (Option.some.inj h).symm), if_neg e]
      unfold wpOp
      rw [ho]
      show if _ then _ else _
      have hobl := hst.obl
      unfold Obl at hobl
      cases hg : o.guard with
      | none =>
        rw [hg] at hobl
        rw [if_pos (by simp [Region.wanted, hg])]
        refine .inl (wp_of_opw (opw_mono (hobl _ a.eval (S.good) hval ⟨fun k R hF => ?_, fun k k' R R' b h h' => S.dist k k' R R' b (hpre k R h) (hpre k' R' h'), hnew⟩) ?_))
        · obtain ⟨r0, r1, r2⟩ := S.res k R (hpre k R hF)
          exact ⟨r0, r1, fun b hb => .inr ⟨k, R, hpre k R hF, hb⟩⟩
        · rintro v w' ⟨ν', ok⟩
          exact next v w' ν' ok
      | some p =>
        obtain ⟨gi, want⟩ := p
        rw [hg] at hobl
        obtain ⟨d', vd, hd', hb, hcase⟩ := hobl
        have hlkd : memN d' (o.looksAt ops) = true := by
          refine memN_iff.2 (List.mem_append_right _ ?_)
          have : (ops[gi]?).bind (·.dst) = some d' := hd'
          simp [hg, this]
        have hvb := hlook d' _ hlkd hb
        have hgl : ∃ og, ops[gi]? = some og ∧ og.dst = some d' := by
          have : (ops[gi]?).bind (·.dst) = some d' := hd'
          cases hog : ops[gi]? with
          | none => rw [hog] at this; cases this
          | some og => exact ⟨og, rfl, by rw [hog] at this; exact this⟩
        obtain ⟨og, hog, hogd⟩ := hgl
        have hdn' := C.dstn gi og d' hog hogd
        have hyb : ∀ b, vd = .b b → yielded ops a.tmps gi = some b := by
          rintro b rfl
          simp only [Rep] at hvb
          simp only [yielded, hog, Option.bind_some, hogd]
          rw [Array.getD_eq_getD_getElem?] at hvb
          have hlt : d' < a.tmps.size := by rw [S.size]; exact hdn'
          simp only [hlt, Array.getElem?_eq_getElem, Option.getD_some] at hvb ⊢
          rw [hvb]
        have hyu : vd = .tup [] → yielded ops a.tmps gi = none := by
          rintro rfl
          simp only [Rep, Reps] at hvb
          obtain ⟨us, hvb, rfl⟩ := hvb
          simp only [yielded, hog, Option.bind_some, hogd]
          rw [Array.getD_eq_getD_getElem?] at hvb
          have hlt : d' < a.tmps.size := by rw [S.size]; exact hdn'
          simp only [hlt, Array.getElem?_eq_getElem, Option.getD_some] at hvb ⊢
          rw [hvb]
        rcases hcase with ⟨hv, hy⟩ | ⟨hv, e1, e2, e3⟩
        · rw [if_pos (by simp [Region.wanted, hg, hyb _ hv])]
          refine .inl (wp_of_opw (opw_mono (hy _ a.eval (S.good) hval ⟨fun k R hF => ?_, fun k k' R R' b h h' => S.dist k k' R R' b (hpre k R h) (hpre k' R' h'), hnew⟩) ?_))
          · obtain ⟨r0, r1, r2⟩ := S.res k R (hpre k R hF)
            exact ⟨r0, r1, fun b hb => .inr ⟨k, R, hpre k R hF, hb⟩⟩
          · rintro v w' ⟨ν', ok⟩
            exact next v w' ν' ok
        · rw [if_neg (by
            rcases hv with hv | hv
            · simp only [Region.wanted, hg, hyb _ hv]; cases want <;> simp
            · simp only [Region.wanted, hg, hyu hv]; simp)]
          have := Ok.pure (c := ⟨NDr T m0 (listed.getD · false), ν, ownS g.Oa (fun k => hvn (listed.getD · false) T k (hlk k H0) ops.size) ν, w⟩) (s := .tup []) (v := undef) (w' := w) (by simp only [Rep, Reps]; exact ⟨[], rfl, rfl⟩) (Stp.refl _ _)
          obtain ⟨ν', ok⟩ := this
          exact next undef w ν' (by rw [e1, e2, e3]; exact ok)
theorem Wc_draw {Q : PostX} {id : Nat} {l : List Oper} {m : Nat} {L : LX} {H : HX} (hm : P.follows .mixedOrders = true) (h : DRX P I l.toArray (fun tr m' L' H' => drawChk0 n l.toArray tr = true ∧ Q .normal m' L' H') l [] m L H) : Wc P I n g (.region id l.toArray true) Q m L H := by
  intro a w ν S
  obtain ⟨T, m', L', H', g1, g2, ⟨g3, g3'⟩, g4, g5, g6, g7⟩ := h.steps (m0 := m) (L0 := L) (H0 := H) l [] m L H (fun i hi => by simp) rfl (fun x => rfl) (fun k => rfl)
  have C := drawChk_spec g3
  have hTl : T.length = l.toArray.size := by simpa using g1
  have St : Steps P I l.toArray T m L H := ⟨fun j o ho => g7 j o (Nat.zero_le _) (by rw [hTl]; exact (Array.getElem?_eq_some_iff.1 ho).1) ho⟩
  refine wp_region_any hm ?_
  have hno : ∀ j, (Array.replicate l.toArray.size false).getD j false = false := fun j => by
    simp only [Array.getD_eq_getD_getElem?, Array.getElem?_replicate]
    split <;> rfl
  have hu : unl (Array.replicate l.toArray.size false) l.toArray.size = l.toArray.size := by
    have := unl_first (listed := Array.replicate l.toArray.size false) (m := 0) l.toArray.size (fun i hi => by
      unfold Lstd; rw [hno]; simp)
    simpa using this
  have S1 : SatL I n g m L H a { w with drawn := w.drawn + 1 } ν := by
    have hst : Stp No w { w with drawn := w.drawn + 1 } := ⟨rfl, rfl, rfl, Nat.le_refl _, fun _ _ _ => rfl⟩
    have hle : Cx.Le none ⟨(· < m), ν, ownS g.Oa (fun k => hlk k H) ν, w⟩ ⟨(· < m), ν, ownS g.Oa (fun k => hlk k H) ν, { w with drawn := w.drawn + 1 }⟩ := ⟨fun _ _ h => ⟨h, rfl⟩, fun w'' hs => hst.then hs (fun i _ h => h.elim) fun i _ h => h⟩
    refine ⟨S.size, S.defers, S.stp.then hst (fun i _ h => h) (fun i _ h => h.elim), S.amb, fun w' hs => S.inv w' (hle.st w' hs), S.pin, fun t s hs => Rep.le hle s _ (nq_none s) (S.slots t s hs), fun k R hR => ?_, S.dist⟩
    obtain ⟨r0, r1, r2⟩ := S.res k R hR
    exact ⟨r0, Holds.le hle (nqL_none _) rfl (fun b hb => ⟨(r2 b hb).1, rfl⟩) r1, r2⟩
  refine wpAny_drx (g := g) C St (fun k R hk => (S.res k R hk).1) (Q := liftX I n g Q) ?_ _ _ a _ ⟨by simp, (fun j o _ h => by unfold Lstd at h; rw [hno] at h; cases h), ν, ?_⟩ hu
  · intro a' w' ν' S'
    refine ⟨m', L', H', ν', g3', ?_⟩
    have e1 : (fun t => lvn (fun _ => true) l.toArray T t (lkx t L) l.toArray.size) = fun t => lkx t L' := funext fun t => by rw [← hTl]; exact (g5 t).symm
    have e2 : (fun k => hvn (fun _ => true) T k (hlk k H) l.toArray.size) = fun k => hlk k H' := funext fun k => by rw [← hTl]; exact (g6 k).symm
    rw [e1, e2, ← hTl, ← g4] at S'
    exact S'
  · have e1 : (fun t => lvn ((Array.replicate l.toArray.size false).getD · false) l.toArray T t (lkx t L) l.toArray.size) = fun t => lkx t L := funext fun t => lvn_skip (j := 0) (Nat.zero_le _) fun i _ _ _ => hno i
    have e2 : (fun k => hvn ((Array.replicate l.toArray.size false).getD · false) T k (hlk k H) l.toArray.size) = fun k => hlk k H := funext fun k => hvn_skip (j := 0) (Nat.zero_le _) fun i _ _ _ _ _ _ => hno i
    rw [e1, e2]
    exact S1.moreN fun k hk => .inl hk
end
def drawChk : Nat → Array Oper → List Tr → Bool := sealed drawChk0
theorem drawChk_d : drawChk = drawChk0 := sealed_eq _
theorem drw {n : Nat} {ops : Array Oper} {tr : List Tr} (h : drawChk0 n ops tr = true) : drawChk n ops tr = true := by rw [drawChk_d]; exact h
def forceX {R : Type} : LX → (LX → R) → R
  | [], K => K []
  | (t, s) :: L, K => force s fun s => forceX L fun L => K ((t, s) :: L)
theorem forceX_eq {R : Type} : ∀ (l : LX) (K : LX → R), forceX l K = K l
  | [], K => rfl
  | (t, s) :: r, K => by simp only [forceX, force_eq, forceX_eq r]
def evDrw {R : Type} (T : TT) (G : FT) (Q : Req → Option Rsp) (ops : List Oper) : List Oper → List Tr → Nat → LX → HX → (List Tr → Nat → LX → HX → Option R) → Option R
  | [], tr, m, L, H, K => K tr m L H
  | o :: r, tr, m, L, H, K => match o.guard with
    | none => forceNs (o.looksAt ops.toArray) fun lk => forceX (rst lk L) fun L' => evAny T G Q (evx L') (fun k => hlk k H) m o.op fun t => stepK o.dst t m L H fun m L H => evDrw T G Q ops r (tr ++ [t]) m L H K
    | some (j, want) => (match (ops[j]?).bind (·.dst) with
      | some d' => (match lkx d' L with
        | some (.b c) => bif c then
            bif want then forceNs (o.looksAt ops.toArray) fun lk => forceX (rst lk L) fun L' => evAny T G Q (evx L') (fun k => hlk k H) m o.op fun t => stepK o.dst t m L H fun m L H => evDrw T G Q ops r (tr ++ [t]) m L H K
            else evDrw T G Q ops r (tr ++ [⟨.tup [], [], [], true, 0⟩]) m (putL o.dst (.tup []) L) H K
          else
            bif want then evDrw T G Q ops r (tr ++ [⟨.tup [], [], [], true, 0⟩]) m (putL o.dst (.tup []) L) H K
            else forceNs (o.looksAt ops.toArray) fun lk => forceX (rst lk L) fun L' => evAny T G Q (evx L') (fun k => hlk k H) m o.op fun t => stepK o.dst t m L H fun m L H => evDrw T G Q ops r (tr ++ [t]) m L H K
        | some (.tup []) => evDrw T G Q ops r (tr ++ [⟨.tup [], [], [], true, 0⟩]) m (putL o.dst (.tup []) L) H K
        | _ => none)
      | none => none)
theorem hm_step {t : Tr} {m : Nat} {H : HX} (hm : ∀ k R, hlk k H = some R → k < m) (hpre : ∀ k R, flk k t.F = some R → hlk k H = some R) (hnew : ∀ k, has k t.F' → has k t.F ∨ (m ≤ k ∧ k < m + t.nn)) (hrd : t.rd = true → t.F' = t.F) : ∀ k R, hlk k (stH t H) = some R → k < m + t.nn := by
  intro k R h
  rw [hlk_stH hpre hrd] at h
  rcases upd_cases h with h | ⟨h, _, _⟩
  · rcases hnew k ((has_iff _ _).2 ⟨R, h⟩) with h1 | h1
    · obtain ⟨R0, h2⟩ := (has_iff _ _).1 h1
      have := hm k R0 (hpre k R0 h2); omega
    · exact h1.2
  · have := hm k R h; omega
section
variable {P : Program} {I : World → Prop} {n : Nat} {g : Gx} {T : TT} {G : FT} {Q : Req → Option Rsp} {α : Type} {r : α}
theorem evDrw_ok (hT : TTok P T) (hG : FTok P G) (hQ : QOK P I Q) {ops : List Oper} {fin : List Tr → Nat → LX → HX → Prop} {K : List Tr → Nat → LX → HX → Option α} (hK : ∀ tr m L H, K tr m L H = some r → fin tr m L H) (l : List Oper) : ∀ (tr : List Tr) (m : Nat) (L : LX) (H : HX), (∀ k R, hlk k H = some R → k < m) → evDrw T G Q ops l tr m L H K = some r → DRX P I ops.toArray fin l tr m L H := by
  induction l with
  | nil => intro tr m L H _ h; exact hK _ _ _ _ h
  | cons o l ih =>
    intro tr m L H hm h
    rw [evDrw] at h
    have run : ∀ lk, lk = o.looksAt ops.toArray → evAny T G Q (evx (rst lk L)) (fun k => hlk k H) m o.op (fun t => stepK o.dst t m L H fun m L H => evDrw T G Q ops l (tr ++ [t]) m L H K) = some r → ∃ t, (OPL P I (rst (o.looksAt ops.toArray) L) t.F o.op o.type t.s t.F') ∧ (∀ k R, flk k t.F = some R → hlk k H = some R) ∧ (∀ k, has k t.F' → has k t.F ∨ (m ≤ k ∧ k < m + t.nn)) ∧ (t.rd = true → t.F' = t.F) ∧ DRX P I ops.toArray fin l (tr ++ [t]) (stepM t m) (stepL o.dst t.s L) (stepH t H) := by
      clear h
      rintro lk rfl h9
      obtain ⟨t, ht, ok⟩ := evAny_ok hT hG hQ hm h9
      rw [stepK_eq] at ht
      exact ⟨t, ok.opl _, ok.pre, ok.new, ok.rd, ih _ _ _ _ (hm_step hm ok.pre ok.new ok.rd) ht⟩
    have skip : evDrw T G Q ops l (tr ++ [⟨.tup [], [], [], true, 0⟩]) m (putL o.dst (.tup []) L) H K = some r → DRX P I ops.toArray fin l (tr ++ [⟨.tup [], [], [], true, 0⟩]) (stepM ⟨.tup [], [], [], true, 0⟩ m) (stepL o.dst (.tup []) L) (stepH ⟨.tup [], [], [], true, 0⟩ H) := fun h => ih _ _ _ _ hm h
    have hnil : ∀ k R, flk k ([] : Fp) = some R → hlk k H = some R := fun k R h => by cases h
    have hnil2 : ∀ k, has k ([] : Fp) → has k ([] : Fp) ∨ (m ≤ k ∧ k < m + 0) := fun k h => absurd h (has_nil k)
    split at h
    · rename_i hg
      rw [forceNs_eq, forceX_eq] at h
      obtain ⟨t, h1, h2, h3, h4, h5⟩ := run _ rfl h
      exact ⟨t, ⟨by unfold Obl; rw [hg]; exact h1, h2, h3, h4⟩, h5⟩
    · rename_i j want hg
      split at h
      · rename_i d' hd'
        have hj : dstOf ops.toArray j = some d' := by simpa [dstOf] using hd'
        split at h
        · rename_i c hc
          have run2 : c = want → evAny T G Q (evx (rst (o.looksAt ops.toArray) L)) (fun k => hlk k H) m o.op (fun t => stepK o.dst t m L H fun m L H => evDrw T G Q ops l (tr ++ [t]) m L H K) = some r → DRX P I ops.toArray fin (o :: l) tr m L H := by
            intro e h9
            obtain ⟨t, h1, h2, h3, h4, h5⟩ := run _ rfl h9
            exact ⟨t, ⟨by unfold Obl; rw [hg]; exact ⟨d', .b c, hj, hc, .inl ⟨by rw [e], h1⟩⟩, h2, h3, h4⟩, h5⟩
          have skip2 : c = !want → evDrw T G Q ops l (tr ++ [⟨.tup [], [], [], true, 0⟩]) m (putL o.dst (.tup []) L) H K = some r → DRX P I ops.toArray fin (o :: l) tr m L H := by
            intro e h9
            exact ⟨⟨.tup [], [], [], true, 0⟩, ⟨by unfold Obl; rw [hg]; exact ⟨d', .b c, hj, hc, .inr ⟨.inl (by rw [e]), rfl, rfl, rfl⟩⟩, hnil, hnil2, fun _ => rfl⟩, skip h9⟩
          cases c with
          | true =>
            cases want with
            | true => simp only [cond_true, forceNs_eq, forceX_eq] at h; exact run2 rfl h
            | false => exact skip2 rfl h
          | false =>
            cases want with
            | true => exact skip2 rfl h
            | false => simp only [cond_false, forceNs_eq, forceX_eq] at h; exact run2 rfl h
        · rename_i hc
          exact ⟨⟨.tup [], [], [], true, 0⟩, ⟨by unfold Obl; rw [hg]; exact ⟨d', .tup [], hj, hc, .inr ⟨.inr rfl, rfl, rfl, rfl⟩⟩, hnil, hnil2, fun _ => rfl⟩, skip h⟩
        · cases h
      · cases h
end
end
end Go.Ax

namespace Go.Ax
noncomputable section
open Go Go.RowKit Go.Eng
set_option linter.unusedVariables false
set_option linter.unusedSimpArgs false
def trimL (keep : List Nat) (L : LX) : LX := match keep with
  | [] => []
  | t :: r => (match lkx t L with | some s => (t, s) :: trimL r L | none => trimL r L)
def namesX : LX → List Nat
  | [] => []
  | (_, s) :: L => names s ++ namesX L
def renX (ρ : Nat → Nat) : LX → LX
  | [] => []
  | (t, s) :: L => (t, ren ρ s) :: renX ρ L
def upto (n : Nat) : List Nat := List.range n
def hIn (ρ : Nat → Nat) (hk : Nat → Option Rs) : Nat → List Nat → HX
  | _, [] => []
  | i, k :: r => match hk k with
    | some R => (i, some (renR ρ R)) :: hIn ρ hk (i + 1) r
    | none => hIn ρ hk (i + 1) r
variable {R : Type}
def forceH : HX → (HX → R) → R
  | [], K => K []
  | (k, some r) :: H, K => forceR r fun r => forceH H fun H => K ((k, some r) :: H)
  | (k, none) :: H, K => forceH H fun H => K ((k, none) :: H)
theorem forceH_eq : ∀ (l : HX) (K : HX → R), forceH l K = K l
  | [], K => rfl
  | (k, some r) :: H, K => by simp only [forceH, forceR_eq, forceH_eq H]
  | (k, none) :: H, K => by simp only [forceH, forceH_eq H]
def preB : Nat → Nat → List Nat → Bool
  | 0, _, _ => true
  | n + 1, i, k :: r => Nat.beq k i && preB n (i + 1) r
  | _ + 1, _, [] => false
def allInH (hk : Nat → Option Rs) (ks : List Nat) : List Nat → Bool
  | [] => true
  | k :: r => (match hk k with | some R => allIn ks (namesR R) | none => true) && allInH hk ks r
def canon (keep : List Nat) (n0 : Nat) (L : LX) (H : HX) (K : Nat → LX → HX → Option R) : Option R :=
  forceX (trimL keep L) fun L1 => forceNs (close (fun k => hlk k H) 60 [] (upto n0 ++ namesX L1)) fun ks =>
    bif nodupB ks && preB n0 0 ks && allIn ks (namesX L1) && allInH (fun k => hlk k H) ks ks then
      forceX (renX (fun k => idx k ks) L1) fun L => forceH (hIn (fun k => idx k ks) (fun k => hlk k H) 0 ks) fun H => addN 0 ks.length fun m => K m L H
    else none
theorem lkx_trim {keep : List Nat} {L : LX} {t : Nat} {s : AV} (h : lkx t (trimL keep L) = some s) : lkx t L = some s := by
  induction keep with
  | nil => cases h
  | cons d r ih =>
    simp only [trimL] at h
    split at h
    · rename_i s' hs
      rw [lkx_cons] at h
      split at h
      · rename_i e; rw [e, ← h]; exact hs
      · exact ih h
    · exact ih h
theorem lkx_renX {ρ : Nat → Nat} {t : Nat} {s : AV} : ∀ {L : LX}, lkx t (renX ρ L) = some s → ∃ s1, lkx t L = some s1 ∧ s = ren ρ s1
  | [], h => by cases h
  | (d, v) :: L, h => by
    simp only [renX] at h
    rw [lkx_cons] at h ⊢
    split at h
    · rename_i e; rw [if_pos e]; exact ⟨v, rfl, (Option.some.inj h).symm⟩
    · rename_i e; rw [if_neg e]; exact lkx_renX h
theorem namesX_mem {t : Nat} {s : AV} {k : Nat} (hk : k ∈ names s) : ∀ {L : LX}, lkx t L = some s → k ∈ namesX L
  | [], h => by cases h
  | (d, v) :: L, h => by
    rw [lkx_cons] at h
    simp only [namesX]
    split at h
    · rw [Option.some.inj h]; exact List.mem_append.2 (.inl hk)
    · exact List.mem_append.2 (.inr (namesX_mem hk h))
theorem hIn_some {ρ : Nat → Nat} {hk : Nat → Option Rs} {R : Rs} {j : Nat} : ∀ {ks : List Nat} {i : Nat}, hlk j (hIn ρ hk i ks) = some R → ∃ q k R1, ks[q]? = some k ∧ j = i + q ∧ hk k = some R1 ∧ R = renR ρ R1
  | [], i, h => by cases h
  | k :: ks, i, h => by
    simp only [hIn] at h
    split at h
    · rename_i R1 h1
      rw [hlk_cons] at h
      split at h
      · rename_i e; exact ⟨0, k, R1, rfl, by simpa using e, h1, (Option.some.inj h).symm⟩
      · obtain ⟨q, k', R', g1, g2, g3, g4⟩ := hIn_some h
        exact ⟨q + 1, k', R', by simpa using g1, by omega, g3, g4⟩
    · obtain ⟨q, k', R', g1, g2, g3, g4⟩ := hIn_some h
      exact ⟨q + 1, k', R', by simpa using g1, by omega, g3, g4⟩
theorem preB_get : ∀ {n i : Nat} {ks : List Nat} {j : Nat}, preB n i ks = true → j < n → ks[j]? = some (i + j)
  | 0, i, ks, j, _, hj => by omega
  | n + 1, i, [], j, h, _ => by cases h
  | n + 1, i, k :: r, 0, h, _ => by simp only [preB, Bool.and_eq_true] at h; simpa using h.1
  | n + 1, i, k :: r, j + 1, h, hj => by
    simp only [preB, Bool.and_eq_true] at h
    have := preB_get (j := j) h.2 (by omega)
    simp only [List.getElem?_cons_succ, this]; congr 1; omega
theorem allInH_get {hk : Nat → Option Rs} {ks : List Nat} : ∀ {l : List Nat} {k : Nat} {R : Rs}, allInH hk ks l = true → k ∈ l → hk k = some R → ∀ q ∈ namesR R, q ∈ ks
  | a :: l, k, R, h, hm, hR => by
    simp only [allInH, Bool.and_eq_true] at h
    rcases List.mem_cons.1 hm with rfl | hm
    · have := h.1; rw [hR] at this; exact allIn_iff.1 this
    · exact allInH_get h.2 hm hR
theorem canon_ok {keep : List Nat} {n0 : Nat} {L : LX} {H : HX} {K : Nat → LX → HX → Option R} {r : R} (h : canon keep n0 L H K = some r) : ∃ (m' : Nat) (L' : LX) (H' : HX) (ρ : Nat → Nat), K m' L' H' = some r ∧
    ∀ {I : World → Prop} {n : Nat} {g : Gx} {m : Nat} {a : Act} {w : World} {ν : Nat → Value}, g.n0 = n0 → SatL I n g m L H a w ν → SatL I n g m' L' H' a w (fun k => ν (ρ k)) := by
  unfold canon at h
  rw [forceX_eq, forceNs_eq] at h
  generalize hks : close (fun k => hlk k H) 60 [] (upto n0 ++ namesX (trimL keep L)) = ks at h
  cases hc : (nodupB ks && preB n0 0 ks && allIn ks (namesX (trimL keep L)) && allInH (fun k => hlk k H) ks ks) with
  | false => rw [hc] at h; cases h
  | true =>
    rw [hc] at h
    simp only [cond_true, forceX_eq, forceH_eq, addN_eq, Nat.zero_add] at h
    simp only [Bool.and_eq_true, nodupB_iff, allIn_iff] at hc
    obtain ⟨⟨⟨hnd, hpre⟩, hin⟩, hinH⟩ := hc
    refine ⟨_, _, _, nth ks, h, fun {I n g m a w ν} hg S => ?_⟩
    refine S.cut (nth ks) (fun k hk => ?_) (fun t s hs => ?_) (fun k R hR => ?_) (fun k k' R R' h1 h2 e => ?_)
    · rw [hg] at hk
      have := preB_get hpre hk
      rw [Nat.zero_add] at this
      exact ⟨(List.getElem?_eq_some_iff.1 this).1, nth_get this⟩
    · obtain ⟨s1, h1, rfl⟩ := lkx_renX hs
      obtain ⟨h2, h3⟩ := ren_back s1 (ks := ks) (fun k hk => hin k (namesX_mem hk h1))
      exact ⟨by rw [h2]; exact lkx_trim h1, h3⟩
    · obtain ⟨q, k', R1, h1, h2, h3, rfl⟩ := hIn_some hR
      rw [Nat.zero_add] at h2
      subst h2
      obtain ⟨h4, h5⟩ := renR_back (R := R1) (allInH_get hinH (List.mem_of_getElem? h1) h3)
      exact ⟨by rw [h4, nth_get h1]; exact h3, (List.getElem?_eq_some_iff.1 h1).1, h5⟩
    · obtain ⟨q, k1, R1, g1, g2, _, _⟩ := hIn_some h1
      obtain ⟨q', k2, R2, f1, f2, _, _⟩ := hIn_some h2
      rw [Nat.zero_add] at g2 f2
      subst g2; subst f2
      rw [nth_get g1, nth_get f1] at e
      subst e
      exact (List.getElem?_inj (List.getElem?_eq_some_iff.1 g1).1 hnd).1 (by rw [g1, f1])
def one1 (k e : Nat) (t : Ty) (l : List (El t)) : Nat → Option Rs := fun j => bif Nat.beq j k then some (.row e t l) else none
def vwX (hk : Nat → Option Rs) : LX → LX
  | [] => []
  | (t, s) :: L => (t, vw hk s) :: vwX hk L
def vwRs (hk : Nat → Option Rs) : Rs → Rs
  | .var l => .var (vwL hk l)
  | .rowA e s n l => .rowA e s n (vwL hk l)
  | R => R
def vwH (hk : Nat → Option Rs) : HX → HX
  | [] => []
  | (k, some R) :: H => (k, some (vwRs hk R)) :: vwH hk H
  | (k, none) :: H => (k, none) :: vwH hk H
theorem lkx_vwX (hk : Nat → Option Rs) (t : Nat) : ∀ (L : LX), lkx t (vwX hk L) = (lkx t L).map (vw hk)
  | [] => rfl
  | (d, s) :: L => by rw [vwX, lkx_cons, lkx_cons, lkx_vwX hk t L]; split <;> rfl
theorem hlk_vwH (hk : Nat → Option Rs) (k : Nat) : ∀ (H : HX), hlk k (vwH hk H) = (hlk k H).map (vwRs hk)
  | [] => rfl
  | (d, some R) :: H => by rw [vwH, hlk_cons, hlk_cons, hlk_vwH hk k H]; split <;> rfl
  | (d, none) :: H => by rw [vwH, hlk_cons, hlk_cons, hlk_vwH hk k H]; split <;> rfl
theorem Sat.giveUp {I : World → Prop} {n : Nat} {g : Gx} {m : Nat} {L : LX} {H : HX} {a : Act} {w : World} {ν : Nat → Value} (S : SatL I n g m L H a w ν) {k e : Nat} {t : Ty} {l : List (El t)} (hkk : hlk k H = some (.row e t l)) :
    SatL I n g m (vwX (one1 k e t l) L) ((k, none) :: vwH (one1 k e t l) H) a w ν := by
  have hG : ∀ q R, flk q [(k, Rs.row e t l)] = some R → q = k ∧ R = .row e t l := fun q R h => by
    rw [flk_cons] at h
    split at h
    · rename_i hq; exact ⟨hq, (Option.some.inj h).symm⟩
    · cases h
  have hres : ∀ q R, flk q [(k, Rs.row e t l)] = some R → q < m ∧ Holds ⟨(· < m), ν, ownS g.Oa (fun k => hlk k H) ν, w⟩ q R ∧ ∀ b, blk (ν q) = some b → ownS g.Oa (fun k => hlk k H) ν b := fun q R h => by
    obtain ⟨rfl, rfl⟩ := hG q R h
    obtain ⟨r0, r1, r2⟩ := S.res _ _ hkk
    exact ⟨r0, r1, fun b hb => .inr ⟨_, _, hkk, hb⟩⟩
  have hin : ∀ q, ∀ e' t' l', one1 k e t l q = some (.row e' t' l') → flk q [(k, Rs.row e t l)] = some (.row e' t' l') := fun q e' t' l' h => by
    unfold one1 at h
    cases hb : Nat.beq q k with
    | false => rw [hb] at h; cases h
    | true =>
      rw [hb] at h
      rw [flk_cons, if_pos (by simpa using hb)]; exact h
  have hk' : ∀ q R, hlk q ((k, none) :: vwH (one1 k e t l) H) = some R → q ≠ k ∧ ∃ R0, hlk q H = some R0 ∧ R = vwRs (one1 k e t l) R0 := fun q R h => by
    rw [hlk_cons] at h
    split at h
    · cases h
    · rename_i hq
      rw [hlk_vwH] at h
      obtain ⟨R0, h1, h2⟩ := Option.map_eq_some_iff.1 h
      exact ⟨hq, R0, h1, h2.symm⟩
  have hfb : ∀ b, fblk ν [(k, Rs.row e t l)] b ↔ blk (ν k) = some b := fun b => by
    constructor
    · rintro ⟨q, R, h, hb⟩; obtain ⟨rfl, _⟩ := hG q R h; exact hb
    · intro hb; exact ⟨k, _, by rw [flk_cons, if_pos rfl], hb⟩
  have hown : ∀ b, ownS g.Oa (fun q => hlk q ((k, none) :: vwH (one1 k e t l) H)) ν b → ownS g.Oa (fun k => hlk k H) ν b ∧ ¬ fblk ν [(k, Rs.row e t l)] b := by
    rintro b (hb | ⟨q, R, hq, hb⟩)
    · refine ⟨.inl hb, fun hf => ?_⟩
      have h1 := S.amb b hb
      have h2 := ((S.res _ _ hkk).2.2 b ((hfb b).1 hf)).2
      rcases h2 with h2 | h2
      · omega
      · exact h1.2 h2
    · obtain ⟨hne, R0, h1, _⟩ := hk' q R hq
      refine ⟨.inr ⟨q, R0, h1, hb⟩, fun hf => ?_⟩
      exact S.dist q k R0 _ b h1 hkk hne hb ((hfb b).1 hf)
  have hle : Cx.Le none (Cx.less ⟨(· < m), ν, ownS g.Oa (fun k => hlk k H) ν, w⟩ [(k, Rs.row e t l)]) ⟨(· < m), ν, ownS g.Oa (fun q => hlk q ((k, none) :: vwH (one1 k e t l) H)) ν, w⟩ :=
    ⟨fun k _ h => ⟨h, rfl⟩, fun w'' hs => hs.mono fun i _ h => hown i h⟩
  refine ⟨S.size, S.defers, S.stp, S.amb, fun w'' hs => S.inv w'' (hs.mono fun i _ h => (hown i h).1), S.pin, fun d s hs => ?_, fun q R hR => ?_, fun q q' R R' b h h' hne => ?_⟩
  · rw [lkx_vwX] at hs
    obtain ⟨s0, h1, rfl⟩ := Option.map_eq_some_iff.1 hs
    exact Rep.le hle _ _ (nq_none _) (vw_ok hres s0 _ (fun q _ e' t' l' h => hin q e' t' l' h) (S.slots d s0 h1))
  · obtain ⟨hne, R0, h1, rfl⟩ := hk' q R hR
    obtain ⟨r0, r1, r2⟩ := S.res q R0 h1
    refine ⟨r0, Holds.le hle (nqL_none _) rfl (fun b hb => ⟨(r2 b hb).1, rfl⟩) ?_, r2⟩
    cases R0 with
    | var l0 =>
      obtain ⟨b, us, g1, g2, g3, g4⟩ := r1
      exact ⟨b, us, g1, g2, vwL_ok hres l0 us (fun q _ e' t' l' h => hin q e' t' l' h) g3, g4⟩
    | row e0 t0 l0 => exact Holds.le (Cx.less_le _ _) (nqL_none _) rfl (fun b hb => ⟨(r2 b hb).1, rfl⟩) r1
    | rowA e0 s0 n0 l0 =>
      obtain ⟨us, g1, g2, g3⟩ := r1
      exact ⟨us, g1, vwL_ok hres l0 us (fun q _ e' t' l' h => hin q e' t' l' h) g2, g3⟩
  · obtain ⟨_, R0, h1, _⟩ := hk' q R h
    obtain ⟨_, R1, h2, _⟩ := hk' q' R' h'
    exact S.dist q q' R0 R1 b h1 h2 hne
def topNms (L0 : LX) : LX → List Nat
  | [] => []
  | (t, .nm k) :: L => (match lkx t L0 with | some (.nm j) => bif Nat.beq j k then k :: topNms L0 L else topNms L0 L | _ => topNms L0 L)
  | _ :: L => topNms L0 L
def heldBy (L : LX) : List Nat → List Nat
  | [] => []
  | t :: r => (match lkx t L with | some s => names s ++ heldBy L r | none => heldBy L r)
def namesHX : HX → List Nat
  | [] => []
  | (_, some R) :: H => namesR R ++ namesHX H
  | (_, none) :: H => namesHX H
def minusN (ks : List Nat) : List Nat → List Nat
  | [] => []
  | k :: r => bif memN k ks then minusN ks r else k :: minusN ks r
def giveEach : List Nat → LX → HX → (LX → HX → R) → R
  | [], L, H, K => K L H
  | k :: r, L, H, K => (match hlk k H with
    | some (.row e t l) => forceX (vwX (one1 k e t l) L) fun L => forceH ((k, none) :: vwH (one1 k e t l) H) fun H => giveEach r L H K
    | _ => giveEach r L H K)
def giveK (need : Option (List Nat)) (n0 : Nat) (L : LX) (H : HX) (K : LX → HX → R) : R := match need with
  | none => K L H
  | some need => forceNs (bif memN 999999 need then minusN (upto n0 ++ heldBy L need) (nub [] (topNms L L ++ namesHX H)) else minusN (upto n0 ++ heldBy L need ++ namesHX H) (nub [] (topNms L L))) fun ks => giveEach ks L H K
theorem giveEach_ok {I : World → Prop} {n : Nat} {g : Gx} {m : Nat} {a : Act} {w : World} {ν : Nat → Value} : ∀ (ks : List Nat) {L : LX} {H : HX} {K : LX → HX → R}, SatL I n g m L H a w ν → ∃ L' H', giveEach ks L H K = K L' H' ∧ SatL I n g m L' H' a w ν
  | [], L, H, K, S => ⟨L, H, rfl, S⟩
  | k :: r, L, H, K, S => by
    unfold giveEach
    split
    · rename_i e t l hkk
      simp only [forceX_eq, forceH_eq]
      exact giveEach_ok r (Sat.giveUp S hkk)
    · exact giveEach_ok r S
theorem giveK_ok {I : World → Prop} {n : Nat} {g : Gx} {m : Nat} {a : Act} {w : World} {ν : Nat → Value} {need : Option (List Nat)} {n0 : Nat} {L : LX} {H : HX} {K : LX → HX → R} (S : SatL I n g m L H a w ν) : ∃ L' H', giveK need n0 L H K = K L' H' ∧ SatL I n g m L' H' a w ν := by
  unfold giveK
  split
  · exact ⟨L, H, rfl, S⟩
  · rw [forceNs_eq]; exact giveEach_ok _ S
theorem giveEach_K : ∀ (ks : List Nat) {L : LX} {H : HX} {R' : Type} {K : LX → HX → R} {K' : LX → HX → R'} {Z : R → R' → Prop}, (∀ L H, Z (K L H) (K' L H)) → Z (giveEach ks L H K) (giveEach ks L H K')
  | [], L, H, R', K, K', Z, h => h L H
  | k :: r, L, H, R', K, K', Z, h => by
    unfold giveEach
    split
    · simp only [forceX_eq, forceH_eq]; exact giveEach_K r h
    · exact giveEach_K r h
theorem giveK_K {need : Option (List Nat)} {n0 : Nat} {L : LX} {H : HX} {R' : Type} {K : LX → HX → R} {K' : LX → HX → R'} {Z : R → R' → Prop} (h : ∀ L H, Z (K L H) (K' L H)) : Z (giveK need n0 L H K) (giveK need n0 L H K') := by
  unfold giveK
  split
  · exact h L H
  · simp only [forceNs_eq]; exact giveEach_K _ h
def nilK : List (Nat × Nat × Ty) → Nat → LX → HX → (Nat → LX → HX → R) → R
  | [], m, L, H, K => K m L H
  | (t, e, τ) :: r, m, L, H, K => (match lkx t L with
    | some .nil => addN 1 m fun m' => nilK r m' ((t, .nm m) :: L) ((m, some (.row e τ [])) :: H) K
    | _ => nilK r m L H K)
theorem Sat.nilRow {I : World → Prop} {n : Nat} {g : Gx} {m : Nat} {L : LX} {H : HX} {a : Act} {w : World} {ν : Nat → Value} (S : SatL I n g m L H a w ν) {t e : Nat} {τ : Ty} (ht : lkx t L = some .nil) :
    SatL I n g (m + 1) ((t, .nm m) :: L) ((m, some (.row e τ [])) :: H) a w (fun q => if q = m then .slice none 0 0 else ν q) := by
  have hv := S.slots t _ ht
  simp only [Rep] at hv
  have hO : ∀ b, ownS g.Oa (fun k => hlk k H) ν b → b < w.heap.size := by
    rintro b (h | ⟨k, R, h1, h2⟩)
    · exact Nat.lt_of_lt_of_le (S.amb b h).1 S.stp.size
    · exact ((S.res k R h1).2.2 b h2).1
  have ok : Ok ⟨(· < m), ν, ownS g.Oa (fun k => hlk k H) ν, w⟩ [] [(m, .row e τ [])] (.nm m) (.slice none 0 0) w (fun q => if q = m then .slice none 0 0 else ν q) :=
    Ok.newM (sz := τ.n) (n := 0) (e := e) (cells := []) (vs := []) (Nat.lt_irrefl m) hO (Stp.refl _ _) (World.ownsG_nil w 0 e τ.n) (fun b h => by cases h) (by simp only [Reps]) (fun u hu => by cases hu) (fun c' hh => hh)
  have hh : ∀ k, has k [(m, Rs.row e τ [])] ↔ k = m := fun k => by
    unfold has
    rw [flk_cons]
    by_cases h : k = m
    · simp [h]
    · simp [h]
  obtain ⟨S1, hr⟩ := Sat.step S (N' := (· < m + 1)) (hk' := fun k => hlk k ((m, some (.row e τ [])) :: H)) (fun k R h => by cases h) ok (fun k => by rw [hh]; omega) (fun k => by
    unfold upd
    rw [hlk_cons, flk_cons]
    by_cases h : k = m
    · simp [h]
    · simp [h])
  refine ⟨S1.size, S1.defers, S1.stp, S1.amb, S1.inv, S1.pin, fun d s hs => ?_, S1.res, S1.dist⟩
  rw [lkx_cons] at hs
  split at hs
  · rename_i he
    obtain rfl := Option.some.inj hs
    subst he
    rw [hv]; exact hr
  · exact S1.slots d s hs
theorem nilK_ok {I : World → Prop} {n : Nat} {g : Gx} {a : Act} {w : World} : ∀ (l : List (Nat × Nat × Ty)) {m : Nat} {ν : Nat → Value} {L : LX} {H : HX} {K : Nat → LX → HX → R}, SatL I n g m L H a w ν → ∃ m' L' H' ν', nilK l m L H K = K m' L' H' ∧ SatL I n g m' L' H' a w ν'
  | [], m, ν, L, H, K, S => ⟨m, L, H, ν, rfl, S⟩
  | (t, e, τ) :: r, m, ν, L, H, K, S => by
    unfold nilK
    split
    · rename_i h
      rw [addN_eq, Nat.add_comm 1 m]
      exact nilK_ok r (Sat.nilRow S h)
    · exact nilK_ok r S
theorem nilK_K : ∀ (l : List (Nat × Nat × Ty)) {m : Nat} {L : LX} {H : HX} {R' : Type} {K : Nat → LX → HX → R} {K' : Nat → LX → HX → R'} {Z : R → R' → Prop}, (∀ m L H, Z (K m L H) (K' m L H)) → Z (nilK l m L H K) (nilK l m L H K')
  | [], m, L, H, R', K, K', Z, h => h m L H
  | (t, e, τ) :: r, m, L, H, R', K, K', Z, h => by
    unfold nilK
    split
    · simp only [addN_eq]; exact nilK_K r h
    · exact nilK_K r h
def entK (E : Plc) (n0 m : Nat) (L : LX) (H : HX) (K : Nat → LX → HX → Option R) : Option R := nilK E.nils m L H fun m L H => giveK E.need n0 L H fun L H => match E.keep with
  | some keep => canon keep n0 L H K
  | none => K m L H
theorem entK_ok {E : Plc} {n0 m : Nat} {L : LX} {H : HX} {K : Nat → LX → HX → Option R} {r : R} {I : World → Prop} {n : Nat} {g : Gx} {a : Act} {w : World} {ν : Nat → Value} (hg : g.n0 = n0) (S : SatL I n g m L H a w ν) (h : entK E n0 m L H K = some r) :
    ∃ m' L' H' ν', K m' L' H' = some r ∧ SatL I n g m' L' H' a w ν' := by
  unfold entK at h
  obtain ⟨m1, L1, H1, ν1, h1, S1⟩ := nilK_ok E.nils (K := fun m L H => giveK E.need n0 L H fun L H => match E.keep with | some keep => canon keep n0 L H K | none => K m L H) S
  rw [h1] at h
  obtain ⟨L2, H2, h2, S2⟩ := giveK_ok (need := E.need) (n0 := n0) (K := fun L H => match E.keep with | some keep => canon keep n0 L H K | none => K m1 L H) S1
  rw [h2] at h
  revert h
  cases E.keep with
  | none => exact fun h => ⟨_, _, _, _, h, S2⟩
  | some keep =>
    intro h
    obtain ⟨m', L', H', ρ, h3, h4⟩ := canon_ok h
    exact ⟨_, _, _, _, h3, h4 hg S2⟩
def entAt (G : FT) (f id : Nat) : Plc := match filk f G with
  | some fi => (match fi.give with
    | [] => {}
    | l => (match l.find? fun p => Nat.beq p.1 id with | some p => p.2 | none => {}))
  | none => {}
theorem blt_no (a j : Nat) : Nat.blt (a + j) a = false := by
  rw [Bool.eq_false_iff]
  intro e
  have : a + j < a := by simpa using e
  omega
def nloops : Code → Nat
  | .seq a b => nloops a + nloops b
  | .cond _ a b => nloops a + nloops b
  | .block _ c => nloops c
  | .loop c => nloops c + 1
  | _ => 0
def loopAt : Code → Nat → Option Code
  | .seq a b, k => bif Nat.blt k (nloops a) then loopAt a k else loopAt b (k - nloops a)
  | .cond _ a b, k => bif Nat.blt k (nloops a) then loopAt a k else loopAt b (k - nloops a)
  | .block _ c, k => loopAt c k
  | .loop c, k => bif Nat.beq k 0 then some c else loopAt c (k - 1)
  | _, _ => none
def evC (T : TT) (G : FT) (Q : Req → Option Rsp) (n f n0 : Nat) (keep : List (Plc × Plc)) : Code → Nat → Nat → LX → HX → (Exit → Nat → LX → HX → Option Rsp) → Option Rsp
  | .skip, k, m, L, H, K => K .normal m L H
  | .label _, k, m, L, H, K => K .normal m L H
  | .seq a b, k, m, L, H, K => evC T G Q n f n0 keep a k m L H fun e m L H => match e with
    | .normal => evC T G Q n f n0 keep b (k + nloops a) m L H K
    | e => K e m L H
  | .cond c a b, k, m, L, H, K => (match evx L c with
    | some (.b t) => bif t then evC T G Q n f n0 keep a k m L H K else evC T G Q n f n0 keep b (k + nloops a) m L H K
    | _ => none)
  | .block id c, k, m, L, H, K => evC T G Q n f n0 keep c k m L H fun e m L H => match e with
    | .exit id' => bif Nat.beq id' id then K .normal m L H else K (.exit id') m L H
    | e => K e m L H
  | .exit id, k, m, L, H, K => K (.exit id) m L H
  | .ret, k, m, L, H, K => K .ret m L H
  | .region id ops false, k, m, L, H, K => entK (entAt G f id) n0 m L H fun m L H => evOps T G Q n ops.toList ops.toList m L H fun m L H => K .normal m L H
  | .region id ops true, k, m, L, H, K => entK (entAt G f id) n0 m L H fun m L H => evDrw T G Q ops.toList ops.toList [] m L H fun tr m L H => bif drawChk n ops.toList.toArray tr then K .normal m L H else none
  | .loop c, k, m, L, H, K => addN 0 k fun k => (match keep[k]? with
    | some kp => entK kp.1 n0 m L H fun m L H => (Q (.loop f k n0 m L H)).bind fun r => match r with
      | .fin e m L H => K e m L H
      | _ => none
    | none => none)
  | _, _, _, _, _, _ => none
def LoopW (P : Program) (c : Code) (Q : Exit → Act → World → Prop) (a : Act) (w : World) : Prop := ∀ b k cs, ∃ e a' w', Q e a' w' ∧ Arrives P (lone (b.at a (.code c :: .inLoop c :: k)) cs w) b k cs e a' w'
theorem LoopW.wp {P : Program} {c : Code} {Q : Exit → Act → World → Prop} {a : Act} {w : World} (h : LoopW P c Q a w) : (Code.loop c).wp P Q a w := by
  intro b k cs
  obtain ⟨e, a', w', hq, harr⟩ := h b k cs
  exact ⟨e, a', w', hq, .of_steps (.one step_loop) harr⟩
theorem LoopW.mono {P : Program} {c : Code} {Q Q' : Exit → Act → World → Prop} {a : Act} {w : World} (h : LoopW P c Q a w) (hq : ∀ e a w, Q e a w → Q' e a w) : LoopW P c Q' a w := by
  intro b k cs
  obtain ⟨e, a', w', h1, harr⟩ := h b k cs
  exact ⟨e, a', w', hq _ _ _ h1, harr⟩
theorem LoopW.unroll {P : Program} {c : Code} {Q : Exit → Act → World → Prop} {a : Act} {w : World} (h : c.wp P (Exit.then (fun a w => LoopW P c Q a w) Q) a w) : LoopW P c Q a w := by
  intro b k cs
  obtain ⟨e, a₁, w₁, hq, harr⟩ := h b (.inLoop c :: k) cs
  cases e with
  | normal =>
    obtain ⟨e₂, a₂, w₂, hq₂, harr₂⟩ := hq b k cs
    exact ⟨e₂, a₂, w₂, hq₂, .of_steps (Steps.trans harr (.one step_inLoop)) harr₂⟩
  | exit id => exact ⟨_, a₁, w₁, hq, .pass (x := .inLoop c) rfl (fun _ _ => .inl (by simp)) harr⟩
  | goto l => exact ⟨_, a₁, w₁, hq, .pass (x := .inLoop c) rfl (fun _ _ => .inl (by simp)) harr⟩
  | ret => exact ⟨_, a₁, w₁, hq, .pass (x := .inLoop c) rfl (fun _ _ => .inl (by simp)) harr⟩
  | panic ch => exact ⟨_, a₁, w₁, hq, .pass (x := .inLoop c) rfl (fun _ _ => .inl (by simp)) harr⟩
  | outgrown => exact ⟨_, a₁, w₁, hq, .pass (x := .inLoop c) rfl (fun _ _ => .inl (by simp)) harr⟩
def SemL (P : Program) (I : World → Prop) (n : Nat) (c : Code) (n0 m : Nat) (L : LX) (H : HX) (e : Exit) (m' : Nat) (L' : LX) (H' : HX) : Prop :=
  ∀ g : Gx, g.n0 = n0 → ∀ a w ν, SatL I n g m L H a w ν → LoopW P c (liftX I n g fun e1 m1 L1 H1 => e1 = e ∧ m1 = m' ∧ L1 = L' ∧ H1 = H') a w
section
variable {P : Program} {I : World → Prop} {n f n0 : Nat} {g : Gx} {T : TT} {G : FT} {Q : Req → Option Rsp} {r : Rsp} {keep : List (Plc × Plc)} {tab : Nat → Option Code}
theorem evC_ok (hT : TTok P T) (hG : FTok P G) (hQ : QOK P I Q) (hx : P.follows .mixedOrders = true) (hg : g.n0 = n0) (hL : ∀ k c m L H e m' L' H', tab k = some c → Q (.loop f k n0 m L H) = some (.fin e m' L' H') → SemL P I n c n0 m L H e m' L' H') :
    ∀ (c : Code) (k m : Nat) (L : LX) (H : HX) (K : Exit → Nat → LX → HX → Option Rsp) (Φ : PostX), (∀ j c', loopAt c j = some c' → j < nloops c → tab (k + j) = some c') → evC T G Q n f n0 keep c k m L H K = some r → (∀ e m L H, K e m L H = some r → Φ e m L H) → Wc P I n g c Φ m L H := by
  intro c
  induction c with
  | skip => intro k m L H K Φ hk h hK; exact Wc_skip (hK _ _ _ _ h)
  | label l => intro k m L H K Φ hk h hK; exact Wc_label (hK _ _ _ _ h)
  | exit id => intro k m L H K Φ hk h hK; exact Wc_exit (hK _ _ _ _ h)
  | ret => intro k m L H K Φ hk h hK; exact Wc_ret (hK _ _ _ _ h)
  | seq a b iha ihb =>
    intro k m L H K Φ hk h hK
    rw [evC] at h
    refine Wc_seq (fun e m L H => (match e with | .normal => evC T G Q n f n0 keep b (k + nloops a) m L H K | e => K e m L H) = some r) (iha k m L H _ _ (fun j c' hj hlt => hk j c' ?_ ?_) h fun e m L H h => h) (fun m L H h => ihb _ _ _ _ _ _ (fun j c' hj hlt => ?_) h hK) (fun e m L H he h => hK e m L H ?_)
    · simp only [loopAt]; rw [show Nat.blt j (nloops a) = true from by simpa using hlt]; exact hj
    · simp only [nloops]; omega
    · rw [Nat.add_assoc]
      refine hk (nloops a + j) c' ?_ (by simp only [nloops]; omega)
      simp only [loopAt]
      rw [blt_no]
      rw [Nat.add_sub_cancel_left]; exact hj
    · cases e <;> first | exact absurd rfl he | exact h
  | cond x a b iha ihb =>
    intro k m L H K Φ hk h hK
    rw [evC] at h
    split at h
    · rename_i t ht
      refine Wc_cond ht ?_
      cases t with
      | true =>
        refine iha k m L H _ _ (fun j c' hj hlt => hk j c' ?_ ?_) h hK
        · simp only [loopAt]; rw [show Nat.blt j (nloops a) = true from by simpa using hlt]; exact hj
        · simp only [nloops]; omega
      | false =>
        refine ihb _ m L H _ _ (fun j c' hj hlt => ?_) h hK
        rw [Nat.add_assoc]
        refine hk (nloops a + j) c' ?_ (by simp only [nloops]; omega)
        simp only [loopAt]
        rw [blt_no]
        rw [Nat.add_sub_cancel_left]; exact hj
    · cases h
  | block id c ih =>
    intro k m L H K Φ hk h hK
    rw [evC] at h
    refine Wc_block (fun e m L H => (match e with | .exit id' => bif Nat.beq id' id then K .normal m L H else K (.exit id') m L H | e => K e m L H) = some r) (ih k m L H _ _ (fun j c' hj hlt => hk j c' hj hlt) h fun e m L H h => h) (fun m L H h => hK _ _ _ _ ?_) (fun e m L H he h => hK e m L H ?_)
    · simp only [Nat.beq_refl, cond_true] at h; exact h
    · cases e with
      | exit id' =>
        have : Nat.beq id' id = false := by rw [Bool.eq_false_iff]; intro e; exact he (by rw [beqN e])
        simp only [this, cond_false] at h; exact h
      | _ => exact h
  | region id ops b =>
    intro k m L H K Φ hk h hK
    obtain ⟨l⟩ := ops
    cases b with
    | false =>
      rw [evC] at h
      intro a w ν S
      obtain ⟨m', L', H', ν', h2, S'⟩ := entK_ok hg S h
      exact Wc_region (evOps_ok hT hG hQ (fun m L H h => hK _ _ _ _ h) l m' L' H' h2) a w ν' S'
    | true =>
      rw [evC] at h
      intro a w ν S
      obtain ⟨m', L', H', ν', h, S'⟩ := entK_ok hg S h
      refine Wc_draw (n := n) hx (evDrw_ok (fin := fun tr m L H => drawChk0 n l.toArray tr = true ∧ Φ .normal m L H) hT hG hQ (fun tr m L H h => ?_) l [] m' L' H' (fun k R hk => (S'.res k R hk).1) h) a w ν' S'
      cases hc : drawChk n l.toArray tr with
      | false => rw [hc] at h; cases h
      | true => rw [hc] at h; rw [drawChk_d] at hc; exact ⟨hc, hK _ _ _ _ h⟩
  | loop c ih =>
    intro k m L H K Φ hk h hK
    rw [evC, addN_eq, Nat.zero_add] at h
    split at h
    · rename_i kp hkp
      intro a w ν S
      obtain ⟨m', L', H', ν', h1, S'⟩ := entK_ok hg S h
      obtain ⟨rr, h3, h4⟩ := Option.bind_eq_some_iff.1 h1
      split at h4
      · rename_i e m2 L2 H2
        have hs := hL k c m' L' H' e m2 L2 H2 (by have := hk 0 c (by simp [loopAt]) (by simp [nloops]); simpa using this) h3 g hg
        exact wp_mono (hs a w _ S').wp fun e' a' w' ⟨m3, L3, H3, ν3, q, S3⟩ => by
          obtain ⟨rfl, rfl, rfl, rfl⟩ := q
          exact ⟨_, _, _, ν3, hK _ _ _ _ h4, S3⟩
      · cases h4
    · cases h
  | _ => intro k m L H K Φ hk h hK; simp only [evC] at h; cases h
end
end
end Go.Ax

namespace Go.Ax
noncomputable section
open Go Go.RowKit Go.Eng
set_option linter.unusedVariables false
set_option linter.unusedSimpArgs false
def argX (k : Nat) : List AV → LX
  | [] => []
  | v :: r => (k, v) :: argX (k + 1) r
theorem argX_lk (vs : List AV) : ∀ (k t : Nat) (s : AV), lkx t (argX k vs) = some s → k ≤ t ∧ vs[t - k]? = some s := by
  induction vs with
  | nil => intro k t s h; cases h
  | cons v r ih =>
    intro k t s h
    rw [argX, lkx_cons] at h
    by_cases e : t = k
    · rw [if_pos e] at h
      obtain rfl := Option.some.inj h
      subst e
      exact ⟨Nat.le_refl _, by simp⟩
    · rw [if_neg e] at h
      obtain ⟨h1, h2⟩ := ih _ _ _ h
      refine ⟨by omega, ?_⟩
      rw [show t - k = (t - (k + 1)) + 1 from by omega, List.getElem?_cons_succ]
      exact h2
def hOf (k : Nat) : List Rs → HX
  | [] => []
  | r :: l => (k, some r) :: hOf (k + 1) l
theorem hlk_hOf : ∀ (l : List Rs) (i k : Nat), hlk k (hOf i l) = flk k (idxF i l)
  | [], i, k => rfl
  | R :: l, i, k => by rw [hOf, idxF, hlk_cons, flk_cons, hlk_hOf l]
def rv (tmps : Array Value) (r : ResultVar) : Sem Value := match r with | .tmp t => pure (tmps.getD t undef) | .cell x t => do loadVar t (← asAddr (tmps.getD x undef))
theorem results_eq (fn : Func) (tmps : Array Value) : results fn tmps = (do let vs ← fn.results.mapM (rv tmps); pure (if h : vs.size = 1 then vs[0] else .tuple vs)) := rfl
def resX (T : TT) (L : LX) (H : HX) : List ResultVar → Option (List AV)
  | [] => some []
  | .tmp t :: r => (match lkx t L, resX T L H r with | some s, some l => some (s :: l) | _, _ => none)
  | .cell t ty :: r => (match lkx t L, tlk ty T, resX T L H r with
    | some (.pa k o), some i, some l => (match hlk k H with
      | some (.var cells) => (match ldCells (scalar i.u) i.size (cells.drop o) with | some s => some (s :: l) | none => none)
      | _ => none)
    | _, _, _ => none)
def outV (l : List AV) : AV := match l with | [s] => s | l => .tup l
def tupV (us : List Value) : Value := match us with | [u] => u | us => .tuple us.toArray
variable {R : Type}
def forceRO : List (Option Rs) → (List (Option Rs) → R) → R
  | [], K => K []
  | some s :: r, K => forceR s fun s => forceRO r fun r => K (some s :: r)
  | none :: r, K => forceRO r fun r => K (none :: r)
theorem forceRO_eq : ∀ (l : List (Option Rs)) (K : List (Option Rs) → R), forceRO l K = K l
  | [], K => rfl
  | some s :: r, K => by simp only [forceRO, forceR_eq, forceRO_eq]
  | none :: r, K => by simp only [forceRO, forceRO_eq]
def hrw (n0 : Nat) (hk : Nat → Option Rs) (k : Nat) : Option Rs := bif Nat.blt k n0 then none else hk k
def hvw (n0 : Nat) (hk : Nat → Option Rs) (k : Nat) : Option Rs := match hk k with
  | some (.var l) => some (.var (vwL (hrw n0 hk) l))
  | some (.rowA e s n l) => some (.rowA e s n (vwL (hrw n0 hk) l))
  | R => R
def namesH (hk : Nat → Option Rs) : List Nat → List Nat
  | [] => []
  | k :: r => (match hk k with | some R => namesR R | none => []) ++ namesH hk r
def evRet (T : TT) (fi : FI) (n0 : Nat) (rs : List ResultVar) (L : LX) (H : HX) : Option Rsp := match resX T L H rs with
  | some l => forceL (normL fi.rs (bif fi.own then l else vwL (hrw n0 fun k => hlk k H) l)) fun l' => forceNs (close (bif fi.own then (fun k => hlk k H) else hvw n0 fun k => hlk k H) 60 [] (upto n0 ++ namesL l')) fun ks =>
      forceRO (ks.map fun k => ((bif fi.own then (fun k => hlk k H) else hvw n0 fun k => hlk k H) k).map (renR fun k => idx k ks)) fun Hout =>
        bif nodupB ks && preB n0 0 ks && allIn ks (namesL l') && allInH (bif fi.own then (fun k => hlk k H) else hvw n0 fun k => hlk k H) ks ks && newOK n0 Hout && djB ks (bif fi.own then [] else rowsOf (hrw n0 fun k => hlk k H) (nub [] (namesL l ++ namesH (fun k => hlk k H) ks))) && Nat.ble n0 ks.length then
          forceL (renL (fun k => idx k ks) l') fun l => force (outV l) fun s => some (.ret s Hout)
        else none
  | none => none
def finK (T : TT) (fi : FI) (n0 : Nat) (rs : List ResultVar) (m : Nat) (L : LX) (H : HX) : Option Rsp := entK fi.fin n0 m L H fun _ L H => evRet T fi n0 rs L H
section
variable {P : Program} {I : World → Prop} {n : Nat} {g : Gx} {m : Nat} {L : LX} {H : HX} {a : Act} {w : World} {ν : Nat → Value} {T : TT}
theorem rv_ok (hT : TTok P T) (S : SatL I n g m L H a w ν) : ∀ {rs : List ResultVar} {l : List AV}, resX T L H rs = some l → ∃ us, (rs.mapM (rv a.tmps)).run P w = .ok us w ∧ Reps ⟨(· < m), ν, ownS g.Oa (fun k => hlk k H) ν, w⟩ l us
  | [], l, h => by simp only [resX, Option.some.injEq] at h; subst h; exact ⟨[], by simp, by simp only [Reps]⟩
  | .tmp t :: rs, l, h => by
    simp only [resX] at h
    split at h
    · rename_i s l' h1 h2
      obtain rfl := Option.some.inj h
      obtain ⟨us, h3, h4⟩ := rv_ok hT S h2
      refine ⟨a.tmps.getD t undef :: us, ?_, by simp only [Reps]; exact ⟨_, us, rfl, S.slots _ _ h1, h4⟩⟩
      simp only [List.mapM_cons, Sem.run_bind, rv, Sem.run_pure, Result.andThen_ok, h3]
    · cases h
  | .cell t ty :: rs, l, h => by
    simp only [resX] at h
    split at h
    · rename_i k o i l' h1 hi h2
      split at h
      · rename_i cells hk
        split at h
        · rename_i s hs
          obtain rfl := Option.some.inj h
          obtain ⟨us, h3, h4⟩ := rv_ok hT S h2
          obtain ⟨_, ⟨b, vs, e1, e2, e3, e4⟩, _⟩ := S.res k _ hk
          have hp := pa_eq (S.slots _ _ h1) e1
          obtain ⟨v, hv, hr⟩ := run_ld (w := w) (hT _ _ hi) hs (e3.drop o) (fun u hu => e4 u (List.mem_of_mem_drop hu)) (e2.cs o)
          refine ⟨v :: us, ?_, by simp only [Reps]; exact ⟨_, us, rfl, hr, h4⟩⟩
          simp only [List.mapM_cons, Sem.run_bind, rv, hp, asAddr, Sem.run_pure, Result.andThen_ok, hv, h3]
        · cases h
      · cases h
    · cases h
theorem results_ok (hT : TTok P T) (S : SatL I n g m L H a w ν) {fn : Func} {rs : List ResultVar} (hrs : fn.results.toList = rs) {l : List AV} (h : resX T L H rs = some l) :
    ∃ us, (results fn a.tmps).run P w = .ok (tupV us) w ∧ Reps ⟨(· < m), ν, ownS g.Oa (fun k => hlk k H) ν, w⟩ l us := by
  obtain ⟨us, h1, h2⟩ := rv_ok hT S h
  refine ⟨us, ?_, h2⟩
  rw [results_eq]
  have h3 : (fn.results.mapM (rv a.tmps)).run P w = .ok us.toArray w := by
    rw [show fn.results = rs.toArray from by rw [← hrs]]
    rw [List.mapM_toArray]
    simp [h1]
  simp only [Sem.run_bind, h3, Result.andThen_ok, Sem.run_pure]
  match us with
  | [] => rfl
  | [u] => rfl
  | u :: v :: r => simp; rfl
theorem outV_rep {c : Cx} : ∀ {l : List AV} {us : List Value}, Reps c l us → Rep c (outV l) (tupV us)
  | [s], us, h => by obtain ⟨u, rfl, hr⟩ := Reps.un1 h; exact hr
  | [], us, h => by
    have h' := h
    simp only [Reps] at h
    subst h
    simp only [outV, tupV, Rep]; exact ⟨[], rfl, h'⟩
  | s :: s' :: l, us, h => by
    have h' := h
    simp only [Reps] at h
    obtain ⟨u, t, rfl, h1, u', t', rfl, h2, h3⟩ := h
    simp only [outV, tupV, Rep]; exact ⟨_, rfl, h'⟩
theorem out_some {hk : Nat → Option Rs} {ks : List Nat} {k : Nat} {R : Rs} (h : flk k (outF id 0 (ks.map fun k => (hk k).map (renR fun k => idx k ks))) = some R) : ∃ q R1, ks[k]? = some q ∧ hk q = some R1 ∧ R = renR (fun k => idx k ks) R1 := by
  have := flk_out0 h
  rw [List.getElem?_map] at this
  obtain ⟨q, h1, h2⟩ := Option.map_eq_some_iff.1 this
  obtain ⟨R1, h3, h4⟩ := Option.map_eq_some_iff.1 h2
  exact ⟨q, R1, h1, h3, h4.symm⟩
theorem namesH_mem {hk : Nat → Option Rs} {k : Nat} {R : Rs} {q : Nat} (hR : hk k = some R) (hq : q ∈ namesR R) : ∀ {ks : List Nat}, k ∈ ks → q ∈ namesH hk ks
  | a :: ks, h => by
    simp only [namesH]
    rcases List.mem_cons.1 h with rfl | h
    · rw [hR]; exact List.mem_append.2 (.inl hq)
    · exact List.mem_append.2 (.inr (namesH_mem hR hq h))
theorem hrw_some {n0 : Nat} {hk : Nat → Option Rs} {k : Nat} {R : Rs} (h : hrw n0 hk k = some R) : hk k = some R := by
  unfold hrw at h
  cases hb : Nat.blt k n0 with
  | true => rw [hb] at h; cases h
  | false => rw [hb] at h; exact h
theorem hvw_some {n0 : Nat} {hk : Nat → Option Rs} {k : Nat} {R : Rs} (h : hvw n0 hk k = some R) : ∃ R0, hk k = some R0 ∧ (R = R0 ∨ (∃ l, R0 = .var l ∧ R = .var (vwL (hrw n0 hk) l)) ∨ ∃ e s n l, R0 = .rowA e s n l ∧ R = .rowA e s n (vwL (hrw n0 hk) l)) := by
  unfold hvw at h
  split at h
  · rename_i l hl; exact ⟨_, hl, .inr (.inl ⟨l, rfl, (Option.some.inj h).symm⟩)⟩
  · rename_i e s n l hl; exact ⟨_, hl, .inr (.inr ⟨e, s, n, l, rfl, (Option.some.inj h).symm⟩)⟩
  · exact ⟨R, h, .inl rfl⟩
theorem evRet_ok (hT : TTok P T) {fi : FI} {n0 : Nat} {rs : List ResultVar} {r : Rsp} {w0 : World} {O : Nat → Prop} {F : Fp} {ν0 : Nat → Value} {fn : Func} (hrs : fn.results.toList = rs) (hO : ∀ b, fblk ν0 F b → O b)
    (S : SatL I n ⟨w0, fblk ν0 F, fun b => O b ∧ ¬ fblk ν0 F b, n0, ν0⟩ m L H a w ν) (h : evRet T fi n0 rs L H = some r) :
    ∃ s Hout v ν', r = .ret s Hout ∧ (results fn a.tmps).run P w = .ok v w ∧ Ok ⟨(· < n0), ν0, O, w0⟩ F (outF id 0 Hout) s v w ν' := by
  unfold evRet at h
  split at h
  · rename_i l hl
    obtain ⟨us, hrun, hreps⟩ := results_ok hT S hrs hl
    rw [forceL_eq, forceNs_eq, forceRO_eq] at h
    generalize hl' : normL fi.rs (bif fi.own then l else vwL (hrw n0 fun k => hlk k H) l) = l' at h
    generalize hhv : (bif fi.own then (fun k => hlk k H) else hvw n0 fun k => hlk k H) = hv at h
    generalize hks : close hv 60 [] (upto n0 ++ namesL l') = ks at h
    generalize hvs : (bif fi.own then [] else rowsOf (hrw n0 fun k => hlk k H) (nub [] (namesL l ++ namesH (fun k => hlk k H) ks))) = vs at h
    cases hc : (nodupB ks && preB n0 0 ks && allIn ks (namesL l') && allInH hv ks ks && newOK n0 (ks.map fun k => (hv k).map (renR fun k => idx k ks)) && djB ks vs && Nat.ble n0 ks.length) with
    | false => rw [hc] at h; cases h
    | true =>
      rw [hc] at h
      simp only [cond_true, forceL_eq, force_eq, Option.some.injEq] at h
      simp only [Bool.and_eq_true, nodupB_iff, allIn_iff] at hc
      obtain ⟨⟨⟨⟨⟨⟨hnd, hpre⟩, hin⟩, hinH⟩, hnew⟩, hdj⟩, hn0⟩ := hc
      have hn0 : n0 ≤ ks.length := by simpa using hn0
      have hdj := djB_iff hdj
      have hvH : ∀ k R, flk k vs = some R → hlk k H = some R := by
        intro k R hk
        rw [← hvs] at hk
        cases ho : fi.own with
        | true => rw [ho] at hk; cases hk
        | false => rw [ho] at hk; exact hrw_some (rowsOf_some hk).1
      have hresG : ∀ k R, flk k vs = some R → k < m ∧ Holds ⟨(· < m), ν, ownS (fun b => O b ∧ ¬ fblk ν0 F b) (fun k => hlk k H) ν, w⟩ k R ∧ ∀ b, blk (ν k) = some b → ownS (fun b => O b ∧ ¬ fblk ν0 F b) (fun k => hlk k H) ν b := fun k R hk => by
        obtain ⟨r0, r1, r2⟩ := S.res k R (hvH k R hk)
        exact ⟨r0, r1, fun b hb => .inr ⟨k, R, hvH k R hk, hb⟩⟩
      -- the values, without the rows that are read from now on
      have hr1 : Reps (Cx.less ⟨(· < m), ν, ownS (fun b => O b ∧ ¬ fblk ν0 F b) (fun k => hlk k H) ν, w⟩ vs) l' us := by
        rw [← hl']
        refine normL_ok _ ?_
        cases ho : fi.own with
        | true => exact Reps.le (Cx.less_le _ _) _ _ (nqL_none _) hreps
        | false =>
          refine vwL_ok hresG l us (fun k hk e t l0 hh => ?_) hreps
          rw [← hvs, ho]; exact rowsOf_get (mem_nub.2 (.inr (List.mem_append.2 (.inl hk)))) hh
      -- the things
      have hthing : ∀ k R, k ∈ ks → hv k = some R → ∃ R0, hlk k H = some R0 ∧ Holds (Cx.less ⟨(· < m), ν, ownS (fun b => O b ∧ ¬ fblk ν0 F b) (fun k => hlk k H) ν, w⟩ vs) k R := by
        intro k R hkk hR
        rw [← hhv] at hR
        have same : ∀ R, hlk k H = some R → Holds (Cx.less ⟨(· < m), ν, ownS (fun b => O b ∧ ¬ fblk ν0 F b) (fun k => hlk k H) ν, w⟩ vs) k R := fun R hR => by
          obtain ⟨r0, r1, r2⟩ := S.res k R hR
          exact Holds.le (Cx.less_le _ _) (nqL_none _) rfl (fun b hb => ⟨(r2 b hb).1, rfl⟩) r1
        cases ho : fi.own with
        | true => rw [ho] at hR; exact ⟨R, hR, same R hR⟩
        | false =>
          rw [ho] at hR
          have hvw : ∀ R0, hlk k H = some R0 → ∀ q ∈ namesR R0, ∀ e t l, hrw n0 (fun k => hlk k H) q = some (.row e t l) → flk q vs = some (.row e t l) := fun R0 h0 q hq e t l0 hh => by
            rw [← hvs, ho]; exact rowsOf_get (mem_nub.2 (.inr (List.mem_append.2 (.inr (namesH_mem (hk := fun k => hlk k H) h0 hq hkk))))) hh
          obtain ⟨R0, h0, h1⟩ := hvw_some (n0 := n0) (hk := fun k => hlk k H) hR
          refine ⟨R0, h0, ?_⟩
          rcases h1 with rfl | ⟨l0, rfl, rfl⟩ | ⟨e, sz, n1, l0, rfl, rfl⟩
          · exact same _ h0
          · obtain ⟨_, ⟨b, vs1, g1, g2, g3, g4⟩, _⟩ := S.res k _ h0
            exact ⟨b, vs1, g1, g2, vwL_ok hresG l0 vs1 (hvw _ h0) g3, g4⟩
          · obtain ⟨_, ⟨vs1, g1, g2, g3⟩, _⟩ := S.res k _ h0
            exact ⟨vs1, g1, vwL_ok hresG l0 vs1 (hvw _ h0) g2, g3⟩
      obtain ⟨hback, hlt⟩ := renL_back l' hin
      have hHout := fun {k R} h => out_some (hk := hv) (ks := ks) (k := k) (R := R) h
      have hOb : ∀ b, ((O b ∧ ¬ fblk ν0 F b) ∨ fblk (fun k => ν (nth ks k)) (outF id 0 (ks.map fun k => (hv k).map (renR fun k => idx k ks))) b) → ownS (fun b => O b ∧ ¬ fblk ν0 F b) (fun k => hlk k H) ν b ∧ ¬ fblk ν vs b := by
        rintro b (hb | ⟨k, R, hk, hb⟩)
        · refine ⟨.inl hb, ?_⟩
          rintro ⟨q, R1, hq, hqb⟩
          obtain ⟨_, _, r2⟩ := S.res q R1 (hvH q R1 hq)
          have := S.amb b hb
          rcases (r2 b hqb).2 with h1 | h1
          · simp only at h1 this; omega
          · exact hb.2 h1
        · obtain ⟨q, R1, h1, h2, rfl⟩ := hHout hk
          have hb : blk (ν (nth ks k)) = some b := hb
          rw [nth_get h1] at hb
          obtain ⟨R0, h0, _⟩ := hthing q R1 (List.mem_of_getElem? h1) h2
          refine ⟨.inr ⟨q, R0, h0, hb⟩, ?_⟩
          rintro ⟨q', R2, hq', hqb⟩
          refine S.dist q q' R0 R2 b h0 (hvH q' R2 hq') ?_ hb hqb
          rintro rfl
          exact hdj q ((has_iff _ _).2 ⟨_, hq'⟩) (List.mem_of_getElem? h1)
      have hN : ∀ k, k < ks.length → nth ks k < m → (k < n0 ∨ has k (outF id 0 (ks.map fun k => (hv k).map (renR fun k => idx k ks)))) ∧ (fun k => ν (nth ks k)) k = ν (nth ks k) := by
        intro k hk _
        refine ⟨?_, rfl⟩
        rcases Nat.lt_or_ge k n0 with h1 | h1
        · exact .inl h1
        · obtain ⟨R, hR⟩ := newOK_get hnew h1 (by simpa using hk)
          exact .inr (out0_get hR)
      have hpin : ∀ k, k < n0 → nth ks k = k := fun k hk => by
        have := preB_get hpre hk
        rw [Nat.zero_add] at this
        exact nth_get this
      refine ⟨_, _, _, fun k => ν (nth ks k), h.symm, hrun, fun k hk => ?_, ?_, fun k R hk => ?_, fun k k' R R' b hk hk' hne hb => ?_, S.stp⟩
      · show ν (nth ks k) = ν0 k
        rw [hpin k hk]; exact (S.pin k hk).2
      · refine outV_rep ?_
        exact Reps.ren (ρ := nth ks) (N := (· < m)) (ν := ν) (m := ks.length) hN (fun w'' hs => hs.mono fun i _ hi => hOb i hi) _ us hlt (by rw [hback]; exact hr1)
      · obtain ⟨q, R1, h1, h2, rfl⟩ := hHout hk
        have hkl : k < ks.length := (List.getElem?_eq_some_iff.1 h1).1
        obtain ⟨R0, h0, hold⟩ := hthing q R1 (List.mem_of_getElem? h1) h2
        obtain ⟨r0, r1, r2⟩ := S.res q R0 h0
        obtain ⟨b1, b2⟩ := renR_back (R := R1) (allInH_get hinH (List.mem_of_getElem? h1) h2)
        refine ⟨?_, fun b hb => ?_⟩
        · refine Holds.ren (ρ := nth ks) (N := (· < m)) (ν := ν) (O := fun b => ownS (fun b => O b ∧ ¬ fblk ν0 F b) (fun k => hlk k H) ν b ∧ ¬ fblk ν vs b) (m := ks.length) hN (fun w'' hs => hs.mono fun i _ hi => hOb i hi) rfl b2 ?_
          rw [b1, nth_get h1]; exact hold
        · have hb : blk (ν (nth ks k)) = some b := hb
          rw [nth_get h1] at hb
          exact r2 b hb
      · obtain ⟨q, R1, h1, h2, rfl⟩ := hHout hk
        obtain ⟨q', R2, h3, h4, rfl⟩ := hHout hk'
        have hb : blk (ν (nth ks k)) = some b := hb
        show blk (ν (nth ks k')) ≠ some b
        rw [nth_get h1] at hb
        rw [nth_get h3]
        obtain ⟨R0, h0, _⟩ := hthing q R1 (List.mem_of_getElem? h1) h2
        obtain ⟨R0', h0', _⟩ := hthing q' R2 (List.mem_of_getElem? h3) h4
        refine S.dist q q' R0 R0' b h0 h0' ?_ hb
        rintro rfl
        exact hne ((List.getElem?_inj (List.getElem?_eq_some_iff.1 h1).1 hnd).1 (by rw [h1, h3]))
  · cases h
theorem semC_of {f : FuncId} {fn : Func} {c : Code} {fi : FI} {ins : List AV} {Hin : List Rs} {s : AV} {Hout : List (Option Rs)} (hT : TTok P T) (hf : P.funcs[f]? = some fn) (hb : fn.body = some c) (hlen : Nat.ble ins.length fn.ntmps = true)
    (h : ∀ g : Gx, g.n0 = Hin.length → Wc P I fn.ntmps g c (fun e m L H => (e = .normal ∨ e = .ret) ∧ finK T fi Hin.length fn.results.toList m L H = some (.ret s Hout)) Hin.length (argX 0 ins) (hOf 0 Hin)) : SemC P I f ins Hin s Hout := by
  intro ν O w args hG hin hP
  have hlen : ins.length ≤ fn.ntmps := by simpa using hlen
  have hl := hin.len
  refine calls_of_wp hf hb ?_
  have hsz : (args.toArray ++ Array.replicate (fn.ntmps - args.toArray.size) undef).size = fn.ntmps := by simp; omega
  have hF : (fun k => hlk k (hOf 0 Hin)) = fun k => flk k (idxF 0 Hin) := funext fun k => hlk_hOf Hin 0 k
  have hO : ∀ b, fblk ν (idxF 0 Hin) b → O b := by rintro b ⟨k, R, hk, hb⟩; exact (hP.res k R hk).2.2 b hb
  have hown : ownS (fun b => O b ∧ ¬ fblk ν (idxF 0 Hin) b) (fun k => flk k (idxF 0 Hin)) ν = O := by
    funext b
    refine propext ⟨fun hb => hb.elim (·.1) fun ⟨k, R, hk, h⟩ => hO b ⟨k, R, hk, h⟩, fun hb => ?_⟩
    rcases Classical.em (fblk ν (idxF 0 Hin) b) with h | h
    · exact .inr h
    · exact .inl ⟨hb, h⟩
  refine wp_mono (h ⟨w, fblk ν (idxF 0 Hin), fun b => O b ∧ ¬ fblk ν (idxF 0 Hin) b, Hin.length, ν⟩ rfl _ w ν ⟨hsz, rfl, Stp.refl _ _, fun b hb => ⟨hG.lt b hb.1, hb.2⟩, fun w' hs => hG.inv w' (by rw [hF, hown] at hs; exact hs), fun k hk => ⟨hk, rfl⟩, ?_, ?_, ?_⟩) ?_
  · intro t s hs
    rw [hF, hown]
    obtain ⟨_, hv⟩ := argX_lk _ _ _ _ hs
    simp only [Nat.sub_zero] at hv
    obtain ⟨u, hu, hr⟩ := hin.get hv
    have hlt : t < args.length := (List.getElem?_eq_some_iff.1 hu).1
    rw [Array.getD_eq_getD_getElem?, Array.getElem?_append_left (by simpa using hlt)]
    simpa [hu] using hr
  · intro k R hk
    rw [hF, hown]
    rw [hlk_hOf] at hk
    obtain ⟨h1, h2, h3⟩ := hP.res k R hk
    exact ⟨h1, h2, fun b hb => ⟨hG.lt b (h3 b hb), .inr ⟨k, R, hk, hb⟩⟩⟩
  · intro k k' R R' b h1 h2
    rw [hlk_hOf] at h1 h2
    exact hP.dist k k' R R' b h1 h2
  · rintro e a w' ⟨m', L', H', ν', ⟨he, q⟩, S'⟩
    obtain ⟨m', L', H', ν', q, S'⟩ := entK_ok rfl S' q
    obtain ⟨s1, H1, v, ν2, e1, hrun, ok⟩ := evRet_ok hT rfl hO S' q
    simp only [Rsp.ret.injEq] at e1
    obtain ⟨rfl, rfl⟩ := e1
    rcases he with rfl | rfl
    · exact ⟨S'.defers, v, hrun, ν2, ok⟩
    · exact ⟨S'.defers, v, hrun, ν2, ok⟩
end
end
end Go.Ax

namespace Go.Ax
open Go Go.RowKit Go.Eng
set_option linter.unusedVariables false
set_option linter.unusedSimpArgs false
section
variable {R : Type} {r : R} {T : TT} {hk : Nat → Option Rs} {m : Nat}
def Le {α : Type} (K K' : α → Option R) (r : R) : Prop := ∀ x, K x = some r → K' x = some r
theorem evK_mono {a : Option AV} {K K' : AV → Option R} (hK : Le K K' r) : evK a K = some r → evK a K' = some r := by
  unfold evK; intro h; split at h
  · exact hK _ h
  · cases h
theorem bind_mono {α : Type} {a : Option α} {K K' : α → Option R} (hK : Le K K' r) : a.bind K = some r → a.bind K' = some r := by
  intro h
  obtain ⟨x, h1, h2⟩ := Option.bind_eq_some_iff.1 h
  rw [h1]; exact hK _ h2
theorem bif_mono {c : Bool} {a a' b b' : Option R} (h1 : a = some r → a' = some r) (h2 : b = some r → b' = some r) : (bif c then a else b) = some r → (bif c then a' else b') = some r := by
  cases c
  · exact h2
  · exact h1
theorem shiftBy_mono {y : AV} {K K' : Nat → Option R} (hK : Le K K' r) : shiftBy y K = some r → shiftBy y K' = some r := by
  unfold shiftBy
  split
  · exact bif_mono id (hK _)
  all_goals first | exact hK _ | exact id
theorem evRem8_mono {op : BinOp} {a b : UInt8} {K K' : AV → Option R} (hK : Le K K' r) : evRem8 op a b K = some r → evRem8 op a b K' = some r := by
  unfold evRem8; split
  · exact bif_mono id (hK _)
  · exact id
theorem evBin_mono {bt e2 : Bool} {en : Nat} {bs : Bool} {op : BinOp} {x y : AV} {K K' : AV → Option R} (hK : Le K K' r) : evBin bt e2 en bs op x y K = some r → evBin bt e2 en bs op x y K' = some r := by
  unfold evBin
  split
  · refine shiftBy_mono fun c => ?_
    split <;> first | exact hK _ | exact id
  · refine shiftBy_mono fun c => ?_
    split <;> first | exact hK _ | exact id
  · repeat' split
    all_goals first | exact hK _ | exact id | exact bif_mono id (hK _) | exact bif_mono (hK _) id | exact bif_mono (hK _) (bif_mono (hK _) id) | exact bif_mono (hK _) (bif_mono (hK _) (evRem8_mono hK)) | exact bif_mono (bif_mono id (hK _)) id | skip
    all_goals refine bif_mono ?_ id; split <;> first | exact hK _ | exact id
theorem evConv_mono {d : Und} {x : AV} {K K' : AV → Option R} (hK : Le K K' r) : evConv d x K = some r → evConv d x K' = some r := by
  unfold evConv; split <;> first | exact hK _ | exact id
theorem evLoad_mono {t : TypeId} {x : Option AV} {K K' : Tr → Option R} (hK : Le K K' r) : evLoad T hk t x K = some r → evLoad T hk t x K' = some r := by
  unfold evLoad
  repeat' split
  all_goals first | exact hK _ | exact id | skip
  all_goals refine bif_mono (bind_mono fun x => ?_) id
  all_goals split <;> first | exact hK _ | exact id
theorem evStore_mono {t : TypeId} {x : Option AV} {y : Option (List AV)} {K K' : Tr → Option R} (hK : Le K K' r) : evStore T hk t x y K = some r → evStore T hk t x y K' = some r := by
  unfold evStore
  repeat' split
  all_goals first | exact hK _ | exact id | skip
  all_goals repeat' (first | exact hK _ | exact id | exact evK_mono (fun x => hK _) | exact bind_mono (fun x => hK _) | refine bif_mono ?_ ?_ | refine bind_mono fun x => ?_ | split)
theorem evFldA_mono {t : TypeId} {x : Option AV} {f : Nat} {K K' : Tr → Option R} (hK : Le K K' r) : evFldA T t x f K = some r → evFldA T t x f K' = some r := by
  unfold evFldA
  repeat' split
  all_goals first | exact hK _ | exact id | skip
  all_goals repeat' (first | exact hK _ | exact id | exact evK_mono (fun x => hK _) | exact bind_mono (fun x => hK _) | refine bif_mono ?_ ?_ | refine bind_mono fun x => ?_ | split)
theorem evBldS_mono {ev : Operand → Option AV} {t : TypeId} {n : Nat} {ps : List (Nat × Operand)} {K K' : Tr → Option R} (hK : Le K K' r) : evBldS T ev hk m t n ps K = some r → evBldS T ev hk m t n ps K' = some r := by
  unfold evBldS
  repeat' split
  all_goals first | exact hK _ | exact id | skip
  all_goals repeat' (first | exact hK _ | exact id | exact evK_mono (fun x => hK _) | exact bind_mono (fun x => hK _) | refine bif_mono ?_ ?_ | refine bind_mono fun x => ?_ | split)
theorem evMk_mono {t : TypeId} {l c : Option AV} {K K' : Tr → Option R} (hK : Le K K' r) : evMk T m t l c K = some r → evMk T m t l c K' = some r := by
  unfold evMk
  simp only [withB_eq]
  repeat' split
  all_goals first | exact hK _ | exact id | skip
  all_goals repeat' (first | exact hK _ | exact id | exact evK_mono (fun x => hK _) | exact bind_mono (fun x => hK _) | refine bif_mono ?_ ?_ | refine bind_mono fun x => ?_ | split)
theorem evIxA_mono {t : TypeId} {x : Option AV} {j : Option Int} {K K' : Tr → Option R} (hK : Le K K' r) : evIxA T hk t x j K = some r → evIxA T hk t x j K' = some r := by
  unfold evIxA
  repeat' split
  all_goals first | exact hK _ | exact id | skip
  all_goals repeat' (first | exact hK _ | exact id | exact evK_mono (fun x => hK _) | exact bind_mono (fun x => hK _) | refine bif_mono ?_ ?_ | refine bind_mono fun x => ?_ | split)
theorem evIx_mono {t : TypeId} {x : Option AV} {j : Option Int} {K K' : Tr → Option R} (hK : Le K K' r) : evIx T t x j K = some r → evIx T t x j K' = some r := by
  unfold evIx
  repeat' split
  all_goals first | exact hK _ | exact id | skip
  all_goals repeat' (first | exact hK _ | exact id | exact evK_mono (fun x => hK _) | exact bind_mono (fun x => hK _) | refine bif_mono ?_ ?_ | refine bind_mono fun x => ?_ | split)
theorem evCut_mono {t : TypeId} {x : AV} {F : Fp} {lo : Int} {hi mx : Option (Option Int)} {K K' : Tr → Option R} (hK : Le K K' r) : evCut T t x F lo hi mx K = some r → evCut T t x F lo hi mx K' = some r := by
  unfold evCut
  repeat' split
  all_goals first | exact hK _ | exact id | skip
  all_goals repeat' (first | exact hK _ | exact id | exact evK_mono (fun x => hK _) | exact bind_mono (fun x => hK _) | refine bif_mono ?_ ?_ | refine bind_mono fun x => ?_ | split)
theorem evLen_mono {t : TypeId} {x : Option AV} {K K' : Tr → Option R} (hK : Le K K' r) : evLen T t hk x K = some r → evLen T t hk x K' = some r := by
  unfold evLen
  repeat' split
  all_goals first | exact hK _ | exact id | skip
  all_goals repeat' (first | exact hK _ | exact id | exact evK_mono (fun x => hK _) | exact bind_mono (fun x => hK _) | refine bif_mono ?_ ?_ | refine bind_mono fun x => ?_ | split)
theorem evApp_mono {t : TypeId} {a : Option AV} {b : Option (AV × Fp)} {K K' : Tr → Option R} (hK : Le K K' r) : evApp T hk m t a b K = some r → evApp T hk m t a b K' = some r := by
  unfold evApp
  simp only [withB_eq]
  repeat' split
  all_goals first | exact hK _ | exact id | skip
  all_goals repeat' (first | exact hK _ | exact id | exact evK_mono (fun x => hK _) | exact bind_mono (fun x => hK _) | refine bif_mono ?_ ?_ | refine bind_mono fun x => ?_ | split)
theorem evView_mono {t : TypeId} {x : Option AV} {lo : Int} {hi : Option (Option Int)} {K K' : Tr → Option R} (hK : Le K K' r) : evView T hk t x lo hi K = some r → evView T hk t x lo hi K' = some r := by
  unfold evView
  repeat' split
  all_goals first | exact hK _ | exact id | skip
  all_goals repeat' (first | exact hK _ | exact id | refine bif_mono ?_ ?_ | split)
theorem evAppS_mono {t t' : TypeId} {a b : Option AV} {K K' : Tr → Option R} (hK : Le K K' r) : evAppS T hk m t t' a b K = some r → evAppS T hk m t t' a b K' = some r := by
  unfold evAppS
  repeat' split
  all_goals first | exact hK _ | exact id | skip
  all_goals repeat' (first | exact hK _ | exact id | refine bif_mono ?_ ?_ | split)
theorem evAppZ_mono {t t' : TypeId} {a b : Option AV} {K K' : Tr → Option R} (hK : Le K K' r) : evAppZ T hk m t t' a b K = some r → evAppZ T hk m t t' a b K' = some r := by
  unfold evAppZ
  repeat' split
  all_goals first | exact hK _ | exact id | skip
  all_goals repeat' (first | exact hK _ | exact id | refine bif_mono ?_ ?_ | split)
theorem evCpy_mono {t : TypeId} {a : Option AV} {b : Option (AV × Fp)} {K K' : Tr → Option R} (hK : Le K K' r) : evCpy T hk t a b K = some r → evCpy T hk t a b K' = some r := by
  unfold evCpy
  repeat' split
  all_goals first | exact hK _ | exact id | skip
  all_goals repeat' (first | exact hK _ | exact id | exact evK_mono (fun x => hK _) | exact bind_mono (fun x => hK _) | refine bif_mono ?_ ?_ | refine bind_mono fun x => ?_ | split)
theorem evOp_mono {ev : Operand → Option AV} {op : Op} {K K' : Tr → Option R} (hK : Le K K' r) : evOp T ev hk m op K = some r → evOp T ev hk m op K' = some r := by
  unfold evOp
  split
  all_goals first | exact evLoad_mono hK | exact evStore_mono hK | exact evFldA_mono hK | exact evBldS_mono hK | exact evMk_mono hK | exact evIxA_mono hK | exact evIx_mono hK | exact evK_mono (fun x => hK _) | skip
  all_goals repeat' (first | exact hK _ | exact id | exact evK_mono (fun x => hK _) | exact evLen_mono hK | exact evApp_mono hK | exact evAppS_mono hK | exact evAppZ_mono hK | exact evView_mono hK | exact evCpy_mono hK | exact evCut_mono hK | exact evBin_mono (fun x => hK _) | exact evConv_mono (fun x => hK _) | refine bif_mono ?_ ?_ | split)
end
end Go.Ax

namespace Go.Ax
noncomputable section
open Go Go.RowKit Go.Eng
set_option linter.unusedVariables false
set_option linter.unusedSimpArgs false
abbrev Orc := Req → Option Rsp
def OLe (Q Q' : Orc) : Prop := ∀ q r, Q q = some r → Q' q = some r
section
variable {R : Type} {r : R} {T : TT} {G : FT} {hk : Nat → Option Rs} {m : Nat} {Q Q' : Orc}
theorem evCall3_mono (hQ : OLe Q Q') {ro : Bool} {f : Nat} {vs : Fp} {al : List AV} {ks : List Nat} {K K' : Tr → Option R} (hK : Le K K' r) : evCall3 ro Q hk m f vs al ks K = some r → evCall3 ro Q' hk m f vs al ks K' = some r := by
  unfold evCall3
  split
  · refine bif_mono ?_ id
    simp only [forceL_eq, forceRL_eq]
    intro h
    obtain ⟨x, h1, h2⟩ := Option.bind_eq_some_iff.1 h
    rw [hQ _ _ h1]
    simp only [Option.bind_some]
    revert h2
    split
    · exact bif_mono (bif_mono (bif_mono (hK _) id) (bif_mono (hK _) (hK _))) id
    · exact id
  · exact id
theorem evCall_mono (hQ : OLe Q Q') {fx : Option AV} {args : Option (List AV)} {K K' : Tr → Option R} (hK : Le K K' r) : evCall G Q hk m fx args K = some r → evCall G Q' hk m fx args K' = some r := by
  unfold evCall
  split
  · split
    · simp only [forceL_eq, evCall2, forceNs_eq]
      exact bif_mono (evCall3_mono hQ hK) (evCall3_mono hQ hK)
    · exact id
  · exact id
theorem evAny_mono (hQ : OLe Q Q') {ev : Operand → Option AV} {op : Op} {K K' : Tr → Option R} (hK : Le K K' r) : evAny T G Q ev hk m op K = some r → evAny T G Q' ev hk m op K' = some r := by
  unfold evAny
  split
  · exact evCall_mono hQ hK
  · exact evOp_mono hK
theorem stepK_mono {d : Option Nat} {t : Tr} {L : LX} {H : HX} {K K' : Nat → LX → HX → Option R} (hK : ∀ m L H, K m L H = some r → K' m L H = some r) : stepK d t m L H K = some r → stepK d t m L H K' = some r := by
  rw [stepK_eq, stepK_eq]; exact hK _ _ _
theorem evOps_mono (hQ : OLe Q Q') {n : Nat} {ops : List Oper} {r : Rsp} : ∀ (l : List Oper) {m : Nat} {L : LX} {H : HX} {K K' : Nat → LX → HX → Option Rsp}, (∀ m L H, K m L H = some r → K' m L H = some r) → evOps T G Q n ops l m L H K = some r → evOps T G Q' n ops l m L H K' = some r := by
  intro l
  induction l with
  | nil => intro m L H K K' hK; exact hK _ _ _
  | cons o l ih =>
    intro m L H K K' hK
    rw [evOps, evOps]
    split
    · exact bif_mono (evAny_mono hQ fun t => stepK_mono fun m L H => ih hK) id
    · split
      · split
        · refine bif_mono (bif_mono (bif_mono (evAny_mono hQ fun t => stepK_mono fun m L H => ih hK) (ih hK)) (bif_mono (ih hK) (evAny_mono hQ fun t => stepK_mono fun m L H => ih hK))) id
        · exact bif_mono (ih hK) id
        · exact id
      · exact id
theorem evDrw_mono (hQ : OLe Q Q') {ops : List Oper} : ∀ (l : List Oper) {tr : List Tr} {m : Nat} {L : LX} {H : HX} {K K' : List Tr → Nat → LX → HX → Option R}, (∀ tr m L H, K tr m L H = some r → K' tr m L H = some r) → evDrw T G Q ops l tr m L H K = some r → evDrw T G Q' ops l tr m L H K' = some r := by
  intro l
  induction l with
  | nil => intro tr m L H K K' hK; exact hK _ _ _ _
  | cons o l ih =>
    intro tr m L H K K' hK
    rw [evDrw, evDrw]
    simp only [forceNs_eq, forceX_eq]
    split
    · exact evAny_mono hQ fun t => stepK_mono fun m L H => ih hK
    · split
      · split
        · refine bif_mono (bif_mono (evAny_mono hQ fun t => stepK_mono fun m L H => ih hK) (ih hK)) (bif_mono (ih hK) (evAny_mono hQ fun t => stepK_mono fun m L H => ih hK))
        · exact ih hK
        · exact id
      · exact id
theorem canon_mono {keep : List Nat} {n0 : Nat} {L : LX} {H : HX} {K K' : Nat → LX → HX → Option R} (hK : ∀ m L H, K m L H = some r → K' m L H = some r) : canon keep n0 L H K = some r → canon keep n0 L H K' = some r := by
  unfold canon
  simp only [forceX_eq, forceNs_eq, forceH_eq, addN_eq]
  exact bif_mono (hK _ _ _) id
theorem entK_mono {E : Plc} {n0 m : Nat} {L : LX} {H : HX} {K K' : Nat → LX → HX → Option R} (hK : ∀ m L H, K m L H = some r → K' m L H = some r) : entK E n0 m L H K = some r → entK E n0 m L H K' = some r := by
  unfold entK
  refine nilK_K (Z := fun a b => a = some r → b = some r) E.nils fun m L H => giveK_K (Z := fun a b => a = some r → b = some r) fun L H => ?_
  cases E.keep with
  | none => exact hK _ _ _
  | some keep => exact canon_mono hK
theorem evC_mono (hQ : OLe Q Q') {n f n0 : Nat} {keep : List (Plc × Plc)} {r : Rsp} : ∀ (c : Code) {k m : Nat} {L : LX} {H : HX} {K K' : Exit → Nat → LX → HX → Option Rsp}, (∀ e m L H, K e m L H = some r → K' e m L H = some r) → evC T G Q n f n0 keep c k m L H K = some r → evC T G Q' n f n0 keep c k m L H K' = some r := by
  intro c
  induction c with
  | skip => intro k m L H K K' hK; exact hK _ _ _ _
  | label l => intro k m L H K K' hK; exact hK _ _ _ _
  | exit id => intro k m L H K K' hK; exact hK _ _ _ _
  | ret => intro k m L H K K' hK; exact hK _ _ _ _
  | seq a b iha ihb =>
    intro k m L H K K' hK
    rw [evC, evC]
    refine iha fun e m L H => ?_
    cases e <;> first | exact ihb hK | exact hK _ _ _ _
  | cond x a b iha ihb =>
    intro k m L H K K' hK
    rw [evC, evC]
    split
    · exact bif_mono (iha hK) (ihb hK)
    · exact id
  | block id c ih =>
    intro k m L H K K' hK
    rw [evC, evC]
    refine ih fun e m L H => ?_
    cases e <;> first | exact bif_mono (hK _ _ _ _) (hK _ _ _ _) | exact hK _ _ _ _
  | region id ops b =>
    intro k m L H K K' hK
    cases b with
    | false => rw [evC, evC]; exact entK_mono fun m L H => evOps_mono hQ _ fun m L H => hK _ _ _ _
    | true => rw [evC, evC]; exact entK_mono fun m L H => evDrw_mono hQ _ fun tr m L H => bif_mono (hK _ _ _ _) _root_.id
  | loop c ih =>
    intro k m L H K K' hK
    rw [evC, evC, addN_eq, addN_eq, Nat.zero_add]
    split
    · refine entK_mono fun m L H h => ?_
      obtain ⟨x, h1, h2⟩ := Option.bind_eq_some_iff.1 h
      rw [hQ _ _ h1]
      simp only [Option.bind_some]
      revert h2
      split
      · exact hK _ _ _ _
      · exact id
    · exact id
  | _ => intro k m L H K K' hK h; simp only [evC] at h; cases h
end
abbrev CT := List (Nat × Func)
def cfk (k : Nat) : CT → Option Func
  | [] => none
  | (d, v) :: H => bif Nat.beq k d then some v else cfk k H
structure Env where
  T : TT
  G : FT
  C : CT
  ov : Orc
def bodyF (E : Env) (Q : Orc) (q : Req) : Option Rsp := match E.ov q with
  | some r => some r
  | none => match q with
    | .call f args H => (match cfk f E.C, filk f E.G with
      | some fn, some fi => (match fn.body with
        | some c => bif Nat.ble args.length fn.ntmps then addN 0 H.length fun n0 => evC E.T E.G Q fn.ntmps f n0 fi.keep c 0 n0 (argX 0 args) (hOf 0 H) fun e m L H' => (match e with
            | .normal => finK E.T fi n0 fn.results.toList m L H'
            | .ret => finK E.T fi n0 fn.results.toList m L H'
            | _ => none)
          else none
        | none => none)
      | _, _ => none)
    | .loop f k n0 m L H => (match cfk f E.C, filk f E.G with
      | some fn, some fi => (match fn.body, fi.keep[k]? with
        | some c, some kp => (match loopAt c k with
          | some b => evC E.T E.G Q fn.ntmps f n0 fi.keep b (k + 1) m L H fun e m L H => (match e with
            | .normal => entK kp.1 n0 m L H fun m L H => Q (.loop f k n0 m L H)
            | e => entK kp.2 n0 m L H fun m L H => some (.fin e m L H))
          | none => none)
        | _, _ => none)
      | _, _ => none)
theorem bodyF_mono (E : Env) {Q Q' : Orc} (hQ : OLe Q Q') : OLe (bodyF E Q) (bodyF E Q') := by
  intro q r
  unfold bodyF
  split
  · exact id
  · split
    · split
      · split
        · simp only [addN_eq]
          refine bif_mono (evC_mono hQ _ fun e m L H => ?_) id
          exact id
        · exact id
      · exact id
    · split
      · split
        · split
          · refine evC_mono hQ _ fun e m L H => ?_
            cases e <;> first | exact entK_mono fun m L H => hQ _ _ | exact id
          · exact id
        · exact id
      · exact id
def F (E : Env) (q : Req) : Option Rsp := bodyF E (F E) q
partial_fixpoint monotonicity by
  intro F1 F2 h q
  have hQ : OLe F1 F2 := fun q r hq => by
    have hr := h q
    generalize F2 q = z at hr ⊢
    generalize F1 q = y at hr hq
    subst hq
    cases hr
    rfl
  have hm := bodyF_mono E hQ q
  dsimp only
  generalize bodyF E F2 q = z at hm ⊢
  generalize bodyF E F1 q = y at hm ⊢
  cases y with
  | none => exact .bot
  | some r => rw [hm r rfl]; exact .refl
def SemQ (P : Program) (I : World → Prop) (E : Env) (q : Req) (r : Rsp) : Prop := match q, r with
  | .call f args Hin, .ret s H => SemC P I f args Hin s H
  | .loop f k n0 m L H, .fin e m' L' H' => ∀ fn c b, cfk f E.C = some fn → fn.body = some c → loopAt c k = some b → SemL P I fn.ntmps b n0 m L H e m' L' H'
  | _, _ => True
structure EnvOK (P : Program) (I : World → Prop) (E : Env) : Prop where
  hT : TTok P E.T
  hG : FTok P E.G
  hC : ∀ f fn, cfk f E.C = some fn → P.funcs[f]? = some fn
  hx : P.follows .mixedOrders = true
  ov : ∀ q r, E.ov q = some r → SemQ P I E q r
theorem loopAt_lt : ∀ (c : Code) {k : Nat} {b : Code}, loopAt c k = some b → k < nloops c := by
  intro c
  induction c with
  | seq x y ihx ihy =>
    intro k b h
    simp only [loopAt] at h
    simp only [nloops]
    cases hb : Nat.blt k (nloops x) with
    | true => have : k < nloops x := by simpa using hb
              omega
    | false => rw [hb] at h; have := ihy h; omega
  | cond t x y ihx ihy =>
    intro k b h
    simp only [loopAt] at h
    simp only [nloops]
    cases hb : Nat.blt k (nloops x) with
    | true => have : k < nloops x := by simpa using hb
              omega
    | false => rw [hb] at h; have := ihy h; omega
  | block id x ih => intro k b h; exact ih h
  | loop x ih =>
    intro k b h
    simp only [loopAt] at h
    simp only [nloops]
    cases hb : Nat.beq k 0 with
    | true => have : k = 0 := beqN hb
              omega
    | false => rw [hb] at h; have := ih h; omega
  | _ => intro k b h; cases h
theorem loopAt_in : ∀ (c : Code) {k : Nat} {b : Code}, loopAt c k = some b → ∀ j c', loopAt b j = some c' → loopAt c (k + 1 + j) = some c' := by
  intro c
  induction c with
  | seq x y ihx ihy =>
    intro k b h j c' hj
    simp only [loopAt] at h ⊢
    cases hb : Nat.blt k (nloops x) with
    | true =>
      rw [hb] at h
      have h1 := ihx h j c' hj
      have : Nat.blt (k + 1 + j) (nloops x) = true := by simpa using loopAt_lt x h1
      rw [this]; exact h1
    | false =>
      rw [hb] at h
      have hk : nloops x ≤ k := by
        rcases Nat.lt_or_ge k (nloops x) with h1 | h1
        · have : Nat.blt k (nloops x) = true := by simpa using h1
          rw [this] at hb; cases hb
        · exact h1
      have : Nat.blt (k + 1 + j) (nloops x) = false := by rw [show k + 1 + j = nloops x + (k + 1 + j - nloops x) from by omega]; exact blt_no _ _
      rw [this]
      have h1 := ihy h j c' hj
      rw [show k + 1 + j - nloops x = k - nloops x + 1 + j from by omega]; exact h1
  | cond t x y ihx ihy =>
    intro k b h j c' hj
    simp only [loopAt] at h ⊢
    cases hb : Nat.blt k (nloops x) with
    | true =>
      rw [hb] at h
      have h1 := ihx h j c' hj
      have : Nat.blt (k + 1 + j) (nloops x) = true := by simpa using loopAt_lt x h1
      rw [this]; exact h1
    | false =>
      rw [hb] at h
      have hk : nloops x ≤ k := by
        rcases Nat.lt_or_ge k (nloops x) with h1 | h1
        · have : Nat.blt k (nloops x) = true := by simpa using h1
          rw [this] at hb; cases hb
        · exact h1
      have : Nat.blt (k + 1 + j) (nloops x) = false := by rw [show k + 1 + j = nloops x + (k + 1 + j - nloops x) from by omega]; exact blt_no _ _
      rw [this]
      have h1 := ihy h j c' hj
      rw [show k + 1 + j - nloops x = k - nloops x + 1 + j from by omega]; exact h1
  | block id x ih => intro k b h j c' hj; exact ih h j c' hj
  | loop x ih =>
    intro k b h j c' hj
    simp only [loopAt] at h ⊢
    have h0 : Nat.beq (k + 1 + j) 0 = false := by rw [Bool.eq_false_iff]; intro e; have := beqN e; omega
    rw [h0]
    cases hb : Nat.beq k 0 with
    | true =>
      have hk : k = 0 := beqN hb
      rw [hb] at h
      obtain rfl := Option.some.inj h
      subst hk
      rw [show 0 + 1 + j - 1 = j from by omega]; exact hj
    | false =>
      rw [hb] at h
      have hk : k ≠ 0 := fun e => by subst e; simp at hb
      have := ih h j c' hj
      rw [show k + 1 + j - 1 = k - 1 + 1 + j from by omega]; exact this
  | _ => intro k b h; cases h
section
variable {P : Program} {I : World → Prop} {E : Env}
theorem F_ok (h : EnvOK P I E) : ∀ q r, F E q = some r → SemQ P I E q r := by
  refine F.partial_correctness E _ fun Q hQ q r hr => ?_
  have hq : QOK P I Q := fun f args Hin s H h => hQ _ _ h
  cases ho : E.ov q with
  | some r' =>
    simp only [bodyF, ho] at hr
    obtain rfl := Option.some.inj hr
    exact h.ov _ _ ho
  | none =>
    cases q with
    | call f args H =>
      simp only [bodyF, ho] at hr
      split at hr
      · rename_i fn fi hc hfi
        split at hr
        · rename_i c hb
          cases hlen : Nat.ble args.length fn.ntmps with
          | false => rw [hlen] at hr; cases hr
          | true =>
            rw [hlen] at hr
            simp only [cond_true, addN_eq, Nat.zero_add] at hr
            have hS : ∀ s Hout, r = .ret s Hout → SemC P I f args H s Hout := by
              rintro s Hout rfl
              refine semC_of (fi := fi) h.hT (h.hC _ _ hc) hb hlen fun g hg => ?_
              refine evC_ok (tab := fun j => loopAt c j) h.hT h.hG hq h.hx hg (fun k b m L H' e m' L' H'' hk hl => ?_) c 0 _ _ _ _ _ (fun j c' hj _ => by rw [Nat.zero_add]; exact hj) hr (fun e m L H' hK => ?_)
              · exact hQ _ _ hl fn c b hc hb hk
              · cases e with
                | normal => exact ⟨.inl rfl, hK⟩
                | ret => exact ⟨.inr rfl, hK⟩
                | _ => cases hK
            cases r with
            | ret s Hout => exact hS s Hout rfl
            | fin e m L H => trivial
        · cases hr
      · cases hr
    | loop f k n0 m L H =>
      simp only [bodyF, ho] at hr
      split at hr
      · rename_i fn fi hc hfi
        split at hr
        · rename_i c kp hb hkp
          split at hr
          · rename_i b hk
            cases r with
            | ret s Hout => trivial
            | fin e m' L' H' =>
              intro fn' c' b' hc' hb' hk'
              rw [hc] at hc'; obtain rfl := Option.some.inj hc'
              rw [hb] at hb'; obtain rfl := Option.some.inj hb'
              rw [hk] at hk'; obtain rfl := Option.some.inj hk'
              intro g hg a w ν S
              refine LoopW.unroll ?_
              have hfs := evC_ok (n := fn.ntmps) (f := f) (keep := fi.keep) (tab := fun j => loopAt c j) (Φ := fun e1 m1 L1 H1 => (match e1 with
                | .normal => entK kp.1 n0 m1 L1 H1 fun m L H => Q (.loop f k n0 m L H)
                | e => entK kp.2 n0 m1 L1 H1 fun m L H => some (Rsp.fin e m L H)) = some (Rsp.fin e m' L' H')) h.hT h.hG hq h.hx hg (fun k b m L H' e m' L' H'' hk hl => hQ _ _ hl fn c b hc hb hk) b (k + 1) m L H _ (fun j c' hj _ => loopAt_in c hk j c' hj) hr (fun e m L H' hK => hK) a w ν S
              have out : ∀ (e1 : Exit) m1 L1 H1 a1 w1 ν1, (entK kp.2 n0 m1 L1 H1 fun m L H => some (Rsp.fin e1 m L H)) = some (Rsp.fin e m' L' H') → SatL I fn.ntmps g m1 L1 H1 a1 w1 ν1 → liftX I fn.ntmps g (fun e1 m1 L1 H1 => e1 = e ∧ m1 = m' ∧ L1 = L' ∧ H1 = H') e1 a1 w1 := by
                intro e1 m1 L1 H1 a1 w1 ν1 hc1 S1
                obtain ⟨m2, L2, H2, ν2, g1, g2⟩ := entK_ok hg S1 hc1
                simp only [Option.some.injEq, Rsp.fin.injEq] at g1
                obtain ⟨rfl, rfl, rfl, rfl⟩ := g1
                exact ⟨_, _, _, _, ⟨rfl, rfl, rfl, rfl⟩, g2⟩
              refine wp_mono hfs ?_
              rintro e1 a1 w1 ⟨m1, L1, H1, ν1, q, S1⟩
              cases e1 with
              | normal =>
                obtain ⟨m2, L2, H2, ν2, g1, g2⟩ := entK_ok hg S1 q
                exact hQ _ _ g1 fn c b hc hb hk g hg a1 w1 _ g2
              | _ => exact out _ _ _ _ _ _ _ q S1
          · cases hr
        · cases hr
      · cases hr
theorem F_call (h : EnvOK P I E) {f : FuncId} {args : List AV} {Hin : List Rs} {s : AV} {Hout : List (Option Rs)} (hF : F E (.call f args Hin) = some (.ret s Hout)) : SemC P I f args Hin s Hout := F_ok h _ _ hF
end
end
end Go.Ax

namespace Go.Ax
open Go Go.RowKit Go.Eng
set_option linter.unusedVariables false
set_option linter.unusedSimpArgs false
def avEq : AV → AV → Bool
  | .un, .un => true
  | .b x, .b y => x == y
  | .i x, .i y => decide (x = y)
  | .u8 x, .u8 y => decide (x = y)
  | .u32 x, .u32 y => decide (x = y)
  | .u64 x, .u64 y => decide (x = y)
  | .str x, .str y => decide (x = y)
  | .nil, .nil => true
  | _, _ => false
theorem avEq_eq {a b : AV} (h : avEq a b = true) : a = b := by
  unfold avEq at h
  split at h <;> simp_all
def avEqL : List AV → List AV → Bool
  | [], [] => true
  | a :: l, b :: m => avEq a b && avEqL l m
  | _, _ => false
theorem avEqL_eq : ∀ {a b : List AV}, avEqL a b = true → a = b
  | [], [], _ => rfl
  | a :: l, b :: m, h => by simp only [avEqL, Bool.and_eq_true] at h; rw [avEq_eq h.1, avEqL_eq h.2]
  | [], _ :: _, h => by cases h
  | _ :: _, [], h => by cases h
def undB (P : Program) (t : TypeId) (i : TI) : Bool := match i.u, P.underlying t with
  | .bool, some .bool => true
  | .i64, some (.int .i64) => true
  | .u8, some (.int .u8) => true
  | .u32, some (.int .u32) => true
  | .u64, some (.int .u64) => true
  | .str, some .string => true
  | .sl e, some (.slice e') => Nat.beq e e'
  | .fld pl sc, some (.struct _) => (match plOf P t, scOf P t with | some pl', some sc' => decide (pl' = pl) && decide (sc' = sc) | _, _ => false)
  | .arr n e, some (.array n' e') => Nat.beq n n' && Nat.beq e e'
  | .ptr e, some (.pointer e') => Nat.beq e e'
  | .oth, some d => plainT d
  | _, _ => false
def infB (P : Program) (t : TypeId) (i : TI) : Bool := match P.info? t with
  | some ti => (match ti.zero with
    | some z => avEqL (z.cells.toList.map AV.of) i.zero && Nat.beq z.cells.size i.size && z.cells.toList.all (·.oneCell')
    | none => false) && Nat.beq ti.size i.size && Nat.beq ti.bytes i.bytes && Nat.blt 0 i.bytes
  | none => false
def eq2B (P : Program) (t : TypeId) : Bool := match P.underlying t with
  | some (.array n e) => Nat.beq n 2 && (match P.underlying e with | some (.int .i64) => true | _ => false) && (match P.info? e with | some i => Nat.beq i.size 1 | none => false) && !P.eqGuardType P.depth t
  | _ => false
def eqnB (P : Program) (t : TypeId) (n : Nat) : Bool := match P.underlying t with
  | some (.struct fs) => !P.stoodInHeld t && fs.toList.all (fun f => (match decEq f.name "_" with | isTrue _ => false | isFalse _ => true) && (match P.underlying f.type with | some (.int .i64) => true | _ => false)) && decide (fs.toList.map (·.offset) = List.range' 0 n) && !P.eqGuardType P.depth t
  | _ => false
theorem eqnB_ok {P : Program} {t : TypeId} {n : Nat} (h : eqnB P t n = true) : E6 P t n := by
  unfold eqnB at h
  split at h
  · rename_i fs hu
    simp only [Bool.and_eq_true, Bool.not_eq_true', decide_eq_true_eq, List.all_eq_true] at h
    obtain ⟨⟨⟨h1, h2⟩, h3⟩, h4⟩ := h
    have hfs : P.fieldsOf t = fs := by unfold Program.fieldsOf; rw [hu]
    refine ⟨by rw [hfs]; exact hu, h1, fun f hf => ?_, by rw [hfs]; exact h3, h4⟩
    rw [hfs] at hf
    obtain ⟨h5, h6⟩ := h2 f hf
    refine ⟨?_, ?_⟩
    · split at h5
      · cases h5
      · assumption
    · split at h6
      · assumption
      · cases h6
  · cases h
def tokB (P : Program) (t : TypeId) (i : TI) : Bool := undB P t i && infB P t i && (match i.ty with | some τ => Nat.beq τ.n i.size | none => true) && (!i.eq2 || eq2B P t) && (!Nat.blt 0 i.eqn || eqnB P t i.eqn)
theorem tokB_ok {P : Program} {t : TypeId} {i : TI} (h : tokB P t i = true) : TOK P t i := by
  simp only [tokB, Bool.and_eq_true] at h
  obtain ⟨⟨⟨⟨h1, h2⟩, h3⟩, h4⟩, hq⟩ := h
  have hq : 0 < i.eqn → E6 P t i.eqn := fun h0 => by
    have h0 : Nat.blt 0 i.eqn = true := by simpa using h0
    rw [h0] at hq
    exact eqnB_ok (by simpa using hq)
  have hu : (match i.u with
    | .bool => P.underlying t = some .bool
    | .i64 => P.underlying t = some (.int .i64)
    | .u8 => P.underlying t = some (.int .u8)
    | .u32 => P.underlying t = some (.int .u32)
    | .u64 => P.underlying t = some (.int .u64)
    | .str => P.underlying t = some .string
    | .sl el => P.underlying t = some (.slice el)
    | .fld pl sc => plOf P t = some pl ∧ scOf P t = some sc
    | .arr n el => P.underlying t = some (.array n el)
    | .ptr el => P.underlying t = some (.pointer el)
    | .oth => ∃ d, P.underlying t = some d ∧ plainT d = true) := by
    unfold undB at h1
    split at h1
    case _ hu hp => rw [hu]; exact hp
    case _ hu hp => rw [hu]; exact hp
    case _ hu hp => rw [hu]; exact hp
    case _ hu hp => rw [hu]; exact hp
    case _ hu hp => rw [hu]; exact hp
    case _ hu hp => rw [hu]; exact hp
    case _ hu hp => rw [hu]; simp only; rw [beqN h1]; exact hp
    case _ hu hp =>
      rw [hu]
      simp only
      split at h1
      · rename_i pl' sc' e1 e2
        simp only [Bool.and_eq_true, decide_eq_true_eq] at h1
        exact ⟨e1.trans (by rw [h1.1]), e2.trans (by rw [h1.2])⟩
      · cases h1
    case _ hu hp =>
      rw [hu]
      simp only
      simp only [Bool.and_eq_true] at h1
      rw [beqN h1.1, beqN h1.2]; exact hp
    case _ hu hp => rw [hu]; simp only; rw [beqN h1]; exact hp
    case _ hu hp => rw [hu]; exact ⟨_, hp, h1⟩
    case _ => cases h1
  unfold infB at h2
  split at h2
  · rename_i ti hi
    simp only [Bool.and_eq_true] at h2
    obtain ⟨⟨⟨h5, h6⟩, h7⟩, h8⟩ := h2
    split at h5
    · rename_i z hz
      simp only [Bool.and_eq_true] at h5
      obtain ⟨⟨h9, h10⟩, h11⟩ := h5
      refine ⟨hu, by rw [hi]; simp only [Option.map_some, beqN h6], ⟨z, ?_, avEqL_eq h9, beqN h10, h11, by simpa using h8⟩, fun τ hτ => ?_, fun he => ?_, hq⟩
      · rw [hi]; simp only [Option.map_some, hz, beqN h6, beqN h7]
      · rw [hτ] at h3; exact beqN h3
      · rw [he] at h4
        simp only [Bool.not_true, Bool.false_or] at h4
        unfold eq2B at h4
        split at h4
        · rename_i n e hp
          simp only [Bool.and_eq_true, Bool.not_eq_true'] at h4
          obtain ⟨⟨⟨g1, g2⟩, g3⟩, g4⟩ := h4
          split at g2
          · rename_i g2'
            split at g3
            · rename_i ie g3'
              have hs := beqN g3
              refine ⟨e, by rw [hp, beqN g1], g2', by rw [g3']; simp only [Option.map_some, hs], by simp [Program.cellsOf, g3', hs], g4⟩
            · cases g3
          · cases g2
        · cases h4
    · cases h5
  · cases h2
def ttB (P : Program) : TT → Bool
  | [] => true
  | (t, i) :: r => tokB P t i && ttB P r
theorem ttB_ok {P : Program} : ∀ {T : TT}, ttB P T = true → TTok P T
  | [], _, t, i, h => by cases h
  | (d, v) :: r, h, t, i, ht => by
    simp only [ttB, Bool.and_eq_true] at h
    simp only [tlk] at ht
    cases hb : Nat.beq t d with
    | true => rw [hb] at ht; rw [beqN hb, ← Option.some.inj ht]; exact tokB_ok h.1
    | false => rw [hb] at ht; exact ttB_ok h.2 t i ht
inductive CTok (P : Program) : CT → Prop
  | nil : CTok P []
  | cons {d : Nat} {v : Func} {C : CT} : P.funcs[d]? = some v → CTok P C → CTok P ((d, v) :: C)
theorem CTok.get {P : Program} {C : CT} (h : CTok P C) : ∀ f fn, cfk f C = some fn → P.funcs[f]? = some fn := by
  induction h with
  | nil => intro f fn h; cases h
  | @cons d v C h1 _ ih =>
    intro f fn h
    simp only [cfk] at h
    cases hb : Nat.beq f d with
    | true => rw [hb] at h; rw [beqN hb, ← Option.some.inj h]; exact h1
    | false => rw [hb] at h; exact ih f fn h
inductive EntL (P : Program) : FT → Prop
  | nil : EntL P []
  | cons {d : Nat} {v : FI} {C : FT} : Ent P d → EntL P C → EntL P ((d, v) :: C)
theorem FTok_of {P : Program} {G : FT} (h : EntL P G) : FTok P G := by
  induction h with
  | nil => intro f fn h; cases h
  | @cons d v C h1 _ ih =>
    intro f fn h
    simp only [filk] at h
    cases hb : Nat.beq f d with
    | true => rw [beqN hb]; exact h1
    | false => rw [hb] at h; exact ih f fn h
end Go.Ax

namespace Go.Ax
open Go Go.RowKit Go.Eng
set_option linter.unusedVariables false
set_option linter.unusedSimpArgs false
theorem wrap64 {n : Int} (h : -9223372036854775808 ≤ n ∧ n ≤ 9223372036854775807) : IntKind.i64.wrap n = n := by
  have e1 : (2 : Int) ^ IntKind.i64.bits = 18446744073709551616 := rfl
  have e2 : (2 : Int) ^ (IntKind.i64.bits - 1) = 9223372036854775808 := rfl
  have e3 : IntKind.i64.signed = true := rfl
  unfold IntKind.wrap
  simp only [e1, e2, e3, Bool.true_and, decide_eq_true_eq]
  split <;> omega
theorem iadd_eq {a b : Int} (h : -9223372036854775808 ≤ a + b ∧ a + b ≤ 9223372036854775807) : iadd a b = a + b := by rw [iadd_d]; exact wrap64 h
theorem isub_eq {a b : Int} (h : -9223372036854775808 ≤ a - b ∧ a - b ≤ 9223372036854775807) : isub a b = a - b := by rw [isub_d]; exact wrap64 h
theorem imul_eq {a b : Int} (h : -9223372036854775808 ≤ a * b ∧ a * b ≤ 9223372036854775807) : imul a b = a * b := by rw [imul_d]; exact wrap64 h
theorem ieq_t {a b : Int} (h : a = b) : ieq a b = true := by simp [ieq_d, ieq0, h]
theorem ieq_f {a b : Int} (h : a ≠ b) : ieq a b = false := by simp [ieq_d, ieq0, h]
theorem ine_t {a b : Int} (h : a ≠ b) : ine a b = true := by simp [ine_d, ine0, h]
theorem ine_f {a b : Int} (h : a = b) : ine a b = false := by simp [ine_d, ine0, h]
theorem ilt_t {a b : Int} (h : a < b) : ilt a b = true := by simp [ilt_d, ilt0, h]
theorem ilt_f {a b : Int} (h : b ≤ a) : ilt a b = false := by simp [ilt_d, ilt0]; omega
theorem ile_t {a b : Int} (h : a ≤ b) : ile a b = true := by simp [ile_d, ile0, h]
theorem ile_f {a b : Int} (h : b < a) : ile a b = false := by simp [ile_d, ile0]; omega
theorem of_ieq_t {a b : Int} (h : ieq a b = true) : a = b := by simpa [ieq_d, ieq0] using h
theorem of_ieq_f {a b : Int} (h : ieq a b = false) : a ≠ b := by simpa [ieq_d, ieq0] using h
theorem of_ine_t {a b : Int} (h : ine a b = true) : a ≠ b := by simpa [ine_d, ine0] using h
theorem of_ine_f {a b : Int} (h : ine a b = false) : a = b := by simpa [ine_d, ine0] using h
theorem of_ilt_t {a b : Int} (h : ilt a b = true) : a < b := by simpa [ilt_d, ilt0] using h
theorem of_ilt_f {a b : Int} (h : ilt a b = false) : b ≤ a := by simpa [ilt_d, ilt0] using h
theorem of_ile_t {a b : Int} (h : ile a b = true) : a ≤ b := by simpa [ile_d, ile0] using h
theorem of_ile_f {a b : Int} (h : ile a b = false) : b < a := by simpa [ile_d, ile0] using h
theorem llen_eq {α : Type} (l : List α) : llen l = (l.length : Int) := by rw [llen_d]; rfl
theorem lapp_eq {α : Type} (l m : List α) : lapp l m = l ++ m := by rw [lapp_d]; rfl
theorem lcpy_eq {α : Type} (l m : List α) : lcpy l m = m.take l.length ++ l.drop m.length := by rw [lcpy_d]; rfl
theorem lrep_eq {α : Type} (n : Int) (a : α) : lrep n a = List.replicate n.toNat a := by rw [lrep_d]; rfl
theorem lset_eq {α : Type} (l : List α) (i : Int) (a : α) : lset l i a = l.set i.toNat a := by rw [lset_d]; rfl
theorem lget_s {α : Type} {l : List α} {i : Int} {a : α} (h : 0 ≤ i) (h2 : l[i.toNat]? = some a) : lget l i = some a := by rw [lget_d, lget0, if_pos h]; exact h2
theorem lget_nat {α : Type} (l : List α) (i : Nat) : lget l (i : Int) = l[i]? := by rw [lget_d, lget0, if_pos (by omega)]; rfl
theorem linb_t {α : Type} {l : List α} {i : Int} (h : 0 ≤ i ∧ i < l.length) : linb l i = true := by simp only [linb_d, linb0, decide_eq_true_eq]; exact h
theorem lcut_s {α : Type} {l : List α} {lo hi : Int} (h : 0 ≤ lo ∧ lo ≤ hi ∧ hi ≤ l.length) : lcut l lo hi = some ((l.drop lo.toNat).take (hi - lo).toNat) := by rw [lcut_d, lcut0, if_pos h]
theorem fits_t {α : Type} {l : List α} {b : Nat} (h : l.length * b ≤ 140737488355328) : fits l b = true := by simp only [fits_d, fits0, decide_eq_true_eq]; exact h
theorem fitn_t {n : Int} {b : Nat} (h : 0 ≤ n ∧ b * n.toNat ≤ 281474976710656) : fitn n b = true := by simp only [fitn_d, fitn0, decide_eq_true_eq]; exact h
theorem bnot_eq (a : Bool) : bnot a = !a := by rw [bnot_d]; rfl
theorem and_eq (a b : Bool) : and' a b = (a && b) := by rw [and_d]; rfl
theorem u8i_eq (a : UInt8) : u8i a = (a.toNat : Int) := by rw [u8i_d]; rfl
theorem iu8_eq (a : Int) : iu8 a = UInt8.ofInt a := by rw [iu8_d]; rfl
theorem iu64_eq (a : Int) : iu64 a = UInt64.ofInt a := by rw [iu64_d]; rfl
theorem u64u8_eq (a : UInt64) : u64u8 a = a.toUInt8 := by rw [u64u8_d]; rfl
theorem u8u64_eq (a : UInt8) : u8u64 a = a.toUInt64 := by rw [u8u64_d]; rfl
theorem u64i_eq {a : UInt64} (h : a.toNat ≤ 9223372036854775807) : u64i a = (a.toNat : Int) := by rw [u64i_d]; exact wrap64 (by omega)
theorem u64_ofInt {c : Int} (h : 0 ≤ c ∧ c < 18446744073709551616) : (UInt64.ofInt c).toNat = c.toNat := by
  have h1 : UInt64.ofInt c = UInt64.ofNat c.toNat := by
    unfold UInt64.ofInt
    congr 1
    rw [Int.emod_eq_of_lt h.1 (by omega)]
  rw [h1, UInt64.toNat_ofNat', Nat.mod_eq_of_lt (by omega)]
theorem u64shr_eq {a : UInt64} {c : Nat} (h : c < 64) : u64shr a c = a >>> UInt64.ofNat c := by
  apply UInt64.toNat_inj.1
  rw [u64shr_d]; unfold u64shr0
  rw [UInt64.toNat_shiftRight, Nat.shiftRight_eq_div_pow, UInt64.toNat_ofNat', UInt64.toNat_ofNat', Nat.min_eq_left (by omega)]
  have h2 : c % 2 ^ 64 % 64 = c := by omega
  rw [h2]
  have := a.toNat_lt
  exact Nat.mod_eq_of_lt (Nat.lt_of_le_of_lt (Nat.div_le_self _ _) this)
theorem u64shl_eq {a : UInt64} {c : Nat} (h : c < 64) : u64shl a c = a <<< UInt64.ofNat c := by
  rw [u64shl_d]; unfold u64shl0
  apply UInt64.toNat_inj.1
  rw [Nat.min_eq_left (by omega), UInt64.toNat_shiftLeft, Nat.shiftLeft_eq, UInt64.toNat_ofNat']
  have h2 : c % 2 ^ 64 % 64 = c := by omega
  rw [h2]
  have h3 : (a.toNat : Int) * 2 ^ c = ((a.toNat * 2 ^ c : Nat) : Int) := by simp
  rw [h3]
  have h4 : ((a.toNat * 2 ^ c : Nat) : Int) % 2 ^ 64 = (((a.toNat * 2 ^ c) % 2 ^ 64 : Nat) : Int) := by simp
  unfold UInt64.ofInt
  rw [h4, Int.toNat_natCast, UInt64.toNat_ofNat', Nat.mod_mod]
theorem u64or_eq (a b : UInt64) : u64op .or a b = a ||| b := by rw [u64op_d]; rfl
theorem u64gt_t {a b : UInt64} (h : b.toNat < a.toNat) : u64cmp .gtr a b = true := by rw [u64cmp_d]; simp [u64cmp0, cmpB]; omega
theorem u64gt_f {a b : UInt64} (h : a.toNat ≤ b.toNat) : u64cmp .gtr a b = false := by rw [u64cmp_d]; simp [u64cmp0, cmpB]; omega
theorem ishl8 (a : UInt8) : ishl (a.toNat : Int) 8 = (a.toNat : Int) * 2 ^ (8 : Int).toNat := by
  have := a.toNat_lt
  rw [ishl_d]; unfold ishl0
  rw [show min 8 64 = 8 from rfl, show (2 : Int) ^ (8 : Int).toNat = 256 from rfl, show (2 : Int) ^ 8 = 256 from rfl]
  exact wrap64 (by omega)
theorem ior_eq (a b : Int) : ibit .or a b = bits .or .i64 a b := by rw [ibit_d]; rfl
end Go.Ax

namespace Go.Ax
open Go Go.Eng Go.RowKit
set_option linter.unusedVariables false
def beB : Nat → UInt64 → List UInt8
  | 0, _ => []
  | k + 1, x => (x >>> UInt64.ofNat (8 * k)).toUInt8 :: beB k x
theorem beB_len (k : Nat) (x : UInt64) : (beB k x).length = k := by induction k with | zero => rfl | succ k ih => simp [beB, ih]
def uintB (b : List UInt8) (size n : Int) : List UInt8 := if size < 1 ∨ 8 < size then b else b ++ beB size.toNat (UInt64.ofInt n)
theorem uintB_len (b : List UInt8) (size n : Int) : (uintB b size n).length ≤ b.length + 8 := by
  unfold uintB; split
  · omega
  · simp [beB_len]; omega
def blobB (b x : List UInt8) : List UInt8 := uintB b 2 ((x.take 65535).length : Int) ++ x.take 65535
theorem or_bytes (x y : UInt8) : bits .or .i64 ((x.toNat : Int) * 2 ^ (8 : Int).toNat) (y.toNat : Int) = ((x.toNat * 256 + y.toNat : Nat) : Int) := by
  have hx := x.toNat_lt
  have hy := y.toNat_lt
  have h := bits_i64_or (x.toNat * 256) y.toNat (by omega) (by omega)
  rw [show ((x.toNat : Int) * 2 ^ (8 : Int).toNat) = ((x.toNat * 256 : Nat) : Int) from by simp, h]
  have := Nat.shiftLeft_add_eq_or_of_lt (i := 8) (show y.toNat < 2 ^ 8 by omega) x.toNat
  rw [Nat.shiftLeft_eq] at this
  rw [← this]
def beN (l : List UInt8) : UInt64 := l.foldl (fun n x => n <<< 8 ||| x.toUInt64) 0
def takeS (b : List UInt8) (at' : Nat) (n : Nat) : List UInt8 × Int := if b.length < at' + n then ([], 2) else ((b.drop at').take n, 0)
def rdU (b : List UInt8) (at' : Nat) (e size : Int) : Int × Nat × Int :=
  if e ≠ 0 then (0, at', e) else if size < 1 ∨ 8 < size then (0, at', 1) else if b.length < at' + size.toNat then (0, at', 2)
  else if 9223372036854775807 < (beN ((b.drop at').take size.toNat)).toNat then (0, at', 4) else ((beN ((b.drop at').take size.toNat)).toNat, at' + size.toNat, 0)
def rdR (b : List UInt8) (at' : Nat) (e n : Int) : List UInt8 × Nat × Int :=
  if e ≠ 0 then ([], at', e) else if n < 0 then ([], at', 1) else if b.length < at' + n.toNat then ([], at', 2) else ((b.drop at').take n.toNat, at' + n.toNat, 0)
def lenAt (b : List UInt8) (at' : Nat) : Nat := (b.getD at' 0).toNat * 256 + (b.getD (at' + 1) 0).toNat
def rdB (b : List UInt8) (at' : Nat) (e most : Int) : List UInt8 × Nat × Int :=
  if e ≠ 0 then ([], at', e) else if b.length < at' + 2 then ([], at', 2) else if most < lenAt b at' then ([], at', 4)
  else if b.length < at' + 2 + lenAt b at' then ([], at', 2) else ((b.drop (at' + 2)).take (lenAt b at'), at' + 2 + lenAt b at', 0)
def rdE (b : List UInt8) (at' : Nat) (e : Int) : Int := if e = 0 ∧ at' < b.length then 3 else e
theorem rdU_le {b : List UInt8} {at' : Nat} {e size : Int} (h : at' ≤ b.length) : (rdU b at' e size).2.1 ≤ b.length := by
  unfold rdU; repeat' split
  all_goals first | exact h | (simp only; omega)
theorem rdR_le {b : List UInt8} {at' : Nat} {e n : Int} (h : at' ≤ b.length) : (rdR b at' e n).2.1 ≤ b.length := by
  unfold rdR; repeat' split
  all_goals first | exact h | (simp only; omega)
theorem rdB_le {b : List UInt8} {at' : Nat} {e most : Int} (h : at' ≤ b.length) : (rdB b at' e most).2.1 ≤ b.length := by
  unfold rdB; repeat' split
  all_goals first | exact h | (simp only; omega)
end Go.Ax

namespace Go.Ax
open Go Go.RowKit Go.Eng
set_option linter.unusedVariables false
set_option linter.unusedSimpArgs false
theorem lget_n {α : Type} {l : List α} {n : Nat} (h : n < l.length) : lget l (n : Int) = some (l[n]'h) := by rw [lget_nat, List.getElem?_eq_getElem h]
theorem lget_i {α : Type} {l : List α} {i : Int} (h : 0 ≤ i ∧ i < l.length) : lget l i = some (l[i.toNat]'(by omega)) := by rw [lget_d, lget0, if_pos h.1, List.getElem?_eq_getElem]
theorem seq_eq (a b : List UInt8) : seq' a b = decide (a = b) := by rw [seq_d]; rfl
theorem ieq_eq (a b : Int) : ieq a b = decide (a = b) := by simp only [ieq_d, ieq0]; rfl
theorem ine_eq (a b : Int) : ine a b = !decide (a = b) := by simp only [ine_d, ine0]; rfl
theorem ilt_eq (a b : Int) : ilt a b = decide (a < b) := by rw [ilt_d]; rfl
theorem ile_eq (a b : Int) : ile a b = decide (a ≤ b) := by rw [ile_d]; rfl
theorem u8cmp_eql (a b : UInt8) : u8cmp .eql a b = ieq (a.toNat : Int) b.toNat := by rw [u8cmp_d, ieq_d]; rfl
theorem u8xor_eq (a b : UInt8) : u8op .xor a b = a ^^^ b := by rw [u8op_d]; rfl
theorem u8and_eq (a b : UInt8) : u8op .and a b = a &&& b := by rw [u8op_d]; rfl
theorem u8or_eq (a b : UInt8) : u8op .or a b = a ||| b := by rw [u8op_d]; rfl
theorem and_mask (k : Nat) (hk : k ≤ 62) (n : Int) : bits .and .i64 n ((2 ^ k - 1 : Nat) : Int) = n % ((2 ^ k : Nat) : Int) := by
  have hp : 0 < 2 ^ k := Nat.pow_pos (by omega)
  have hlt : 2 ^ k ≤ 2 ^ 62 := Nat.pow_le_pow_right (by omega) hk
  have h1 : (BitVec.ofInt 64 ((2 ^ k - 1 : Nat) : Int)).toNat = 2 ^ k - 1 := by
    rw [BitVec.toNat_ofInt]
    have : (((2 ^ k - 1 : Nat) : Int) % ((2 ^ 64 : Nat) : Int)) = ((2 ^ k - 1 : Nat) : Int) := Int.emod_eq_of_lt (by omega) (by omega)
    rw [this, Int.toNat_natCast]
  have key : (BitVec.ofInt 64 n &&& BitVec.ofInt 64 ((2 ^ k - 1 : Nat) : Int)).toNat = (n % ((2 ^ 64 : Nat) : Int)).toNat % 2 ^ k := by
    rw [BitVec.toNat_and, BitVec.toNat_ofInt, h1, Nat.and_two_pow_sub_one_eq_mod]
  show IntKind.i64.wrap ((BitVec.ofInt 64 n &&& BitVec.ofInt 64 ((2 ^ k - 1 : Nat) : Int)).toNat : Nat) = n % _
  rw [key, IntKind.wrap_i64]
  have hd : ((2 ^ k : Nat) : Int) ∣ ((2 ^ 64 : Nat) : Int) := by
    refine ⟨((2 ^ (64 - k) : Nat) : Int), ?_⟩
    rw [← Int.natCast_mul, ← Nat.pow_add]; congr 2; omega
  have h2 : ((((n % ((2 ^ 64 : Nat) : Int)).toNat % 2 ^ k : Nat)) : Int) = n % ((2 ^ k : Nat) : Int) := by
    rw [Int.natCast_emod, Int.toNat_of_nonneg (Int.emod_nonneg _ (by decide)), Int.emod_emod_of_dvd _ hd]
  rw [h2]
  have h3 := Int.emod_nonneg n (show ((2 ^ k : Nat) : Int) ≠ 0 by omega)
  have h4 := Int.emod_lt_of_pos n (show (0 : Int) < ((2 ^ k : Nat) : Int) by omega)
  generalize n % ((2 ^ k : Nat) : Int) = z at *
  omega
theorem iand_mask (k : Nat) (hk : k ≤ 62) (n : Int) : ibit .and n ((2 ^ k - 1 : Nat) : Int) = n % ((2 ^ k : Nat) : Int) := by rw [ibit_d]; exact and_mask k hk n
end Go.Ax

namespace Go.Ax
open Go Go.Eng Go.RowKit
set_option linter.unusedVariables false
set_option linter.unusedSimpArgs false
def valN (l : List UInt8) : Nat := l.foldl (fun n x => n * 256 + x.toNat) 0
theorem valN_go (l : List UInt8) : ∀ a : Nat, l.foldl (fun n x => n * 256 + x.toNat) a = a * 256 ^ l.length + valN l := by
  induction l with
  | nil => intro a; simp [valN]
  | cons x l ih =>
    intro a
    rw [List.foldl_cons, ih]
    have e : valN (x :: l) = x.toNat * 256 ^ l.length + valN l := by
      rw [show valN (x :: l) = l.foldl (fun n x => n * 256 + x.toNat) (0 * 256 + x.toNat) from rfl, ih]; simp
    rw [e, List.length_cons, Nat.pow_succ, Nat.add_mul, Nat.mul_assoc, Nat.mul_comm 256, Nat.add_assoc]
theorem valN_cons (x : UInt8) (l : List UInt8) : valN (x :: l) = x.toNat * 256 ^ l.length + valN l := by
  rw [valN, List.foldl_cons, valN_go]; simp
theorem valN_lt (l : List UInt8) : valN l < 256 ^ l.length := by
  induction l with
  | nil => simp [valN]
  | cons x l ih =>
    rw [valN_cons, List.length_cons, Nat.pow_succ]
    have := x.toNat_lt
    have h2 : x.toNat * 256 ^ l.length ≤ 255 * 256 ^ l.length := Nat.mul_le_mul_right _ (by omega)
    omega
theorem shl8_or (n : UInt64) (x : UInt8) (h : n.toNat < 2 ^ 56) : (n <<< 8 ||| x.toUInt64).toNat = n.toNat * 256 + x.toNat := by
  have hx := x.toNat_lt
  rw [UInt64.toNat_or, UInt64.toNat_shiftLeft]
  have e1 : (8 : UInt64).toNat % 64 = 8 := by decide
  rw [e1, Nat.shiftLeft_eq, Nat.mod_eq_of_lt (by omega)]
  have e2 : x.toUInt64.toNat = x.toNat := by simp
  rw [e2]
  have := Nat.shiftLeft_add_eq_or_of_lt (i := 8) (show x.toNat < 2 ^ 8 by omega) n.toNat
  rw [Nat.shiftLeft_eq] at this
  rw [← this]
theorem beN_val (l : List UInt8) (h : l.length ≤ 8) : (beN l).toNat = valN l := by
  have key : ∀ (l : List UInt8) (a : UInt64) (m : Nat), a.toNat < 256 ^ m → m + l.length ≤ 8 → (l.foldl (fun (n : UInt64) (x : UInt8) => n <<< 8 ||| x.toUInt64) a).toNat = a.toNat * 256 ^ l.length + valN l := by
    intro l
    induction l with
    | nil => intro a m _ _; simp [valN]
    | cons x l ih =>
      intro a m ha hm
      rw [List.length_cons] at hm
      have hx := x.toNat_lt
      have h56 : a.toNat < 2 ^ 56 := by
        have : 256 ^ m ≤ 256 ^ 7 := Nat.pow_le_pow_right (by omega) (by omega)
        have e : (256 : Nat) ^ 7 = 2 ^ 56 := by decide
        omega
      have hs := shl8_or a x h56
      rw [List.foldl_cons, ih _ (m + 1) (by rw [hs, Nat.pow_succ]; omega) (by omega), hs, valN_cons, List.length_cons, Nat.pow_succ, Nat.add_mul, Nat.mul_assoc, Nat.mul_comm 256]
      omega
  have := key l 0 0 (by decide) (by omega)
  simpa [beN] using this
theorem beB_val (k : Nat) (x : UInt64) (hk : k ≤ 8) : valN (beB k x) = x.toNat % 256 ^ k := by
  induction k with
  | zero => simp [beB, valN, Nat.mod_one]
  | succ k ih =>
    rw [beB, valN_cons, beB_len, ih (by omega)]
    have h1 : ((x >>> UInt64.ofNat (8 * k)).toUInt8).toNat = x.toNat / 256 ^ k % 256 := by
      rw [UInt64.toNat_toUInt8, UInt64.toNat_shiftRight, UInt64.toNat_ofNat', Nat.shiftRight_eq_div_pow]
      have e : 8 * k % 2 ^ 64 % 64 = 8 * k := by omega
      rw [e, Nat.pow_mul]
    rw [h1, Nat.pow_succ, Nat.mod_mul]
    rw [Nat.mul_comm, Nat.add_comm]
theorem valN_inj : ∀ {l m : List UInt8}, l.length = m.length → valN l = valN m → l = m
  | [], [], _, _ => rfl
  | x :: l, y :: m, hl, hv => by
    rw [valN_cons, valN_cons] at hv
    have hl' : l.length = m.length := by simpa using hl
    have h1 := valN_lt l
    have h2 := valN_lt m
    rw [hl'] at hv h1
    have hp : 0 < 256 ^ m.length := Nat.pow_pos (by omega)
    have hxy : x.toNat = y.toNat := by
      have a1 : (x.toNat * 256 ^ m.length + valN l) / 256 ^ m.length = x.toNat := by
        rw [Nat.mul_comm, Nat.mul_add_div hp, Nat.div_eq_of_lt h1, Nat.add_zero]
      have a2 : (y.toNat * 256 ^ m.length + valN m) / 256 ^ m.length = y.toNat := by
        rw [Nat.mul_comm, Nat.mul_add_div hp, Nat.div_eq_of_lt h2, Nat.add_zero]
      rw [← a1, hv, a2]
    have hlm : valN l = valN m := by rw [hxy] at hv; omega
    rw [UInt8.toNat_inj.1 hxy, valN_inj hl' hlm]
  | [], _ :: _, h, _ => by simp at h
  | _ :: _, [], h, _ => by simp at h
theorem beB_beN (l : List UInt8) (h : l.length ≤ 8) (hb : valN l < 9223372036854775808) : beB l.length (UInt64.ofInt (valN l : Int)) = l := by
  apply valN_inj (by rw [beB_len])
  rw [beB_val _ _ h, u64_ofInt (by omega), Int.toNat_natCast, Nat.mod_eq_of_lt (valN_lt l)]
def len2 (n : Nat) : List UInt8 := beB 2 (UInt64.ofInt (n : Int))
theorem len2_len (n : Nat) : (len2 n).length = 2 := beB_len _ _
theorem rdU_inv {b : List UInt8} {p q n : Nat} {e x : Int} (hp : p ≤ b.length) (hn : 1 ≤ n ∧ n ≤ 8) (h : rdU b p e n = (x, q, 0)) : e = 0 ∧ q = p + n ∧ q ≤ b.length ∧ b.drop p = beB n (UInt64.ofInt x) ++ b.drop q ∧ 0 ≤ x ∧ x < 9223372036854775808 ∧ x.toNat < 256 ^ n := by
  unfold rdU at h
  split at h
  · rename_i he; simp only [Prod.mk.injEq] at h; exact absurd h.2.2 he
  rename_i he
  split at h
  · simp at h
  split at h
  · simp at h
  rename_i hl
  split at h
  · simp at h
  rename_i hb
  simp only [Int.toNat_natCast, Prod.mk.injEq] at h hb hl
  obtain ⟨h1, h2, _⟩ := h
  have hlen : ((b.drop p).take n).length = n := by simp; omega
  rw [beN_val _ (by omega)] at h1 hb
  have hlt := valN_lt ((b.drop p).take n)
  rw [hlen] at hlt
  subst h1 h2
  refine ⟨by omega, rfl, by omega, ?_, by omega, by omega, by simpa using hlt⟩
  have hbb := beB_beN ((b.drop p).take n) (by omega) (by omega)
  rw [hlen] at hbb
  rw [hbb, ← List.drop_drop, List.take_append_drop]
theorem two_of {b : List UInt8} {p : Nat} (h : p + 2 ≤ b.length) : b.drop p = b.getD p 0 :: b.getD (p + 1) 0 :: b.drop (p + 2) := by
  rw [List.drop_eq_getElem_cons (show p < b.length by omega), List.drop_eq_getElem_cons (show p + 1 < b.length by omega)]
  simp [List.getD, List.getElem?_eq_getElem (show p < b.length by omega), List.getElem?_eq_getElem (show p + 1 < b.length by omega)]
theorem rdB_inv {b x : List UInt8} {p q : Nat} {e most : Int} (hp : p ≤ b.length) (h : rdB b p e most = (x, q, 0)) : e = 0 ∧ q = p + 2 + x.length ∧ q ≤ b.length ∧ b.drop p = len2 x.length ++ x ++ b.drop q ∧ (x.length : Int) ≤ most ∧ x.length ≤ 65535 := by
  unfold rdB at h
  split at h
  · rename_i he; simp only [Prod.mk.injEq] at h; exact absurd h.2.2 he
  rename_i he
  split at h
  · simp at h
  rename_i h2
  split at h
  · simp at h
  rename_i h3
  split at h
  · simp at h
  rename_i h4
  simp only [Prod.mk.injEq] at h
  obtain ⟨h1, hq, _⟩ := h
  have hlen : ((b.drop (p + 2)).take (lenAt b p)).length = lenAt b p := by simp; omega
  have hx := (b.getD p 0).toNat_lt
  have hy := (b.getD (p + 1) 0).toNat_lt
  have hL : lenAt b p = (b.getD p 0).toNat * 256 + (b.getD (p + 1) 0).toNat := rfl
  have hxl : x.length = lenAt b p := by rw [← h1]; exact hlen
  have h2' := two_of (b := b) (p := p) (by omega)
  have hle : len2 (lenAt b p) = [b.getD p 0, b.getD (p + 1) 0] := by
    have hv : valN [b.getD p 0, b.getD (p + 1) 0] = lenAt b p := by rw [valN_cons, valN_cons, hL]; simp [valN]
    have := beB_beN [b.getD p 0, b.getD (p + 1) 0] (by simp) (by rw [hv]; omega)
    rw [hv] at this
    exact this
  refine ⟨by omega, by omega, by omega, ?_, by omega, by omega⟩
  rw [hxl, hle, h2', ← hq, ← h1, ← List.drop_drop (i := lenAt b p)]
  simp only [List.cons_append, List.nil_append, List.take_append_drop]
theorem rdE_inv {b : List UInt8} {p : Nat} {e : Int} (hp : p ≤ b.length) (h : rdE b p e = 0) : e = 0 ∧ b.drop p = [] := by
  unfold rdE at h
  split at h
  · omega
  · rename_i hn
    exact ⟨h, List.drop_eq_nil_of_le (by omega)⟩
theorem uintB_eq {b : List UInt8} {n : Nat} {x : Int} (hn : 1 ≤ n ∧ n ≤ 8) : uintB b n x = b ++ beB n (UInt64.ofInt x) := by
  unfold uintB; rw [if_neg (by omega), Int.toNat_natCast]
theorem blobB_eq {b x : List UInt8} (h : x.length ≤ 65535) : blobB b x = b ++ len2 x.length ++ x := by
  unfold blobB
  rw [List.take_of_length_le h, show (2 : Int) = ((2 : Nat) : Int) from rfl, uintB_eq (by omega)]; rfl
theorem rdB_len {b : List UInt8} {at' : Nat} {e most : Int} : (rdB b at' e most).1.length ≤ b.length := by
  unfold rdB; repeat' split
  all_goals simp only [List.length_take, List.length_drop, List.length_nil]; omega
theorem rdR_len {b : List UInt8} {at' : Nat} {e n : Int} : (rdR b at' e n).1.length ≤ b.length := by
  unfold rdR; repeat' split
  all_goals simp only [List.length_take, List.length_drop, List.length_nil]; omega
theorem uintB_l {b : List UInt8} {n : Nat} {x : Int} (hn : 1 ≤ n ∧ n ≤ 8) : (uintB b n x).length = b.length + n := by rw [uintB_eq hn, List.length_append, beB_len]
theorem uintB_l1 (b : List UInt8) (x : Int) : (uintB b 1 x).length = b.length + 1 := uintB_l (n := 1) (by omega)
theorem uintB_l2 (b : List UInt8) (x : Int) : (uintB b 2 x).length = b.length + 2 := uintB_l (n := 2) (by omega)
theorem uintB_l3 (b : List UInt8) (x : Int) : (uintB b 3 x).length = b.length + 3 := uintB_l (n := 3) (by omega)
theorem uintB_l4 (b : List UInt8) (x : Int) : (uintB b 4 x).length = b.length + 4 := uintB_l (n := 4) (by omega)
theorem uintB_l8 (b : List UInt8) (x : Int) : (uintB b 8 x).length = b.length + 8 := uintB_l (n := 8) (by omega)
theorem blobB_l (b x : List UInt8) : (blobB b x).length = b.length + 2 + min 65535 x.length := by rw [blobB, List.length_append, uintB_l2, List.length_take]
theorem rdB_most {b : List UInt8} {at' : Nat} {e most : Int} (h : 0 ≤ most) : ((rdB b at' e most).1.length : Int) ≤ most := by
  unfold rdB; repeat' split
  all_goals first | exact h | (simp only [List.length_take, List.length_drop, List.length_nil]; omega)
end Go.Ax

namespace Go.Ax
open Go Go.Eng Go.RowKit
set_option linter.unusedVariables false
set_option linter.unusedSimpArgs false
structure Att where
  key : List UInt8
  nonce : List UInt8
  resets : Int
  restarts : Int
  clock : Int
  safe : Bool
  updates : Int
  s0 : Int
  s1 : Int
  digest : List UInt8
def magicB : List UInt8 := [83, 87, 81, 49]
def encA (a : Att) : List UInt8 :=
  uintB (uintB (uintB (uintB (uintB (uintB (uintB (blobB (blobB magicB a.key) a.nonce) 8 a.resets) 8 a.restarts) 8 a.clock) 1 (bif a.safe then 1 else 0)) 8 a.updates) 2 a.s0) 2 a.s1 ++ a.digest
def att0 : Att := ⟨[], [], 0, 0, 0, false, 0, 0, 0, []⟩
def decA (b : List UInt8) : Att × Int :=
  let h := rdR b 0 0 4
  if h.2.2 ≠ 0 then (att0, h.2.2) else if h.1 ≠ magicB then (att0, 5) else
  let k := rdB b h.2.1 0 32
  let o := rdB b k.2.1 k.2.2 128
  let u := rdU b o.2.1 o.2.2 8
  let v := rdU b u.2.1 u.2.2 8
  let c := rdU b v.2.1 v.2.2 8
  let s := rdU b c.2.1 c.2.2 1
  let w := rdU b s.2.1 s.2.2 8
  let x := rdU b w.2.1 w.2.2 2
  let y := rdU b x.2.1 x.2.2 2
  let d := rdR b y.2.1 y.2.2 32
  let e := rdE b d.2.1 d.2.2
  if e ≠ 0 then (att0, e) else if k.1.length ≠ 32 ∨ 1 < s.1 then (att0, 1) else
  (⟨k.1, o.1, u.1, v.1, c.1, s.1 == 1, w.1, x.1, y.1, d.1⟩, 0)
def flatA (a : Att) (safe : Int) : List UInt8 :=
  magicB ++ (len2 a.key.length ++ a.key ++ (len2 a.nonce.length ++ a.nonce ++ (beB 8 (UInt64.ofInt a.resets) ++ (beB 8 (UInt64.ofInt a.restarts) ++ (beB 8 (UInt64.ofInt a.clock) ++ (beB 1 (UInt64.ofInt safe) ++
   (beB 8 (UInt64.ofInt a.updates) ++ (beB 2 (UInt64.ofInt a.s0) ++ (beB 2 (UInt64.ofInt a.s1) ++ (a.digest ++ []))))))))))
structure OkA (a : Att) : Prop where
  key : a.key.length = 32
  nonce : a.nonce.length ≤ 128
  resets : 0 ≤ a.resets ∧ a.resets < 9223372036854775808
  restarts : 0 ≤ a.restarts ∧ a.restarts < 9223372036854775808
  clock : 0 ≤ a.clock ∧ a.clock < 9223372036854775808
  updates : 0 ≤ a.updates ∧ a.updates < 9223372036854775808
  s0 : 0 ≤ a.s0 ∧ a.s0 < 65536
  s1 : 0 ≤ a.s1 ∧ a.s1 < 65536
  digest : a.digest.length = 32
end Go.Ax

namespace Go.Ax
open Go Go.RowKit Go.Eng
set_option linter.unusedVariables false
set_option linter.unusedSimpArgs false
theorem ishr_eq {a : Int} {c : Nat} (h : c ≤ 64) : ishr a c = a / 2 ^ c := by rw [ishr_d]; unfold ishr0; rw [Nat.min_eq_left h]
theorem ishl1 {c : Int} (h : 0 ≤ c ∧ c ≤ 62) : ishl 1 (iu64 c).toNat = 2 ^ c.toNat := by
  rw [ishl_d, iu64_eq, u64_ofInt (by omega)]; unfold ishl0
  rw [Nat.min_eq_left (by omega), Int.one_mul]
  apply wrap64
  have h1 : (2 : Int) ^ c.toNat ≤ 2 ^ 62 := by
    have := Nat.pow_le_pow_right (n := 2) (by omega) (show c.toNat ≤ 62 by omega)
    exact_mod_cast this
  have h2 : (0 : Int) ≤ 2 ^ c.toNat := Int.pow_nonneg (by omega)
  have h3 : (2 : Int) ^ 62 = 4611686018427387904 := rfl
  omega
theorem ishl1n {n : Nat} (h : n ≤ 62) : ishl 1 (iu64 (n : Int)).toNat = (2 : Int) ^ n := by
  rw [ishl1 (by omega)]; simp
theorem lcut_0 {α : Type} {l : List α} {n : Int} (h : 0 ≤ n ∧ n ≤ l.length) : lcut l 0 n = some (l.take n.toNat) := by
  rw [lcut_d]; unfold lcut0; rw [if_pos ⟨Int.le_refl _, h.1, h.2⟩]; simp
theorem LL : (∀ {α : Type} (l : List α), llen l = (l.length : Int)) ∧ (∀ {α : Type} (l m : List α), lapp l m = l ++ m) ∧ (∀ {α : Type} (n : Int) (a : α), lrep n a = List.replicate n.toNat a) ∧ (∀ {α : Type} (l m : List α), lcpy l m = m.take l.length ++ l.drop m.length) ∧ (∀ {α : Type} (l : List α) (i : Int) (a : α), lset l i a = l.set i.toNat a) ∧
    (∀ {α : Type} (l m : List α), (l ++ m).length = l.length + m.length) ∧ (∀ {α : Type} (i : Nat) (l : List α), (l.take i).length = min i l.length) ∧ (∀ {α : Type} (i : Nat) (l : List α), (l.drop i).length = l.length - i) ∧ (∀ {α : Type} (a : α) (l : List α), (a :: l).length = l.length + 1) ∧ (∀ {α : Type}, ([] : List α).length = 0) ∧ (∀ {α : Type} (n : Nat) (a : α), (List.replicate n a).length = n) ∧ (∀ {α : Type} (l : List α) (i : Nat) (a : α), (l.set i a).length = l.length) ∧ (∀ n : Nat, ((n : Int)).toNat = n) :=
  ⟨llen_eq, lapp_eq, lrep_eq, lcpy_eq, lset_eq, fun _ _ => List.length_append, fun _ _ => List.length_take, fun _ _ => List.length_drop, fun _ _ => List.length_cons, List.length_nil, fun _ _ => List.length_replicate, fun _ _ _ => List.length_set, Int.toNat_natCast⟩
theorem NO : (∀ {α : Type} (l : List α), llen l = (l.length : Int)) ∧ (∀ {α : Type} (l m : List α), lapp l m = l ++ m) ∧ (∀ {α : Type} (n : Int) (a : α), lrep n a = List.replicate n.toNat a) ∧ (∀ {α : Type} (l m : List α), lcpy l m = m.take l.length ++ l.drop m.length) ∧ (∀ {α : Type} (l : List α) (i : Int) (a : α), lset l i a = l.set i.toNat a) ∧
    (∀ {α : Type} (l : List α), [] ++ l = l) ∧ (∀ {α : Type} (l : List α), l ++ [] = l) ∧ (∀ {α : Type} (a b c : List α), a ++ b ++ c = a ++ (b ++ c)) ∧ (∀ {α : Type} (a : α) (b c : List α), a :: b ++ c = a :: (b ++ c)) :=
  ⟨llen_eq, lapp_eq, lrep_eq, lcpy_eq, lset_eq, List.nil_append, List.append_nil, List.append_assoc, fun _ _ _ => List.cons_append⟩
theorem u32shr_eq {a : UInt32} {c : Nat} (h : c < 32) : u32shr a c = a >>> UInt32.ofNat c := by
  rw [u32shr_d]; unfold u32shr0; rw [Nat.min_eq_left (by omega)]
  apply UInt32.toNat_inj.1
  rw [UInt32.toNat_shiftRight, UInt32.toNat_ofNat', UInt32.toNat_ofNat', Nat.shiftRight_eq_div_pow]
  have h1 : c % 2 ^ 32 % 32 = c := by omega
  rw [h1]
  have h2 : a.toNat / 2 ^ c ≤ a.toNat := Nat.div_le_self _ _
  have h3 := a.toNat_lt
  generalize a.toNat / 2 ^ c = q at h2 ⊢
  omega
theorem dig4 (l : List UInt8) : [u32u8 (u32shr (iu32 (llen l)) (UInt64.ofNat 24).toNat), u32u8 (u32shr (iu32 (llen l)) (UInt64.ofNat 16).toNat), u32u8 (u32shr (iu32 (llen l)) (UInt64.ofNat 8).toNat), u32u8 (iu32 (llen l))] = len4 l := by
  rw [u32shr_eq (by decide), u32shr_eq (by decide), u32shr_eq (by decide), llen_eq, iu32_d, u32u8_d]; rfl
theorem frameB_snoc (tag : Int) (ls : List (List UInt8)) (i : Nat) (l : List UInt8) (h : ls[i]? = some l) : frameB tag (ls.take (i + 1)) = frameB tag (ls.take i) ++ len4 l ++ l := by
  simp only [frameB, fieldsB_snoc ls i l h, List.cons_append]
theorem frameB_le (tag : Int) (ls : List (List UInt8)) (i : Nat) : (frameB tag (ls.take i)).length ≤ (frameB tag ls).length := by
  have : frameB tag ls = frameB tag (ls.take i) ++ fieldsB (ls.drop i) := by
    conv => lhs; rw [← List.take_append_drop i ls]
    simp only [frameB, fieldsB, List.flatMap_append, List.cons_append]
  rw [this, List.length_append]; omega
abbrev pubT : Ty := .pair .i64 (.pair .i64 (.pair .i64 (.pair (.sl .u8) (.sl .u8))))
abbrev senT : Ty := .pair (.sl .u8) (.pair (.sl .u8) (.sl .u8))
abbrev objT : Ty := .pair pubT (.pair senT .i64)
abbrev idxT : Ty := .pair .i64 (.pair .i64 (.pair .i64 (.pair .i64 (.pair (.sl .u8) (.pair (.sl .u8) (.pair .bool (.sl .u8)))))))
abbrev lvT : Ty := .pair (.sl .u8) .i64
abbrev sesT : Ty := .pair .i64 (.pair (.sl .u8) (.pair (.sl .u8) (.pair .i64 (.pair .i64 (.pair .i64 (.pair .i64 .bool))))))
abbrev authT : Ty := .pair .i64 (.pair (.sl .u8) (.sl .u8))
end Go.Ax
