/-
  Own text. The abstract machine: elements, parts and lengths of slices. It claims nothing of any program.
-/
import Derived.Test.YtlaglaehkhmklaaAxA
namespace Go.Ax
open Go Go.RowKit Go.Eng
set_option linter.unusedVariables false
set_option linter.unusedSimpArgs false

/-! ### What cannot change -/
theorem emptied (w : World) (O : Nat → Prop) (b : Nat) (hO : O b) : Stp O w { w with heap := w.heap.setIfInBounds b (.cells #[] 0 (0, 0)) } :=
  ⟨rfl, rfl, rfl, by simp, fun i hi hn => by
    have : i ≠ b := fun e => hn (e ▸ hO)
    simp only [Array.getElem?_setIfInBounds]
    rw [if_neg (fun e => this e.symm)]⟩
theorem settled {O : Nat → Prop} {w : World} {p : Addr} {u : Value} (h : ∀ w', Stp O w w' → ∃ u', w'.cell? p = some u') (hu : w.cell? p = some u) : ∀ w', Stp O w w' → w'.cell? p = some u := by
  intro w' hs
  have hb := World.block_lt_of_cell? w p hu
  have hno : ¬ O p.block := fun hO => by
    obtain ⟨u', hu'⟩ := h _ (emptied w O p.block hO)
    simp [World.cell?, hb] at hu'
  rw [World.cell?_of_block (hs.block p.block hb hno)]
  exact hu
theorem flatten_inj {β : Type} (sz : Nat) : ∀ (cs ds : List (List β)), (∀ c ∈ cs, c.length = sz) → (∀ c ∈ ds, c.length = sz) → cs.length = ds.length → cs.flatten = ds.flatten → cs = ds
  | [], [], _, _, _, _ => rfl
  | a :: cs, b :: ds, h1, h2, hl, h => by
    simp only [List.flatten_cons] at h
    have hab := List.append_inj h (by rw [h1 a (List.mem_cons_self ..), h2 b (List.mem_cons_self ..)])
    rw [hab.1, flatten_inj sz cs ds (fun c hc => h1 c (List.mem_cons_of_mem _ hc)) (fun c hc => h2 c (List.mem_cons_of_mem _ hc)) (by simpa using hl) hab.2]
  | [], _ :: _, _, _, h, _ => by simp at h
  | _ :: _, [], _, _, h, _ => by simp at h
theorem All2.crlens {τ : Ty} {w : World} : ∀ {l : List (El τ)} {cs : List (List Value)}, All2 (fun x m => CR τ x m w) l cs → ∀ m ∈ cs, m.length = τ.n
  | [], [], _, m, hm => by simp at hm
  | x :: l, a :: cs, h, m, hm => by
    rcases List.mem_cons.1 hm with rfl | hm
    · exact h.1.len
    · exact All2.crlens h.2 m hm
  | [], _ :: _, h, _, _ => h.elim
  | _ :: _, [], h, _, _ => h.elim
theorem All2.all {α β γ : Type} {p : γ → Prop} {R : γ → α → β → Prop} : ∀ {l : List α} {m : List β}, (∃ g, p g) → (∀ g, p g → All2 (R g) l m) → All2 (fun a b => ∀ g, p g → R g a b) l m
  | [], [], _, _ => trivial
  | a :: l, b :: m, hp, h => ⟨fun g hg => (h g hg).1, All2.all hp fun g hg => (h g hg).2⟩
  | [], b :: m, ⟨g, hg⟩, h => (h g hg).elim
  | a :: l, [], ⟨g, hg⟩, h => (h g hg).elim
/-- what is read lies in cells that do not change -/
theorem rd_cells {c : Cx} {τ : Ty} {l : List (El τ)} {v : Value} (h : ∀ w', Stp c.O c.w w' → Rd τ l v w') : ∃ a cap cs, v = .slice a l.length cap ∧ l.length ≤ cap ∧ cap ≤ maxLen ∧ (a = none → l.length = 0 ∧ cap = 0) ∧ All2 (fun x m => Reps c (flat τ x) m) l cs ∧ ∀ w', Stp c.O c.w w' → ∀ p, a = some p → Cs w' p cs.flatten := by
  obtain ⟨cs, h1, a, cap, rfl, h2, h3, h4, h5, h6⟩ := h c.w (Stp.refl _ _)
  have hl := All2.crlens h1
  have key : ∀ w', Stp c.O c.w w' → All2 (fun x m => CR τ x m w') l cs ∧ ∀ p, a = some p → Cs w' p cs.flatten := by
    intro w' hs
    obtain ⟨ds, g1, a', cap', g2, g3, _, _, g5, g6⟩ := h w' hs
    simp only [Value.slice.injEq] at g2
    obtain ⟨rfl, _, rfl⟩ := g2
    have hdl := All2.crlens g1
    have hsame : cs = ds := by
      cases a with
      | none =>
        have h0 := (h5 rfl).1
        have e1 : cs = [] := List.eq_nil_of_length_eq_zero (by rw [h1.len]; exact h0)
        have e2 : ds = [] := List.eq_nil_of_length_eq_zero (by rw [g1.len]; exact h0)
        rw [e1, e2]
      | some p =>
        refine flatten_inj τ.n cs ds hl hdl (by rw [h1.len, g1.len]) ?_
        apply List.ext_getElem?
        intro j
        by_cases hj : j < cs.flatten.length
        · have e1 := h6 p rfl j _ (List.getElem?_eq_getElem hj)
          have hj' : j < ds.flatten.length := by rw [g3]; rw [h2] at hj; exact hj
          have e2 := g6 p rfl j _ (List.getElem?_eq_getElem hj')
          have e3 := settled (O := c.O) (fun w'' hs' => by
            obtain ⟨es, k1, a2, cap2, k2, k3, _, _, _, k6⟩ := h w'' hs'
            simp only [Value.slice.injEq] at k2
            have hj2 : j < es.flatten.length := by rw [k3]; rw [h2] at hj; exact hj
            exact ⟨_, k6 p k2.1.symm j _ (List.getElem?_eq_getElem hj2)⟩) e1 w' hs
          rw [e2] at e3
          rw [List.getElem?_eq_getElem hj, List.getElem?_eq_getElem hj', e3]
        · rw [List.getElem?_eq_none (by omega), List.getElem?_eq_none (by rw [g3, ← h2]; omega)]
    subst hsame
    exact ⟨g1, g6⟩
  refine ⟨a, cap, cs, rfl, h3, h4, h5, ?_, fun w' hs => (key w' hs).2⟩
  have := All2.all (p := fun w' => Stp c.O c.w w') (R := fun w' x m => CR τ x m w') ⟨c.w, Stp.refl _ _⟩ fun w' hs => (key w' hs).1
  exact this.mono fun x m hm => CR.reps hm

section
variable {P : Program} {I : World → Prop} {L : LX} {ty : TypeId} {T : TT} {R : Type} {K : Tr → Option R} {r : R} {hk : Nat → Option Rs} {m : Nat}

theorem num_ok {c : Cx} {s : AV} {i : Int} {v : Value} (h : num? s = some i) (hr : Rep c s v) : ∃ k, v = .int k i := by
  unfold num? at h
  simp only [u8i_d] at h
  split at h
  · simp only [Rep] at hr; obtain rfl := Option.some.inj h; exact ⟨_, hr⟩
  · simp only [Rep] at hr; obtain rfl := Option.some.inj h; exact ⟨_, hr⟩
  · simp only [Rep] at hr; obtain rfl := Option.some.inj h; exact ⟨_, hr⟩
  · simp only [Rep] at hr; obtain rfl := Option.some.inj h; exact ⟨_, hr⟩
  · cases h
theorem num_val {c : Cx} {e : Operand → Value} (he : ValX c L e) {j : Operand} {i : Int} (h : (evx L j).bind num? = some i) : ∃ k, e j = .int k i := by
  obtain ⟨s, h1, h2⟩ := Option.bind_eq_some_iff.1 h
  exact num_ok h2 (he j s h1)
theorem slOf_ok (hT : TTok P T) {t el : TypeId} {ei : TI} (h : slOf T t = some (el, ei)) : ∃ z, SliceT P t el z ei.size ei.bytes ∧ TOK P el ei ∧ z.cells.toList.map AV.of = ei.zero ∧ z.cells.toList.all (·.oneCell') = true ∧ 0 < ei.bytes := by
  unfold slOf at h
  split at h
  · rename_i i hi
    split at h
    · rename_i el' hu
      split at h
      · rename_i e he
        cases hb : Nat.blt 0 e.size with
        | false => rw [hb] at h; cases h
        | true =>
          rw [hb] at h
          simp only [cond_true, Option.some.injEq, Prod.mk.injEq] at h
          obtain ⟨rfl, rfl⟩ := h
          have hq := (hT _ _ hi).und
          rw [hu] at hq
          have hte := hT _ _ he
          obtain ⟨z, h1, h2, h3, h4, h5⟩ := hte.zero
          exact ⟨z, ⟨hq, h1, h3, by simpa using hb⟩, hte, h2, h4, h5⟩
      · cases h
    · cases h
  · cases h
theorem run_ix {e : Operand → Value} {x j : Operand} {t el : TypeId} {z : Value} {sz bytes n cap : Nat} {p : Addr} {k : IntKind} {i : Int} {w : World} (T : SliceT P t el z sz bytes) (hx : e x = .slice (some p) n cap) (hj : e j = .int k i) (b : 0 ≤ i ∧ i < n) :
    (execOp e ⟨none, .indexAddr t x j, ty, "", #[], none⟩).run P w = .ok (.value (.pointer (some (p.add (i.toNat * sz))))) w := by
  have h1 : execOp e ⟨none, .indexAddr t x j, ty, "", #[], none⟩ = (do pure (.value (← Instr.indexAt t (e x) (e j)))) := rfl
  rw [h1, hx, hj]
  simp only [Instr.indexAt, asIntOf, Sem.run_bind, Sem.run_pure, Result.andThen_ok, run_underlying T.ht]
  rw [if_pos b]
  simp [T.run_size]
/-- the address of an element of what is read -/
theorem ix_read {c : Cx} {e : Operand → Value} {x j : Operand} {t el : TypeId} {z : Value} {bytes : Nat} {τ : Ty} {l : List (El τ)} {k : IntKind} {i : Int} {a : El τ} (T : SliceT P t el z τ.n bytes) (hx : ∀ w', Stp c.O c.w w' → Rd τ l (e x) w') (hj : e j = .int k i) (ha : lget0 l i = some a) :
    ∃ v, (execOp e ⟨none, .indexAddr t x j, ty, "", #[], none⟩).run P c.w = .ok (.value v) c.w ∧ Rep c (.pt (flat τ a)) v := by
  obtain ⟨b, cap, cs, h1, h2, h3, h4, h5, h6⟩ := rd_cells hx
  obtain ⟨hi, hla⟩ := lget_some ha
  have hlt : i.toNat < l.length := (List.getElem?_eq_some_iff.1 hla).1
  cases b with
  | none => have := (h4 rfl).1; omega
  | some p =>
    obtain ⟨us, hus, hru⟩ := h5.get hla
    refine ⟨_, run_ix T h1 hj ⟨hi, by omega⟩, ?_⟩
    simp only [Rep]
    refine ⟨_, us, rfl, hru, flat_one hru, fun w' hs => ?_⟩
    have hc := (h6 w' hs p rfl).drop (i.toNat * τ.n)
    obtain ⟨rest, hrest⟩ := flatten_at τ.n cs i.toNat us (All2.lens h5) hus
    rw [hrest] at hc
    intro q u hq
    refine hc q u ?_
    rw [List.getElem?_append_left (List.getElem?_eq_some_iff.1 hq).1]; exact hq
theorem own_shape {w : World} {e sz n : Nat} {v : Value} {vs : List Value} (h : w.ownsRow 0 e sz v n vs) (hn : 0 < n) : ∃ g cap, v = .slice (some ⟨g, 0, none⟩) n cap := by
  rcases h.2 with ⟨_, h0⟩ | ⟨g, cap, cur, rfl, _⟩
  · omega
  · exact ⟨g, cap, rfl⟩
theorem own_shape' {w : World} {e sz n : Nat} {v : Value} {vs : List Value} (h : w.ownsRow 0 e sz v n vs) : ∃ a cap, v = .slice a n cap := by
  rcases h.2 with ⟨rfl, rfl⟩ | ⟨g, cap, cur, rfl, _⟩
  · exact ⟨_, _, rfl⟩
  · exact ⟨_, _, rfl⟩
theorem beqN {a b : Nat} (h : Nat.beq a b = true) : a = b := by simpa using h
theorem evIxA_ok (hT : TTok P T) {t : TypeId} {x j : Operand} (h : evIxA T hk t (evx L x) ((evx L j).bind num?) K = some r) : ∃ tr, K tr = some r ∧ TrOK P I L hk m (.indexAddr t x j) tr := by
  unfold evIxA at h
  try simp only [iadd_d, isub_d, imul_d, iquo_d, irem_d, ibit_d, ineg_d, ieq_d, ine_d, ilt_d, ile_d, ishl_d, ishr_d, beq_d, bnot_d, and_d, seq_d, u8op_d, u32op_d, u64op_d, u8shr_d, u8shl_d, u64shr_d, u64shl_d, u32shr_d, u32shl_d, i64w_d, u8i_d, u64i_d, iu8_d, iu32_d, iu64_d, u8u64_d, u64u8_d, u32u8_d, u64cmp_d, u8cmp_d, u32cmp_d, llen_d, lget_d, linb_d, lset_d, lcut_d, lrep_d, lapp_d, lcpy_d, lemp_d, fits_d, fitn_d] at h
  split at h
  · rename_i k o i hx hj
    split at h
    · rename_i n el hu
      obtain ⟨ti, hti, hu'⟩ := uOf_some hu
      have hq := (hT _ _ hti).und
      rw [hu'] at hq
      have hq : P.underlying t = some (.array n el) := hq
      split at h
      · rename_i e hel
        cases h1 : ile0 0 i with
        | false => rw [h1] at h; cases h
        | true =>
          cases h2 : ilt0 i n with
          | false => rw [h1, h2] at h; cases h
          | true =>
            rw [h1, h2] at h
            have h1 : 0 ≤ i := by simpa [ile0] using h1
            have h2 : i < n := by simpa [ilt0] using h2
            refine ⟨_, h, TrOK.mk0 fun ty => OPL_run0 fun c ev hG he => ?_⟩
            obtain ⟨kk, hjv⟩ := num_val he hj
            have hv := he x _ hx
            simp only [Rep] at hv
            obtain ⟨hN, b, hb, hu⟩ := hv
            obtain ⟨inf, hinf, hs⟩ := Option.map_eq_some_iff.1 (hT _ _ hel).sz
            refine ⟨.pointer (some ⟨b, o + i.toNat * e.size, none⟩), ?_, by simp only [Rep]; exact ⟨hN, b, hb, rfl⟩⟩
            have h3 : execOp ev ⟨none, .indexAddr t x j, ty, "", #[], none⟩ = (do pure (.value (← Instr.indexAt t (ev x) (ev j)))) := rfl
            rw [h3, hu, hjv]
            simp only [Instr.indexAt, asIntOf, Sem.run_bind, Sem.run_pure, Result.andThen_ok, run_underlying hq, Instr.sureAddr]
            rw [if_pos ⟨h1, h2⟩]
            simp [sizeOf, typeInfo, hinf, hs, add_lit]
      · cases h
    · cases h
  · rename_i a i hne hx hj
    split at h
    · rename_i el ei hsl
      obtain ⟨z, hS, hte, _⟩ := slOf_ok hT hsl
      split at h
      · rename_i τ l
        cases h1 : Nat.beq ei.size τ.n with
        | false => rw [h1] at h; cases h
        | true =>
          rw [h1] at h
          rw [beqN h1] at hS
          simp only [cond_true] at h
          obtain ⟨a, ha, h⟩ := Option.bind_eq_some_iff.1 h
          refine ⟨_, h, TrOK.mk0 fun ty => OPL_run0 fun c ev hG he => ?_⟩
          obtain ⟨kk, hjv⟩ := num_val he hj
          have hv := he x _ hx
          simp only [Rep] at hv
          exact ix_read hS hv hjv ha
      · rename_i τ l
        cases h1 : Nat.beq ei.size τ.n with
        | false => rw [h1] at h; cases h
        | true =>
          rw [h1] at h
          rw [beqN h1] at hS
          simp only [cond_true] at h
          obtain ⟨a, ha, h⟩ := Option.bind_eq_some_iff.1 h
          refine ⟨_, h, TrOK.mk0 fun ty => OPL_run0 fun c ev hG he => ?_⟩
          obtain ⟨kk, hjv⟩ := num_val he hj
          have hv := he x _ hx
          simp only [Rep] at hv
          exact ix_read hS hv.2 hjv ha
      · rename_i k
        split at h
        · rename_i e τ l hkk
          cases h1 : Nat.beq ei.size τ.n with
          | false => rw [h1] at h; cases h
          | true =>
            cases h2 : linb0 l i with
            | false => rw [h1, h2] at h; cases h
            | true =>
              rw [h1, h2] at h
              rw [beqN h1] at hS
              have h2 : 0 ≤ i ∧ i < l.length := by simpa [linb0] using h2
              refine ⟨_, h, TrOK.look hkk fun c ev ty hG he hN hH hO => ?_⟩
              obtain ⟨kk, hjv⟩ := num_val he hj
              have hv := he x _ hx
              simp only [Rep] at hv
              obtain ⟨vs, h3, h4, h5⟩ := hH
              obtain ⟨g, cap, hg⟩ := own_shape h3 (by omega)
              refine ⟨_, run_ix hS (hv.2.1.trans hg) hjv h2, ?_⟩
              simp only [Rep, add_lit]
              exact ⟨hN, g, by rw [hg]; rfl, by simp⟩
        · rename_i e sz n cells hkk
          cases h1 : Nat.beq ei.size sz with
          | false => rw [h1] at h; cases h
          | true =>
            cases h2 : ile0 0 i with
            | false => rw [h1, h2] at h; cases h
            | true =>
              cases h3 : ilt0 i n with
              | false => rw [h1, h2, h3] at h; cases h
              | true =>
                rw [h1, h2, h3] at h
                rw [beqN h1] at hS
                have h2 : 0 ≤ i := by simpa [ile0] using h2
                have h3 : i < n := by simpa [ilt0] using h3
                refine ⟨_, h, TrOK.look hkk fun c ev ty hG he hN hH hO => ?_⟩
                obtain ⟨kk, hjv⟩ := num_val he hj
                have hv := he x _ hx
                simp only [Rep] at hv
                obtain ⟨vs, h4, h5, h6⟩ := hH
                obtain ⟨g, cap, hg⟩ := own_shape h4 (by omega)
                refine ⟨_, run_ix hS (hv.2.1.trans hg) hjv ⟨h2, h3⟩, ?_⟩
                simp only [Rep, add_lit]
                exact ⟨hN, g, by rw [hg]; rfl, by simp⟩
        · cases h
      · cases h
    · cases h
  · cases h
theorem evIx_ok (hT : TTok P T) {t : TypeId} {x j : Operand} (h : evIx T t (evx L x) ((evx L j).bind num?) K = some r) : ∃ tr, K tr = some r ∧ TrOK P I L hk m (.index t x j) tr := by
  unfold evIx at h
  try simp only [iadd_d, isub_d, imul_d, iquo_d, irem_d, ibit_d, ineg_d, ieq_d, ine_d, ilt_d, ile_d, ishl_d, ishr_d, beq_d, bnot_d, and_d, seq_d, u8op_d, u32op_d, u64op_d, u8shr_d, u8shl_d, u64shr_d, u64shl_d, u32shr_d, u32shl_d, i64w_d, u8i_d, u64i_d, iu8_d, iu32_d, iu64_d, u8u64_d, u64u8_d, u32u8_d, u64cmp_d, u8cmp_d, u32cmp_d, llen_d, lget_d, linb_d, lset_d, lcut_d, lrep_d, lapp_d, lcpy_d, lemp_d, fits_d, fitn_d] at h
  split at h
  · rename_i l i hx hj hu
    obtain ⟨ti, hti, hu'⟩ := uOf_some hu
    have hq := (hT _ _ hti).und
    rw [hu'] at hq
    have hq : P.underlying t = some .string := hq
    obtain ⟨a, ha, h⟩ := Option.bind_eq_some_iff.1 h
    obtain ⟨hi, hla⟩ := lget_some ha
    refine ⟨_, h, TrOK.mk0 fun ty => OPL_run0 fun c ev hG he => ?_⟩
    obtain ⟨kk, hjv⟩ := num_val he hj
    have hv := he x _ hx
    simp only [Rep] at hv
    refine ⟨byteV a, ?_, by simp only [Rep]⟩
    have h3 : execOp ev ⟨none, .index t x j, ty, "", #[], none⟩ = (do pure (.value (← Instr.index t (ev x) (ev j)))) := rfl
    have hget : (if 0 ≤ i then (⟨l.toArray⟩ : ByteArray)[i.toNat]? else none) = some a := by
      rw [if_pos hi]
      have hlt : i.toNat < l.length := (List.getElem?_eq_some_iff.1 hla).1
      have hsz : i.toNat < (⟨l.toArray⟩ : ByteArray).size := by simpa [ByteArray.size] using hlt
      rw [getElem?_pos (⟨l.toArray⟩ : ByteArray) i.toNat hsz]
      have := (List.getElem?_eq_some_iff.1 hla).2
      rw [← this]
      rfl
    rw [h3, hv, hjv]
    simp only [Instr.index, asIntOf, Sem.run_bind, Sem.run_pure, Result.andThen_ok, run_underlying hq, hget]
    rfl
  · rename_i l i n el hx hj hu
    obtain ⟨ti, hti, hu'⟩ := uOf_some hu
    have hq := (hT _ _ hti).und
    rw [hu'] at hq
    have hq : P.underlying t = some (.array n el) := hq
    split at h
    · rename_i e hel
      cases h0 : (scalar e.u && Nat.beq e.size 1 && Nat.beq l.length n) with
      | false => rw [h0] at h; cases h
      | true =>
        cases h1 : ile0 0 i with
        | false => rw [h0, h1] at h; cases h
        | true =>
          cases h2 : ilt0 i n with
          | false => rw [h0, h1, h2] at h; cases h
          | true =>
            rw [h0, h1, h2] at h
            simp only [Bool.and_eq_true] at h0
            have h1 : 0 ≤ i := by simpa [ile0] using h1
            have h2 : i < n := by simpa [ilt0] using h2
            simp only [cond_true] at h
            obtain ⟨s, hs, h⟩ := evK_some h
            refine ⟨_, h, TrOK.mk0 fun ty => OPL_run0 fun c ev hG he => ?_⟩
            obtain ⟨kk, hjv⟩ := num_val he hj
            have hv := he x _ hx
            simp only [Rep] at hv
            obtain ⟨us, hu, hr, hone⟩ := hv
            obtain ⟨d, hd, hpd⟩ := (hT _ _ hel).plain
            obtain ⟨v, hv2, hrv⟩ := run_part (P := P) (w := c.w) (o := i.toNat) (n := e.size) hd (hT _ _ hel).sz (by rw [hpd, h0.1.1]; simp only [ldCells, cond_true, List.head?_drop]; exact hs) hr hone
            refine ⟨v, ?_, hrv⟩
            have h3 : execOp ev ⟨none, .index t x j, ty, "", #[], none⟩ = (do pure (.value (← Instr.index t (ev x) (ev j)))) := rfl
            obtain ⟨inf, hinf, hsz⟩ := Option.map_eq_some_iff.1 (hT _ _ hel).sz
            have he1 : e.size = 1 := beqN h0.1.2
            rw [h3, hu, hjv]
            simp only [Instr.index, asIntOf, Sem.run_bind, Sem.run_pure, Result.andThen_ok, run_underlying hq]
            rw [if_pos ⟨h1, h2⟩]
            simp [sizeOf, typeInfo, hinf, hsz, he1, hv2]
    · cases h
  · cases h

/-! ### Lengths -/
theorem run_len {e : Operand → Value} {x : Operand} {t el : TypeId} {a : Option Addr} {n cap : Nat} {w : World} (ht : P.underlying t = some (.slice el)) (hx : e x = .slice a n cap) :
    (execOp e ⟨none, .call { callee := .builtin .len, args := #[x], argTypes := #[t] }, ty, "", #[], none⟩).run P w = .ok (.value (.int .i64 (n : Int))) w :=
  run_builtin e _ _ _ (by simp [builtin, Builtin.len_, hx, run_underlying ht, goInt])
theorem evLen_ok (hT : TTok P T) {t : TypeId} {x : Operand} (h : evLen T t hk (evx L x) K = some r) : ∃ tr, K tr = some r ∧ TrOK P I L hk m (.call { callee := .builtin .len, args := #[x], argTypes := #[t] }) tr := by
  have slU : ∀ {el}, uOf T t = some (.sl el) → P.underlying t = some (.slice el) := by
    intro el hu
    obtain ⟨ti, hti, hu'⟩ := uOf_some hu
    have hq := (hT _ _ hti).und
    rw [hu'] at hq
    exact hq
  unfold evLen at h
  try simp only [iadd_d, isub_d, imul_d, iquo_d, irem_d, ibit_d, ineg_d, ieq_d, ine_d, ilt_d, ile_d, ishl_d, ishr_d, beq_d, bnot_d, and_d, seq_d, u8op_d, u32op_d, u64op_d, u8shr_d, u8shl_d, u64shr_d, u64shl_d, u32shr_d, u32shl_d, i64w_d, u8i_d, u64i_d, iu8_d, iu32_d, iu64_d, u8u64_d, u64u8_d, u32u8_d, u64cmp_d, u8cmp_d, u32cmp_d, llen_d, lget_d, linb_d, lset_d, lcut_d, lrep_d, lapp_d, lcpy_d, lemp_d, fits_d, fitn_d] at h
  split at h
  · rename_i el τ l hu hx
    refine ⟨_, h, TrOK.mk0 fun ty => OPL_run0 fun c ev hG he => ?_⟩
    have hv := he x _ hx
    simp only [Rep] at hv
    obtain ⟨a, cap, cs, h1, _⟩ := rd_cells hv
    exact ⟨_, run_len (slU hu) h1, by simp only [Rep]; rfl⟩
  · rename_i el τ l hu hx
    refine ⟨_, h, TrOK.mk0 fun ty => OPL_run0 fun c ev hG he => ?_⟩
    have hv := he x _ hx
    simp only [Rep] at hv
    obtain ⟨a, cap, cs, h1, _⟩ := rd_cells hv.2
    exact ⟨_, run_len (slU hu) h1, by simp only [Rep]; rfl⟩
  · rename_i el hu hx
    refine ⟨_, h, TrOK.mk0 fun ty => OPL_run0 fun c ev hG he => ?_⟩
    have hv := he x _ hx
    simp only [Rep] at hv
    exact ⟨_, run_len (slU hu) hv, by simp only [Rep]; rfl⟩
  · rename_i l hu hx
    obtain ⟨ti, hti, hu'⟩ := uOf_some hu
    have hq := (hT _ _ hti).und
    rw [hu'] at hq
    have hq : P.underlying t = some .string := hq
    refine ⟨_, h, TrOK.mk0 fun ty => OPL_run0 fun c ev hG he => ?_⟩
    have hv := he x _ hx
    simp only [Rep] at hv
    refine ⟨.int .i64 ((⟨l.toArray⟩ : ByteArray).size : Int), run_builtin ev _ _ _ (by simp [builtin, Builtin.len_, hv, run_underlying hq, goInt]), by simp only [Rep]; rfl⟩
  · rename_i el k hu hx
    split at h
    · rename_i e τ l hkk
      refine ⟨_, h, TrOK.look hkk fun c ev ty hG he hN hH hO => ?_⟩
      have hv := he x _ hx
      simp only [Rep] at hv
      obtain ⟨vs, h3, _⟩ := hH
      obtain ⟨a, cap, hg⟩ := own_shape' h3
      exact ⟨_, run_len (slU hu) (hv.2.1.trans hg), by simp only [Rep]; rfl⟩
    · rename_i e sz n cells hkk
      refine ⟨_, h, TrOK.look hkk fun c ev ty hG he hN hH hO => ?_⟩
      have hv := he x _ hx
      simp only [Rep] at hv
      obtain ⟨vs, h3, _⟩ := hH
      obtain ⟨a, cap, hg⟩ := own_shape' h3
      exact ⟨_, run_len (slU hu) (hv.2.1.trans hg), by simp only [Rep]⟩
    · cases h
  · cases h
end
end Go.Ax
