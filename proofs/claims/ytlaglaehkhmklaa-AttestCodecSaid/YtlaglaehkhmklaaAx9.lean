/-
  Own text. The abstract machine: stores, fields, structs made of parts, new variables. It claims nothing of any program.
-/
import Derived.Test.YtlaglaehkhmklaaAx8
namespace Go.Ax
open Go Go.RowKit Go.Eng
set_option linter.unusedVariables false
set_option linter.unusedSimpArgs false
section
variable {P : Program} {I : World → Prop} {L : LX} {ty : TypeId} {T : TT}

theorem uOf_some {t : TypeId} {u : Und} (h : uOf T t = some u) : ∃ i, tlk t T = some i ∧ i.u = u := by
  unfold uOf at h
  split at h
  · rename_i i hi; exact ⟨i, hi, Option.some.inj h⟩
  · cases h
theorem mapM_get {α β : Type} {f : α → Option β} : ∀ {l : List α} {r : List β} {i : Nat} {y : β}, l.mapM f = some r → r[i]? = some y → ∃ x, l[i]? = some x ∧ f x = some y
  | [], r, i, y, h, hy => by simp at h; subst h; simp at hy
  | a :: l, r, i, y, h, hy => by
    rw [List.mapM_cons] at h
    obtain ⟨b, hb, h⟩ := Option.bind_eq_some_iff.1 h
    obtain ⟨bs, hbs, h⟩ := Option.bind_eq_some_iff.1 h
    obtain rfl : b :: bs = r := by simpa using h
    cases i with
    | zero => simp only [List.getElem?_cons_zero, Option.some.injEq] at hy; subst hy; exact ⟨a, rfl, hb⟩
    | succ i => simp only [List.getElem?_cons_succ] at hy ⊢; exact mapM_get hbs hy
theorem fld_ok (hT : TTok P T) {t : TypeId} {pl : List (Nat × Nat)} {sc : List Bool} (h : uOf T t = some (.fld pl sc)) : plOf P t = some pl ∧ scOf P t = some sc := by
  obtain ⟨i, hi, hu⟩ := uOf_some h
  have := (hT _ _ hi).und
  rw [hu] at this
  exact this
theorem plOf_get {t : TypeId} {pl : List (Nat × Nat)} {f o n : Nat} (h : plOf P t = some pl) (hf : pl[f]? = some (o, n)) : ∃ fs fd i, P.underlying t = some (.struct fs) ∧ fs[f]? = some fd ∧ P.info? fd.type = some i ∧ fd.offset = o ∧ i.size = n := by
  unfold plOf at h
  split at h
  · rename_i fs hfs
    obtain ⟨fd, h1, h2⟩ := mapM_get h hf
    obtain ⟨i, hi, h3⟩ := Option.map_eq_some_iff.1 h2
    simp only [Prod.mk.injEq] at h3
    exact ⟨fs, fd, i, hfs, by rw [← Array.getElem?_toList]; exact h1, hi, h3.1, h3.2⟩
  · cases h
theorem scOf_get {t : TypeId} {sc : List Bool} {f : Nat} {b : Bool} (h : scOf P t = some sc) (hf : sc[f]? = some b) : ∃ fs fd d, P.underlying t = some (.struct fs) ∧ fs[f]? = some fd ∧ P.underlying fd.type = some d ∧ plainT d = b := by
  unfold scOf at h
  split at h
  · rename_i fs hfs
    obtain ⟨fd, h1, h2⟩ := mapM_get h hf
    obtain ⟨d, hd, h3⟩ := Option.map_eq_some_iff.1 h2
    exact ⟨fs, fd, d, hfs, by rw [← Array.getElem?_toList]; exact h1, hd, h3⟩
  · cases h
theorem run_fieldAt {t : TypeId} {pl : List (Nat × Nat)} {f o n : Nat} {w : World} {p : Addr} (h : plOf P t = some pl) (hf : pl[f]? = some (o, n)) (hn : Nat.beq n 0 = false) : (Instr.fieldAt t (.pointer (some p)) f).run P w = .ok (.pointer (some (p.add o))) w := by
  obtain ⟨fs, fd, i, h1, h2, h3, rfl, rfl⟩ := plOf_get h hf
  have hsz : i.size ≠ 0 := fun e => by rw [e] at hn; simp at hn
  simp only [Instr.fieldAt, Sem.run_bind, run_underlying h1, Result.andThen_ok, h2, Instr.sureAddr, Sem.run_pure, fieldPlace, sizeOf, typeInfo, run_program, h3]
  rw [if_neg hsz]
  simp
theorem add_lit (b o j : Nat) : (⟨b, o, none⟩ : Addr).add j = ⟨b, o + j, none⟩ := by
  unfold Addr.add; split
  · rename_i h; subst h; rfl
  · rfl
theorem exec_fldA {e : Operand → Value} {t : TypeId} {x : Operand} {p : Addr} {f o n : Nat} {pl : List (Nat × Nat)} {w : World} (hx : e x = .pointer (some p)) (h : plOf P t = some pl) (hf : pl[f]? = some (o, n)) (hn : Nat.beq n 0 = false) : (execOp e ⟨none, .fieldAddr t x f, ty, "", #[], none⟩).run P w = .ok (.value (.pointer (some (p.add o)))) w := by
  have h1 : execOp e ⟨none, .fieldAddr t x f, ty, "", #[], none⟩ = (do pure (.value (← Instr.fieldAt t (e x) f))) := rfl
  rw [h1, hx]
  simp [run_fieldAt h hf hn]
theorem evFldA_ok (hT : TTok P T) {hk : Nat → Option Rs} {m : Nat} {t : TypeId} {x : Operand} {f : Nat} {R : Type} {K : Tr → Option R} {r : R} (h : evFldA T t (evx L x) f K = some r) : ∃ tr, K tr = some r ∧ TrOK P I L hk m (.fieldAddr t x f) tr := by
  have hpl : ∀ {o n}, (fldOf T t).bind (·[f]?) = some (o, n) → ∃ pl, plOf P t = some pl ∧ pl[f]? = some (o, n) := by
    intro o n h
    obtain ⟨pl, h1, h2⟩ := Option.bind_eq_some_iff.1 h
    unfold fldOf at h1
    split at h1
    · rename_i pl' sc hu
      obtain rfl := Option.some.inj h1
      exact ⟨pl', (fld_ok hT hu).1, h2⟩
    · cases h1
  unfold evFldA at h
  try simp only [iadd_d, isub_d, imul_d, iquo_d, irem_d, ibit_d, ineg_d, ieq_d, ine_d, ilt_d, ile_d, ishl_d, ishr_d, beq_d, bnot_d, and_d, seq_d, u8op_d, u32op_d, u64op_d, u8shr_d, u8shl_d, u64shr_d, u64shl_d, u32shr_d, u32shl_d, i64w_d, u8i_d, u64i_d, iu8_d, iu32_d, iu64_d, u8u64_d, u64u8_d, u32u8_d, u64cmp_d, u8cmp_d, u32cmp_d, llen_d, lget_d, linb_d, lset_d, lcut_d, lrep_d, lapp_d, lcpy_d, lemp_d, fits_d, fitn_d] at h
  split at h
  · rename_i o' n k o hp hx
    obtain ⟨pl, h1, h2⟩ := hpl hp
    cases hn : Nat.beq n 0 with
    | true => rw [hn] at h; cases h
    | false =>
      rw [hn] at h
      refine ⟨_, h, TrOK.mk0 fun ty => OPL_run0 fun c e hG he => ?_⟩
      have hv := he x _ hx
      simp only [Rep] at hv
      obtain ⟨hN, b, hb, hu⟩ := hv
      exact ⟨_, exec_fldA hu h1 h2 hn, by simp only [Rep, add_lit]; exact ⟨hN, b, hb, rfl⟩⟩
  · rename_i o' n k j s o hp hx
    obtain ⟨pl, h1, h2⟩ := hpl hp
    cases hn : Nat.beq n 0 with
    | true => rw [hn] at h; cases h
    | false =>
      rw [hn] at h
      refine ⟨_, h, TrOK.mk0 fun ty => OPL_run0 fun c e hG he => ?_⟩
      have hv := he x _ hx
      simp only [Rep] at hv
      obtain ⟨hN, b, hb, hu⟩ := hv
      exact ⟨_, exec_fldA hu h1 h2 hn, by simp only [Rep, add_lit]; exact ⟨hN, b, hb, by rw [Nat.add_assoc]⟩⟩
  · rename_i o' n l hp hx
    obtain ⟨pl, h1, h2⟩ := hpl hp
    cases hn : Nat.beq n 0 with
    | true => rw [hn] at h; cases h
    | false =>
      rw [hn] at h
      refine ⟨_, h, TrOK.mk0 fun ty => OPL_run0 fun c e hG he => ?_⟩
      have hv := he x _ hx
      simp only [Rep] at hv
      obtain ⟨p, us, hu, h3, h4, h5⟩ := hv
      exact ⟨_, exec_fldA hu h1 h2 hn, by simp only [Rep]; exact ⟨_, us.drop o', rfl, h3.drop _, fun u hu => h4 u (List.mem_of_mem_drop hu), fun w' hs => (h5 w' hs).drop _⟩⟩
  · cases h

/-! ### Stores -/
theorem Reps.set {c : Cx} {cells l : List AV} {us vs : List Value} (h : Reps c cells us) (k : Reps c l vs) (off : Nat) : Reps c (cells.take off ++ l ++ cells.drop (off + l.length)) (us.take off ++ vs ++ us.drop (off + vs.length)) := by
  rw [k.len]
  exact ((h.take off).app k).app (h.drop _)
theorem mem_seg {α : Type} {us vs : List α} {o j : Nat} {u : α} (h : u ∈ us.take o ++ vs ++ us.drop j) : u ∈ us ∨ u ∈ vs := by
  rcases List.mem_append.1 h with h | h
  · rcases List.mem_append.1 h with h | h
    · exact .inl (List.mem_of_mem_take h)
    · exact .inr h
  · exact .inl (List.mem_of_mem_drop h)
theorem exec_store {e : Operand → Value} {t : TypeId} {x y : Operand} {p : Addr} {vs : List Value} {w w' : World} {n : Nat} (hx : e x = .pointer (some p)) (hy : (e y).cells = vs.toArray) (hsz : (P.info? t).map (·.size) = some n) (hn : vs.length = n) (h : (storeCells p vs).run P w = .ok () w') : (execOp e ⟨none, .store t x y, ty, "", #[], none⟩).run P w = .ok .skip w' := by
  obtain ⟨i, hi, hs⟩ := Option.map_eq_some_iff.1 hsz
  have h0 : execOp e ⟨none, .store t x y, ty, "", #[], none⟩ = (do Instr.storeAt t (e x) (e y); pure .skip) := rfl
  have hrun : (Instr.storeAt t (.pointer (some p)) (e y)).run P w = .ok () w' := by
    simp only [Instr.storeAt, Instr.sureAddr, Sem.run_bind, Sem.run_pure, Result.andThen_ok, storeVar, sizeOf, typeInfo, run_program, hi, hs, hy]
    rw [if_neg (by simp [hn])]
    exact h
  rw [h0, hx]
  simp only [Sem.run_bind, hrun, Result.andThen_ok, Sem.run_pure]
theorem flatten_len {β : Type} (sz : Nat) : ∀ (cs : List (List β)), (∀ c ∈ cs, c.length = sz) → cs.flatten.length = cs.length * sz
  | [], _ => by simp
  | a :: cs, h => by
    rw [List.flatten_cons, List.length_append, flatten_len sz cs (fun c hc => h c (List.mem_cons_of_mem _ hc)), h a (List.mem_cons_self ..), List.length_cons, Nat.add_mul]; omega
theorem flatten_set {β : Type} (sz : Nat) (vs : List β) (o : Nat) : ∀ (cs : List (List β)) (i : Nat) (c : List β), (∀ c ∈ cs, c.length = sz) → cs[i]? = some c → o + vs.length ≤ sz →
    cs.flatten.take (i * sz + o) ++ vs ++ cs.flatten.drop (i * sz + o + vs.length) = (cs.set i (c.take o ++ vs ++ c.drop (o + vs.length))).flatten
  | [], i, c, _, h, _ => by simp at h
  | a :: cs, 0, c, hs, h, hle => by
    simp only [List.getElem?_cons_zero, Option.some.injEq] at h
    subst h
    have ha := hs a (List.mem_cons_self ..)
    simp only [Nat.zero_mul, Nat.zero_add, List.flatten_cons, List.set_cons_zero]
    rw [List.take_append_of_le_length (by omega), List.drop_append_of_le_length (by omega)]
    simp only [List.append_assoc]
  | a :: cs, i + 1, c, hs, h, hle => by
    have ha := hs a (List.mem_cons_self ..)
    have ih := flatten_set sz vs o cs i c (fun c hc => hs c (List.mem_cons_of_mem _ hc)) (by simpa using h) hle
    simp only [List.flatten_cons, List.set_cons_succ]
    rw [← ih]
    have e1 : (i + 1) * sz + o = a.length + (i * sz + o) := by rw [ha, Nat.add_mul]; omega
    rw [e1, List.take_append, List.take_of_length_le (by omega), Nat.add_sub_cancel_left, Nat.add_assoc, List.drop_append, List.drop_eq_nil_of_le (by omega), List.nil_append, Nat.add_sub_cancel_left]
    simp only [List.append_assoc]
theorem All2.set {α β : Type} {R : α → β → Prop} : ∀ {l : List α} {m : List β} (i : Nat) {a : α} {b : β}, All2 R l m → R a b → All2 R (l.set i a) (m.set i b)
  | [], [], i, a, b, _, _ => by simp [All2]
  | x :: l, y :: m, 0, a, b, h, hr => ⟨hr, h.2⟩
  | x :: l, y :: m, i + 1, a, b, h, hr => ⟨h.1, All2.set i h.2 hr⟩
  | [], _ :: _, _, _, _, h, _ => h.elim
  | _ :: _, [], _, _, _, h, _ => h.elim
theorem evStore_ok (hT : TTok P T) {hk : Nat → Option Rs} {m : Nat} {t : TypeId} {x y : Operand} {R : Type} {K : Tr → Option R} {r : R} (h : evStore T hk t (evx L x) ((evx L y).bind cellsA) K = some r) : ∃ tr, K tr = some r ∧ TrOK P I L hk m (.store t x y) tr := by
  unfold evStore at h
  try simp only [iadd_d, isub_d, imul_d, iquo_d, irem_d, ibit_d, ineg_d, ieq_d, ine_d, ilt_d, ile_d, ishl_d, ishr_d, beq_d, bnot_d, and_d, seq_d, u8op_d, u32op_d, u64op_d, u8shr_d, u8shl_d, u64shr_d, u64shl_d, u32shr_d, u32shl_d, i64w_d, u8i_d, u64i_d, iu8_d, iu32_d, iu64_d, u8u64_d, u64u8_d, u32u8_d, u64cmp_d, u8cmp_d, u32cmp_d, llen_d, lget_d, linb_d, lset_d, lcut_d, lrep_d, lapp_d, lcpy_d, lemp_d, fits_d, fitn_d] at h
  split at h
  · rename_i i k o l hi hx hy
    have hti := hT _ _ hi
    obtain ⟨sy, hsy, hcl⟩ := Option.bind_eq_some_iff.1 hy
    split at h
    · rename_i cells hkk
      cases hc : (Nat.beq l.length i.size && Nat.ble (o + l.length) cells.length) with
      | false => rw [hc] at h; cases h
      | true =>
        rw [hc] at h
        simp only [Bool.and_eq_true] at hc
        have hln : l.length = i.size := by simpa using hc.1
        have hle : o + l.length ≤ cells.length := by simpa using hc.2
        refine ⟨_, h, ⟨fun ty => OPL_skip fun c e hG he hP => ?_, fun q R' hq => by obtain ⟨rfl, rfl⟩ := flk_one_eq hq; exact hkk, fun q hq => .inl ((has_one _ _ _).2 ((has_one _ _ _).1 hq)), fun h => by cases h⟩⟩
        obtain ⟨hN, hH, hO⟩ := pre_one hP
        obtain ⟨b, us, h2, h3, h4, h5⟩ := hH
        have hu := pa_eq (he x _ hx) h2
        obtain ⟨vs, hvs, hrv, hone⟩ := cellsA_ok (he y _ hsy) hcl
        have hvl := hrv.len
        have hul := h4.len
        obtain ⟨TT', hTT⟩ := id h3
        have hst := run_storeCells_at P b o TT' vs 0 us.toArray c.w hTT (by simp; omega) hone
        simp only [Nat.add_zero] at hst
        have hB' : Blk (c.w.setRow b (us.take o ++ vs ++ us.drop (o + vs.length)).toArray) b (us.take o ++ vs ++ us.drop (o + vs.length)) := h3.setRow
        have hstp : Stp (fun x => blk (c.ν k) = some x) c.w (c.w.setRow b (us.take o ++ vs ++ us.drop (o + vs.length)).toArray) := (Stp.of_grown (grownBy_setRow c.w b _)).mono fun i _ h => by rw [h2]; exact h
        have hbO : c.O b := hO b (by rw [h2]; rfl)
        have hle2 : Cx.Le none c ⟨c.N, c.ν, c.O, c.w.setRow b (us.take o ++ vs ++ us.drop (o + vs.length)).toArray⟩ := ⟨fun k _ h => ⟨h, rfl⟩, fun w'' h => hstp.then h (fun i _ e => hO i e) fun i _ e => e⟩
        refine ⟨_, c.ν, exec_store hu hvs hti.sz (by omega) (by simpa using hst), Ok.change hN hO hG.lt hstp ⟨b, _, h2, hB', Reps.le hle2 _ _ (nqL_none _) (h4.set hrv o), fun u hu => ?_⟩ (by simp only [Rep])⟩
        exact (mem_seg hu).elim (h5 u) (hone u)
    · cases h
  · rename_i i k j sz o l hi hx hy
    have hti := hT _ _ hi
    obtain ⟨sy, hsy, hcl⟩ := Option.bind_eq_some_iff.1 hy
    split at h
    · rename_i e' t' ls hkk
      cases hc : (Nat.beq sz t'.n && Nat.beq l.length i.size && Nat.ble (o + l.length) t'.n) with
      | false => rw [hc] at h; cases h
      | true =>
        rw [hc] at h
        simp only [Bool.and_eq_true] at hc
        have hsz : sz = t'.n := by simpa using hc.1.1
        have hln : l.length = i.size := by simpa using hc.1.2
        have hle : o + l.length ≤ t'.n := by simpa using hc.2
        simp only [cond_true] at h
        obtain ⟨a, ha, h⟩ := Option.bind_eq_some_iff.1 h
        split at h
        · rename_i a' hunf
          refine ⟨_, h, ⟨fun ty => OPL_skip fun c e hG he hP => ?_, fun q R' hq => by obtain ⟨rfl, rfl⟩ := flk_one_eq hq; exact hkk, fun q hq => .inl ((has_one _ _ _).2 ((has_one _ _ _).1 hq)), fun h => by cases h⟩⟩
          obtain ⟨hN, hH, hO⟩ := pre_one hP
          obtain ⟨vs, h2, h3, h4⟩ := hH
          have hp := he x _ hx
          simp only [Rep] at hp
          obtain ⟨_, b, hb, hu⟩ := hp
          obtain ⟨hj, hla⟩ := lget_some ha
          obtain ⟨cs, rfl, hcs⟩ := h3.flatL
          obtain ⟨us, hus, hru⟩ := hcs.get hla
          obtain ⟨ws, hws, hrw, hone⟩ := cellsA_ok (he y _ hsy) hcl
          have hwl := hrw.len
          have hul : us.length = t'.n := by rw [hru.len, flat_len]
          have hlens := All2.lens hcs
          have hjlt : j.toNat < ls.length := (List.getElem?_eq_some_iff.1 hla).1
          rcases h2.2 with ⟨hv, _⟩ | ⟨g, cap, cur, hv, hg0, hg, hnc, hcm, hcs', htake⟩
          · rw [hv] at hb; cases hb
          · rw [hv] at hb
            simp only [blk, Option.some.injEq] at hb
            subst hb
            have hbnd : j.toNat * t'.n + o + ws.length ≤ ls.length * t'.n := by
              have : (j.toNat + 1) * t'.n ≤ ls.length * t'.n := Nat.mul_le_mul_right _ hjlt
              rw [Nat.add_mul] at this; omega
            have hcap : ls.length * t'.n ≤ cap * t'.n := Nat.mul_le_mul_right _ hnc
            have hst := run_storeCells_at P g (j.toNat * t'.n + o) e' ws 0 cur c.w hg (by omega) hone
            simp only [Nat.add_zero] at hst
            have hstp : Stp (fun x => blk (c.ν k) = some x) c.w (c.w.setRow g (cur.toList.take (j.toNat * t'.n + o) ++ ws ++ cur.toList.drop (j.toNat * t'.n + o + ws.length)).toArray) := (Stp.of_grown (grownBy_setRow c.w g _)).mono fun i _ h => by rw [hv]; exact h
            have hle2 : Cx.Le none c ⟨c.N, c.ν, c.O, c.w.setRow g (cur.toList.take (j.toNat * t'.n + o) ++ ws ++ cur.toList.drop (j.toNat * t'.n + o + ws.length)).toArray⟩ := ⟨fun k _ h => ⟨h, rfl⟩, fun w'' h => hstp.then h (fun i _ e => hO i e) fun i _ e => e⟩
            have hnew : Reps ⟨c.N, c.ν, c.O, c.w.setRow g (cur.toList.take (j.toNat * t'.n + o) ++ ws ++ cur.toList.drop (j.toNat * t'.n + o + ws.length)).toArray⟩ (flatL t' (lset0 ls j a')) (cs.set j.toNat (us.take o ++ ws ++ us.drop (o + ws.length))).flatten := by
              refine Reps.of_flatL (All2.set _ (hcs.mono fun x m hm => Reps.le hle2 _ _ (nqL_none _) hm) ?_)
              refine unf_all hunf ?_
              exact Reps.le hle2 _ _ (nqL_none _) (hru.set hrw o)
            have hfl : cs.flatten.take (j.toNat * t'.n + o) ++ ws ++ cs.flatten.drop (j.toNat * t'.n + o + ws.length) = (cs.set j.toNat (us.take o ++ ws ++ us.drop (o + ws.length))).flatten := flatten_set t'.n ws o cs j.toNat us hlens hus (by omega)
            have hfll : cs.flatten.length = ls.length * t'.n := by rw [flatten_len t'.n cs hlens, hcs.len]
            refine ⟨_, c.ν, exec_store (p := ⟨g, j.toNat * t'.n + o, none⟩) (by rw [hu, hsz]) hws hti.sz (by omega) (by simpa using hst), Ok.change hN hO hG.lt hstp ⟨_, ?_, hnew, fun u hu => flatL_one hnew u hu⟩ (by simp only [Rep])⟩
            refine ⟨?_, .inr ⟨g, cap, _, by rw [hv]; simp [lset0], Nat.zero_le _, setRow_heap c.w g cur _ e' _ hg, by simpa [lset0] using hnc, hcm, ?_, ?_⟩⟩
            · rw [← hfl]; simp only [List.length_append, List.length_take, List.length_drop, hfll, lset0, List.length_set]; omega
            · simp only [List.size_toArray, List.length_append, List.length_take, List.length_drop, Array.length_toList]; omega
            · simp only [lset0, List.length_set]
              rw [← hfl, ← htake]
              have e1 : (cur.toList.take (ls.length * t'.n)).take (j.toNat * t'.n + o) = cur.toList.take (j.toNat * t'.n + o) := by rw [List.take_take]; congr 1; omega
              rw [e1, List.take_append, List.take_of_length_le (by simp; omega)]
              congr 1
              rw [List.drop_take]
              congr 1
              simp only [List.length_append, List.length_take, Array.length_toList]; omega
        · cases h
    · cases h
  · cases h
end
end Go.Ax
