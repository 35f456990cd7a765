/-
  Own text. The abstract machine: rows of the call's own. It claims nothing of any program.
-/
import Derived.Test.YtlaglaehkhmklaaAxC
namespace Go.Ax
open Go Go.RowKit Go.Eng
set_option linter.unusedVariables false
set_option linter.unusedSimpArgs false

theorem own_lt {w : World} {base e sz n : Nat} {v : Value} {xs : List Value} (h : w.ownsRow base e sz v n xs) : ∀ b, blk v = some b → base ≤ b ∧ b < w.heap.size := by
  intro b hb
  rcases h.2 with ⟨rfl, _⟩ | ⟨g, cap, cur, rfl, h2, h3, h4⟩
  · cases hb
  · simp only [blk, Option.some.injEq] at hb
    subst hb
    exact ⟨h2, (Array.getElem?_eq_some_iff.1 h3).1⟩
theorem own_base {w : World} {base base' e sz n : Nat} {v : Value} {xs : List Value} (h : w.ownsRow base e sz v n xs) (hb : base' ≤ base) : w.ownsRow base' e sz v n xs := by
  refine ⟨h.1, ?_⟩
  rcases h.2 with h2 | ⟨g, cap, cur, h1, h2, h3⟩
  · exact .inl h2
  · exact .inr ⟨g, cap, cur, h1, Nat.le_trans hb h2, h3⟩
theorem blk_own (v : Value) (h : ∃ a n c, v = .slice a n c) : blk v = v.ownBlock := by
  obtain ⟨a, n, c, rfl⟩ := h
  cases a <;> rfl
theorem own_slice {w : World} {base e sz n : Nat} {v : Value} {xs : List Value} (h : w.ownsRow base e sz v n xs) : ∃ a n c, v = .slice a n c := by
  rcases h.2 with ⟨rfl, _⟩ | ⟨g, cap, cur, rfl, _⟩
  · exact ⟨_, _, _, rfl⟩
  · exact ⟨_, _, _, rfl⟩
/-- a new row -/
theorem Ok.newM {c : Cx} {k e sz n : Nat} {Rr : Rs} {cells : List AV} {v : Value} {vs : List Value} {w' : World} (hk : ¬ c.N k) (hG : ∀ b, c.O b → b < c.w.heap.size) (hs : Stp No c.w w') (ho : w'.ownsRow 0 e sz v n vs) (hbl : ∀ b, blk v = some b → c.w.heap.size ≤ b) (hr : Reps c cells vs) (h1 : ∀ u ∈ vs, u.oneCell' = true)
    (hR : ∀ c', HoldsM c' k e sz n cells → Holds c' k Rr) : Ok c [] [(k, Rr)] (.nm k) v w' (fun q => if q = k then v else c.ν q) := by
  have hle : Cx.Le none c ⟨fun q => c.N q ∨ q = k, fun q => if q = k then v else c.ν q, fun b => c.O b ∨ blk v = some b, w'⟩ :=
    ⟨fun q _ h => ⟨.inl h, if_neg fun (e : q = k) => hk (e ▸ h)⟩, fun w'' h => hs.then h (fun i _ h => h.elim) fun i hi hO => by
      rcases hO with h | h
      · exact h
      · have := hbl i h; omega⟩
  refine Ok.new hk hs (fun b hb => ⟨hbl b hb, (own_lt ho b hb).2⟩) (hR _ ⟨vs, ?_, Reps.le hle _ _ (nqL_none _) hr, h1⟩) ?_
  · show w'.ownsRow 0 e sz (if k = k then v else c.ν k) n vs
    rw [if_pos rfl]; exact ho
  · simp only [Rep]; exact ⟨.inr trivial, by simp, own_one ho⟩
theorem flatL_rep (τ : Ty) (x : El τ) : ∀ n, flatL τ (List.replicate n x) = repL n (flat τ x)
  | 0 => rfl
  | n + 1 => by rw [List.replicate_succ, flatL, flatL_rep τ x n]; rfl
theorem Reps.repL {c : Cx} {l : List AV} {us : List Value} (h : Reps c l us) : ∀ n, Reps c (Ax.repL n l) (Ax.repL n us)
  | 0 => by simp only [Ax.repL, Reps]
  | n + 1 => by simp only [Ax.repL]; exact h.app (Reps.repL h n)
theorem mem_repL {α : Type} {l : List α} {u : α} : ∀ {n : Nat}, u ∈ repL n l → u ∈ l
  | 0, h => by cases h
  | n + 1, h => by simp only [repL] at h; exact (List.mem_append.1 h).elim id mem_repL
theorem len_repL {α : Type} (l : List α) : ∀ n, (repL n l).length = n * l.length
  | 0 => by simp [repL]
  | n + 1 => by simp only [repL, List.length_append, len_repL l n, Nat.add_mul]; omega
theorem made_repL (z : Array Value) : ∀ n, (madeCells z (n * z.size)).toList = repL n z.toList
  | 0 => by simp [madeCells, repL]
  | n + 1 => by
    have ih := made_repL z n
    simp only [madeCells, Array.toList_map, Array.toList_range] at ih ⊢
    rw [Nat.add_mul, Nat.one_mul, Nat.add_comm, List.range_add, List.map_append, repL]
    congr 1
    · apply List.ext_getElem
      · simp
      · intro i h1 h2
        have hi : i < z.size := by simpa using h1
        simp [Nat.mod_eq_of_lt hi, hi]
    · rw [← ih, List.map_map]
      apply List.map_congr_left
      intro j _
      simp
section
variable {P : Program} {I : World → Prop} {L : LX} {ty : TypeId} {T : TT} {R : Type} {K : Tr → Option R} {r : R} {hk : Nat → Option Rs} {m : Nat}

theorem exec_mk {e : Operand → Value} {t : TypeId} {l c : Operand} {a b : Value} {v : Value} {w w' : World} (hl : e l = a) (hc : e c = b) (h : (Instr.makeSlice t a b).run P w = .ok v w') : (execOp e ⟨none, .makeSlice t l c, ty, "", #[], none⟩).run P w = .ok (.value v) w' := by
  have h1 : execOp e ⟨none, .makeSlice t l c, ty, "", #[], none⟩ = (do pure (.value (← Instr.makeSlice t (e l) (e c)))) := rfl
  rw [h1, hl, hc]
  simp only [Sem.run_bind, h, Result.andThen_ok, Sem.run_pure]
theorem evMk_ok (hT : TTok P T) {t : TypeId} {l c : Operand} (h : evMk T m t (evx L l) (evx L c) K = some r) : ∃ tr, K tr = some r ∧ TrOK P I L hk m (.makeSlice t l c) tr := by
  unfold evMk at h
  try simp only [iadd_d, isub_d, imul_d, iquo_d, irem_d, ibit_d, ineg_d, ieq_d, ine_d, ilt_d, ile_d, ishl_d, ishr_d, beq_d, bnot_d, and_d, seq_d, u8op_d, u32op_d, u64op_d, u8shr_d, u8shl_d, u64shr_d, u64shl_d, u32shr_d, u32shl_d, i64w_d, u8i_d, u64i_d, iu8_d, iu32_d, iu64_d, u8u64_d, u64u8_d, u32u8_d, u64cmp_d, u8cmp_d, u32cmp_d, llen_d, lget_d, linb_d, lset_d, lcut_d, lrep_d, lapp_d, lcpy_d, lemp_d, fits_d, fitn_d] at h
  split at h
  · rename_i el i n c' hsl hl hc
    obtain ⟨z, hS, hte, hz, hone, hby⟩ := slOf_ok hT hsl
    split at h
    · rename_i τ hτ
      split at h
      · rename_i z0 hunf
        have hn := hte.ty τ hτ
        rw [withB_eq] at h
        cases hf : fitn0 c' i.bytes with
        | false => rw [hf] at h; cases h
        | true =>
          rw [hf] at h
          simp only [cond_true] at h
          simp only [fitn0, decide_eq_true_eq] at hf
          obtain ⟨hc0, hcb⟩ := hf
          have hmax : c'.toNat ≤ maxLen := by have := Nat.le_mul_of_pos_left c'.toNat hby; unfold maxLen; omega
          obtain ⟨inf, hi, hz1, hsize, hbytes⟩ := info_parts hS.hi
          have hcc : c' = ((c'.toNat : Nat) : Int) := by omega
          cases hnc : ieq0 n c' with
          | true =>
            rw [hnc] at h
            have hnc : n = c' := by simpa [ieq0] using hnc
            subst hnc
            refine ⟨_, h, TrOK.mkN fun cx e ty hG he hnew => ?_⟩
            have h1 := he l _ hl
            have h2 := he c _ hc
            simp only [Rep] at h1 h2
            obtain ⟨w', hrun, q1, q2⟩ := run_make_full (P := P) cx.w 0 t el inf z i.size hS.ht hi hz1 hsize .i64 .i64 n.toNat (by rw [hbytes]; exact hcb) hmax (Nat.zero_le _)
            rw [← hcc] at hrun
            have hcells : (madeCells z.cells (n.toNat * i.size)).toList = repL n.toNat z.cells.toList := by rw [← hS.hzs]; exact made_repL _ _
            rw [hcells] at q1
            refine ⟨_, w', exec_mk h1 h2 hrun, _, Ok.newM hnew hG.lt ((Stp.of_grown q2).mono fun i _ h => by cases h) q1 (fun b hb => ?_) (Reps.repL (l := flat τ z0) (unf_all hunf (by rw [← hz]; exact of_reps cx _)) _) (fun u hu => List.all_eq_true.1 hone u (mem_repL hu)) (fun c' hh => ?_)⟩
            · simp only [blk, Option.some.injEq] at hb; omega
            · show HoldsM c' m el τ.n _ (flatL τ _)
              simp only [lrep0, List.length_replicate]
              rw [hn, flatL_rep]; exact hh
          | false =>
            rw [hnc] at h
            simp only [cond_false] at h
            cases hn0 : ieq0 n 0 with
            | false => rw [hn0] at h; cases h
            | true =>
              rw [hn0] at h
              have hn0 : n = 0 := by simpa [ieq0] using hn0
              subst hn0
              refine ⟨_, h, TrOK.mkN fun cx e ty hG he hnew => ?_⟩
              have h1 := he l _ hl
              have h2 := he c _ hc
              simp only [Rep] at h1 h2
              obtain ⟨w', hrun, q1, q2⟩ := run_make_own (P := P) cx.w 0 t el inf z i.size hS.ht hi hz1 hsize .i64 .i64 c'.toNat (by rw [hbytes]; exact hcb) hmax (Nat.zero_le _)
              rw [← hcc] at hrun
              refine ⟨_, w', exec_mk h1 h2 hrun, _, Ok.newM (cells := []) hnew hG.lt ((Stp.of_grown q2).mono fun i _ h => by cases h) q1 (fun b hb => ?_) (by simp only [Reps]) (by simp) (fun c' hh => ?_)⟩
              · simp only [blk, Option.some.injEq] at hb; omega
              · show HoldsM c' m el τ.n _ (flatL τ _)
                rw [hn]; exact hh
      · cases h
    · cases h
  · cases h

/-! ### Literals -/
theorem unfN_ok {c : Cx} {τ : Ty} : ∀ {n : Nat} {l : List AV} {xs : List (El τ)} {us : List Value}, unfN τ n l = some xs → Reps c l us → Reps c (flatL τ xs) us ∧ xs.length = n
  | 0, [], xs, us, h, hr => by simp only [unfN, Option.some.injEq] at h; subst h; exact ⟨by simpa only [flatL] using hr, rfl⟩
  | 0, _ :: _, xs, us, h, hr => by simp [unfN] at h
  | n + 1, l, xs, us, h, hr => by
    simp only [unfN] at h
    split at h
    · rename_i x r0 h1
      split at h
      · rename_i xs' h2
        obtain rfl := Option.some.inj h
        obtain ⟨u1, u2, rfl, h3, h4⟩ := unf_ok h1 hr
        obtain ⟨h5, h6⟩ := unfN_ok h2 h4
        exact ⟨by simp only [flatL]; exact h3.app h5, by simp [h6]⟩
      · cases h
    · cases h
theorem bldX_ok' {c : Cx} {ev : Operand → Option AV} {e : Operand → Value} (ps0 : List (Nat × Operand)) (he : ∀ i x s, (i, x) ∈ ps0 → ev x = some s → Rep c s (e x)) (pl : List (Nat × Nat)) (place : Nat → Option (Nat × Nat)) (hpl : ∀ i q, pl[i]? = some q → place i = some q) : ∀ (ps : List (Nat × Operand)) (cells : List AV) (us : List Value) (out : List AV), (∀ p ∈ ps, p ∈ ps0) → Reps c cells us → (∀ u ∈ us, u.oneCell' = true) → bldX pl ev cells ps = some out →
    ∃ vs, Instr.fill place us.toArray (ps.map fun (i, x) => (i, e x)) = some vs.toArray ∧ Reps c out vs ∧ (∀ u ∈ vs, u.oneCell' = true) ∧ vs.length = us.length
  | [], cells, us, out, _, h, h1, hb => by simp only [bldX, Option.some.injEq] at hb; subst hb; exact ⟨us, rfl, h, h1, rfl⟩
  | (i, x) :: r, cells, us, out, hm, h, h1, hb => by
    simp only [bldX] at hb
    split at hb
    · rename_i f n l hp hc
      obtain ⟨s, hs, hl⟩ := Option.bind_eq_some_iff.1 hc
      cases hcond : (Nat.beq l.length n && Nat.ble (f + n) cells.length) with
      | false => rw [hcond] at hb; cases hb
      | true =>
        rw [hcond] at hb
        simp only [Bool.and_eq_true, cond_true] at hb hcond
        have hn : l.length = n := by simpa using hcond.1
        have hle : f + n ≤ cells.length := by simpa using hcond.2
        obtain ⟨ws, e1, e2, e3⟩ := cellsA_ok (he i x s (hm _ (List.mem_cons_self ..)) hs) hl
        have hwl := e2.len
        have hul := h.len
        have := bldX_ok' ps0 he pl place hpl r _ (us.take f ++ ws ++ us.drop (f + ws.length)) out (fun p hp => hm p (List.mem_cons_of_mem _ hp)) (h.set e2 f) (fun u hu => (mem_seg hu).elim (h1 u) (e3 u)) hb
        obtain ⟨vs, g1, g2, g3, g4⟩ := this
        refine ⟨vs, ?_, g2, g3, by rw [g4]; simp only [List.length_append, List.length_take, List.length_drop]; omega⟩
        simp only [List.map_cons, Instr.fill, hpl i _ hp, e1]
        rw [if_neg (by simp; omega)]
        rw [← g1]
        congr 1
        have := fold_set f ws 0 us.toArray (by simp; omega)
        simp only [Nat.add_zero] at this
        rw [← this, ← Array.foldl_toList]
        congr 1
        simp
    · cases hb
theorem run_bldS {w : World} {t el : TypeId} {z : Value} {sz bytes len : Nat} {parts : Array (Nat × Value)} {vs : List Value} (S : SliceT P t el z sz bytes) (hmax : len * sz ≤ 16777216) (hf : Instr.fill (fun i => some (i * sz, sz)) (repL len z.cells.toList).toArray parts.toList = some vs.toArray) (hv : vs.length = len * sz) :
    ∃ v w', (Instr.buildSlice t len parts).run P w = .ok v w' ∧ w'.ownsRow 0 el sz v len vs ∧ Stp No w w' ∧ ∀ b, blk v = some b → w.heap.size ≤ b := by
  obtain ⟨i, hi, hz, hsize, hby⟩ := info_parts S.hi
  have hown : (w.alloc (.cells vs.toArray el)).ownsRow 0 el sz (.slice (some ⟨w.heap.size, 0, none⟩) len len) len vs := by
    refine ⟨hv, .inr ⟨w.heap.size, len, _, rfl, Nat.zero_le _, heap_alloc_new w _, Nat.le_refl _, ?_, by simp [hv], ?_⟩⟩
    · have := Nat.le_mul_of_pos_right len S.hsz; unfold maxLen; omega
    · rw [List.take_of_length_le (by simp [hv])]
  refine ⟨_, _, ?_, hown, Stp.of_ext (Ext.alloc w _) _, fun b hb => by simp only [blk, Option.some.injEq] at hb; omega⟩
  have hmc : ((Array.range (len * sz)).map (z.cells[· % z.cells.size]!)) = (repL len z.cells.toList).toArray := by
    apply Array.ext'
    have := made_repL z.cells len
    rw [S.hzs] at this
    simpa [madeCells, S.hzs] using this
  simp only [Instr.buildSlice, Sem.run_bind, run_underlying S.ht, Result.andThen_ok, S.run_size]
  rw [if_neg (by omega)]
  by_cases h0 : len * sz = 0
  · have hl0 : len = 0 := by
      rcases Nat.mul_eq_zero.1 h0 with h | h
      · exact h
      · have := S.hsz; omega
    subst hl0
    simp only [repL] at hf
    simp only [Nat.zero_mul, if_true, Sem.run_bind, Sem.run_pure, Result.andThen_ok]
    rw [show Array.range 0 = #[] from rfl, List.map_toArray, List.map_nil, hf]
    simp [newRow]
  · simp only [if_neg h0, Sem.run_bind, zeroValue, typeInfo, run_program, hi, hz, Result.andThen_ok, Sem.run_pure]
    rw [hmc, hf]
    simp [newRow]
theorem evG_has {ev : Operand → Option AV} : ∀ {ps : List (Nat × Operand)} {i : Nat} {x : Operand} {a : AV} {G : Fp}, (i, x) ∈ ps → (ev x).bind (rdA hk) = some (a, G) → ∀ k R, flk k G = some R → ∃ R', flk k (evG ev hk ps) = some R'
  | (j, y) :: ps, i, x, a, G, hm, hx, k, Rr, hkG => by
    rcases List.mem_cons.1 hm with h | h
    · simp only [Prod.mk.injEq] at h
      obtain ⟨rfl, rfl⟩ := h
      simp only [evG, hx]
      exact ⟨Rr, flk_left hkG⟩
    · obtain ⟨R', hR'⟩ := evG_has h hx k Rr hkG
      simp only [evG]
      split
      · rename_i G' _
        rw [flk_app]
        cases hg : flk k G' with
        | some R2 => exact ⟨R2, rfl⟩
        | none => exact ⟨R', hR'⟩
      · exact ⟨R', hR'⟩
theorem evG_hk : ∀ {ps : List (Nat × Operand)} {k : Nat} {Rr : Rs}, flk k (evG (evx L) hk ps) = some Rr → hk k = some Rr
  | [], k, Rr, h => by cases h
  | (j, y) :: ps, k, Rr, h => by
    simp only [evG] at h
    split at h
    · rename_i a G hx
      obtain ⟨s0, _, h2⟩ := Option.bind_eq_some_iff.1 hx
      rw [flk_app] at h
      cases hg : flk k G with
      | some R2 => rw [hg] at h; obtain rfl := Option.some.inj h; exact (rdA_ok h2).1 k R2 hg
      | none => rw [hg] at h; exact evG_hk h
    · exact evG_hk h
theorem evBldS_ok (hT : TTok P T) (hm : ∀ k R, hk k = some R → k < m) {t : TypeId} {len : Nat} {parts : Array (Nat × Operand)} (h : evBldS T (evx L) hk m t len parts.toList K = some r) : ∃ tr, K tr = some r ∧ TrOK P I L hk m (.buildSlice t len parts) tr := by
  unfold evBldS at h
  try simp only [iadd_d, isub_d, imul_d, iquo_d, irem_d, ibit_d, ineg_d, ieq_d, ine_d, ilt_d, ile_d, ishl_d, ishr_d, beq_d, bnot_d, and_d, seq_d, u8op_d, u32op_d, u64op_d, u8shr_d, u8shl_d, u64shr_d, u64shl_d, u32shr_d, u32shl_d, i64w_d, u8i_d, u64i_d, iu8_d, iu32_d, iu64_d, u8u64_d, u64u8_d, u32u8_d, u64cmp_d, u8cmp_d, u32cmp_d, llen_d, lget_d, linb_d, lset_d, lcut_d, lrep_d, lapp_d, lcpy_d, lemp_d, fits_d, fitn_d] at h
  split at h
  · rename_i el i hsl
    obtain ⟨z, hS, hte, hz, hone, hby⟩ := slOf_ok hT hsl
    have hpl : ∀ (j : Nat) (q : Nat × Nat), ((List.range len).map fun j => (j * i.size, i.size))[j]? = some q → (fun j => some (j * i.size, i.size)) j = some q := by
      intro j q hq
      simp only [List.getElem?_map, Option.map_eq_some_iff] at hq
      obtain ⟨j', hj, rfl⟩ := hq
      obtain ⟨_, h2⟩ := List.getElem?_eq_some_iff.1 hj
      simp only [List.getElem_range] at h2
      simp [h2]
    have hzl : z.cells.toList.length = i.size := by have := hS.hzs; simpa using this
    cases hb : Nat.ble (len * i.size) 16777216 with
    | false => rw [hb] at h; cases h
    | true =>
      rw [hb] at h
      have hb : len * i.size ≤ 16777216 := by simpa using hb
      have exec : ∀ {e : Operand → Value} {v : Value} {w w' : World} {ty : TypeId}, (Instr.buildSlice t len (parts.map fun (i, x) => (i, e x))).run P w = .ok v w' → (execOp e ⟨none, .buildSlice t len parts, ty, "", #[], none⟩).run P w = .ok (.value v) w' := by
        intro e v w w' ty hr
        have h2 : execOp e ⟨none, .buildSlice t len parts, ty, "", #[], none⟩ = (do pure (.value (← Instr.buildSlice t len (parts.map fun (i, x) => (i, e x))))) := rfl
        rw [h2]
        simp only [Sem.run_bind, hr, Result.andThen_ok, Sem.run_pure]
      simp only [cond_true] at h
      split at h
      · rename_i τ hτ
        have hn := hte.ty τ hτ
        split at h
        · rename_i cells hbl
          split at h
          · rename_i l hunf
            refine ⟨_, h, ⟨fun ty => OPL_run fun c e hG he hP => ?_, fun q Rr hq => evG_hk hq, fun q hq => .inr ?_, (fun h => by cases h)⟩⟩
            · have hnew : ¬ c.N m := (hP.new m ((has_one _ _ _).2 rfl)).elim (fun hh => by obtain ⟨Rr, hr⟩ := (has_iff _ _).1 hh; have := hm m Rr (evG_hk hr); omega) id
              have hval : ∀ j x s, (j, x) ∈ parts.toList → evR (evx L) hk x = some s → Rep (c.less (evG (evx L) hk parts.toList)) s (e x) := by
                intro j x s hm hs
                unfold evR at hs
                split at hs
                · rename_i a G hx
                  obtain rfl := Option.some.inj hs
                  obtain ⟨s0, h1, h2⟩ := Option.bind_eq_some_iff.1 hx
                  obtain ⟨g1, g2, g3⟩ := rdA_ok h2
                  refine g3 c _ (he x _ h1) (fun k Rr hk' => ?_) _ fun b hb => ?_
                  · obtain ⟨R', hR'⟩ := evG_has hm hx k Rr hk'
                    have e1 := evG_hk hR'
                    rw [g1 k Rr hk'] at e1
                    obtain rfl := Option.some.inj e1
                    exact hP.res k Rr hR'
                  · obtain ⟨k, Rr, hk', hb'⟩ := hb
                    obtain ⟨R', hR'⟩ := evG_has hm hx k Rr hk'
                    exact ⟨k, R', hR', hb'⟩
                · cases hs
              obtain ⟨vs, g1, g2, g3, g4⟩ := bldX_ok' parts.toList hval _ (fun j => some (j * i.size, i.size)) hpl parts.toList _ (repL len z.cells.toList) cells (fun p hp => hp) (by rw [← hz]; exact Reps.repL (of_reps _ _) _) (fun u hu => List.all_eq_true.1 hone u (mem_repL hu)) hbl
              obtain ⟨h5, h6⟩ := unfN_ok hunf g2
              obtain ⟨v, w', hr, ho, hst, hbk⟩ := run_bldS (P := P) (w := c.w) (parts := parts.map fun (i, x) => (i, e x)) (vs := vs) hS hb (by rw [Array.toList_map]; exact g1) (by rw [g4, len_repL, hzl])
              have ok := Ok.newM (c := c.less (evG (evx L) hk parts.toList)) (k := m) (Rr := .row el τ l) hnew (hG.less _).lt hst ho hbk h5 g3 (fun c' hh => by show HoldsM c' m el τ.n l.length (flatL τ l); rw [hn, h6]; exact hh)
              have := Ok.consume (dj_nil _) ok
              rw [List.append_nil] at this
              exact ⟨v, w', _, exec hr, this⟩
            · have := (has_one _ _ _).1 hq; show m ≤ q ∧ q < m + 1; omega
          · cases h
        · cases h
      · split at h
        · rename_i cells hbl
          refine ⟨_, h, TrOK.mkN fun c e ty hG he hnew => ?_⟩
          obtain ⟨vs, g1, g2, g3, g4⟩ := bldX_ok' parts.toList (fun j x s _ hs => he x s hs) _ (fun j => some (j * i.size, i.size)) hpl parts.toList _ (repL len z.cells.toList) cells (fun p hp => hp) (by rw [← hz]; exact Reps.repL (of_reps c _) _) (fun u hu => List.all_eq_true.1 hone u (mem_repL hu)) hbl
          obtain ⟨v, w', hr, ho, hst, hbk⟩ := run_bldS (P := P) (w := c.w) (parts := parts.map fun (i, x) => (i, e x)) (vs := vs) hS hb (by rw [Array.toList_map]; exact g1) (by rw [g4, len_repL, hzl])
          exact ⟨v, w', exec hr, _, Ok.newM hnew hG.lt hst ho hbk g2 g3 fun c' hh => hh⟩
        · cases h
  · cases h
end
end Go.Ax
