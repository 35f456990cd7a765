/-
  Own text. The abstract machine: new variables, structs made of parts, conversions, plain moves. It claims nothing of any program.
-/
import Derived.Test.YtlaglaehkhmklaaAx9
namespace Go.Ax
open Go Go.RowKit Go.Eng
set_option linter.unusedVariables false
set_option linter.unusedSimpArgs false
section
variable {P : Program} {I : World → Prop} {L : LX} {ty : TypeId} {T : TT} {R : Type} {K : Tr → Option R} {r : R} {hk : Nat → Option Rs} {m : Nat}

theorem evK_some {a : Option AV} {K : AV → Option R} (h : evK a K = some r) : ∃ s, a = some s ∧ K s = some r := by
  unfold evK at h
  try simp only [iadd_d, isub_d, imul_d, iquo_d, irem_d, ibit_d, ineg_d, ieq_d, ine_d, ilt_d, ile_d, ishl_d, ishr_d, beq_d, bnot_d, and_d, seq_d, u8op_d, u32op_d, u64op_d, u8shr_d, u8shl_d, u64shr_d, u64shl_d, u32shr_d, u32shl_d, i64w_d, u8i_d, u64i_d, iu8_d, iu32_d, iu64_d, u8u64_d, u64u8_d, u32u8_d, u64cmp_d, u8cmp_d, u32cmp_d, llen_d, lget_d, linb_d, lset_d, lcut_d, lrep_d, lapp_d, lcpy_d, lemp_d, fits_d, fitn_d] at h
  split at h
  · rename_i s; exact ⟨s, rfl, h⟩
  · cases h
/-- a step that makes one thing, nothing else changes -/
theorem TrOK.mkN {op : Op} {s : AV} {Rr : Rs} (h : ∀ (c : Cx) (e : Operand → Value) (ty : TypeId), Good I c → ValX c L e → ¬ c.N m → ∃ v w', (execOp e ⟨none, op, ty, "", #[], none⟩).run P c.w = .ok (.value v) w' ∧ ∃ ν', Ok c [] [(m, Rr)] s v w' ν') : TrOK P I L hk m op ⟨s, [], [(m, Rr)], false, 1⟩ := by
  refine ⟨fun ty => OPL_run fun c e hG he hP => ?_, (fun q R' hq => by cases hq), fun q hq => .inr ?_, (fun h => by cases h)⟩
  · have hn : ¬ c.N m := (hP.new m ((has_one _ _ _).2 rfl)).elim (fun h => absurd h (has_nil m)) id
    obtain ⟨v, w', hv, ν', ok⟩ := h c e ty hG he hn
    exact ⟨v, w', ν', hv, ok⟩
  · have := (has_one _ _ _).1 hq; show m ≤ q ∧ q < m + 1; omega
theorem Ok.newvar {c : Cx} {k : Nat} {us : List Value} {cells : List AV} {t : Nat} (hk : ¬ c.N k) (hcs : Reps c cells us) (h1 : ∀ u ∈ us, u.oneCell' = true) (hG : ∀ b, c.O b → b < c.w.heap.size) : Ok c [] [(k, .var cells)] (.pa k 0) (.pointer (some ⟨c.w.heap.size, 0, none⟩)) (c.w.alloc (.cells us.toArray t)) (fun q => if q = k then .pointer (some ⟨c.w.heap.size, 0, none⟩) else c.ν q) := by
  have hkk : (if k = k then Value.pointer (some ⟨c.w.heap.size, 0, none⟩) else c.ν k) = .pointer (some ⟨c.w.heap.size, 0, none⟩) := if_pos rfl
  have hs : Stp No c.w (c.w.alloc (.cells us.toArray t)) := Stp.of_ext (Ext.alloc c.w _) _
  have hle : Cx.Le none c ⟨fun q => c.N q ∨ q = k, fun q => if q = k then .pointer (some ⟨c.w.heap.size, 0, none⟩) else c.ν q, fun b => c.O b ∨ blk (Value.pointer (some ⟨c.w.heap.size, 0, none⟩)) = some b, c.w.alloc (.cells us.toArray t)⟩ :=
    ⟨fun q _ h => ⟨.inl h, if_neg fun (e : q = k) => hk (e ▸ h)⟩, fun w'' h => hs.then h (fun i _ h => h.elim) fun i hi hO => by
      rcases hO with h | h
      · exact h
      · simp only [blk, Option.some.injEq] at h; omega⟩
  refine Ok.new hk hs (fun b hb => ?_) ⟨c.w.heap.size, us, hkk, ⟨t, by rw [heap_alloc_new]⟩, Reps.le hle _ _ (nqL_none _) hcs, h1⟩ ?_
  · simp only [blk, Option.some.injEq] at hb; subst hb; exact ⟨Nat.le_refl _, by simp⟩
  · simp only [Rep]; exact ⟨.inr trivial, c.w.heap.size, by simp [blk], rfl⟩
theorem of_reps (c : Cx) : ∀ l : List Value, Reps c (l.map AV.of) l
  | [] => by simp [Reps]
  | a :: r => by simp only [List.map_cons, Reps]; exact ⟨a, r, rfl, AV.of_rep c a, of_reps c r⟩
theorem evAlloc_ok (hT : TTok P T) {t : TypeId} (h : (match tlk t T with | some i => K ⟨.pa m 0, [], [(m, .var i.zero)], false, 1⟩ | none => none) = some r) : ∃ tr, K tr = some r ∧ TrOK P I L hk m (.alloc t) tr := by
  split at h
  · rename_i i hi
    obtain ⟨z, hz, hzc, hzs, hone, _⟩ := (hT _ _ hi).zero
    refine ⟨_, h, TrOK.mkN fun c e ty hG he hn => ?_⟩
    obtain ⟨inf, hinf, hq⟩ := Option.map_eq_some_iff.1 hz
    simp only [Prod.mk.injEq] at hq
    refine ⟨_, c.w.alloc (.cells z.cells t), ?_, _, Ok.newvar (us := z.cells.toList) hn (by rw [← hzc]; exact of_reps c _) (List.all_eq_true.1 hone) hG.lt⟩
    have h1 : execOp e ⟨none, .alloc t, ty, "", #[], none⟩ = (do pure (.value (← Instr.alloc t true (.tuple #[])))) := rfl
    rw [h1]
    simp [Instr.alloc, zeroValue, typeInfo, hinf, hq.1, newVar, newRow]
  · cases h
theorem evBox_ok {t : TypeId} {x : Operand} (h : (match (evx L x).bind cellsA with | some l => K ⟨.pa m 0, [], [(m, .var l)], false, 1⟩ | none => none) = some r) : ∃ tr, K tr = some r ∧ TrOK P I L hk m (.box t x) tr := by
  split at h
  · rename_i l hl
    obtain ⟨s, hs, hcl⟩ := Option.bind_eq_some_iff.1 hl
    refine ⟨_, h, TrOK.mkN fun c e ty hG he hn => ?_⟩
    obtain ⟨us, h1, h2, h3⟩ := cellsA_ok (he x _ hs) hcl
    refine ⟨_, c.w.alloc (.cells us.toArray t), ?_, _, Ok.newvar hn h2 h3 hG.lt⟩
    have h0 : execOp e ⟨none, .box t x, ty, "", #[], none⟩ = (do pure (.value (← Instr.box t (e x)))) := rfl
    rw [h0]
    simp [Instr.box, newVar, newRow, h1]
  · cases h

/-! ### Structs and arrays out of their parts -/
theorem fold_set (off : Nat) : ∀ (vs : List Value) (s : Nat) (cells : Array Value), off + s + vs.length ≤ cells.size →
    ((vs.zipIdx s).foldl (fun (cs : Array Value) (x : Value × Nat) => match x with | (c, j) => cs.setIfInBounds (off + j) c) cells) = (cells.toList.take (off + s) ++ vs ++ cells.toList.drop (off + s + vs.length)).toArray
  | [], s, cells, h => by simp
  | v :: r, s, cells, h => by
    simp only [List.length_cons] at h
    simp only [List.zipIdx_cons, List.foldl_cons]
    rw [fold_set off r (s + 1) _ (by simp; omega)]
    have e := list_seg_step cells.toList (off + s) v r (by simp; omega)
    rw [Array.toList_setIfInBounds]
    congr 1
theorem bldX_ok {c : Cx} {e : Operand → Value} (he : ValX c L e) (pl : List (Nat × Nat)) (place : Nat → Option (Nat × Nat)) (hpl : ∀ i q, pl[i]? = some q → place i = some q) : ∀ (ps : List (Nat × Operand)) (cells : List AV) (us : List Value) (out : List AV), Reps c cells us → (∀ u ∈ us, u.oneCell' = true) → bldX pl (evx L) cells ps = some out →
    ∃ vs, Instr.fill place us.toArray (ps.map fun (i, x) => (i, e x)) = some vs.toArray ∧ Reps c out vs ∧ ∀ u ∈ vs, u.oneCell' = true
  | [], cells, us, out, h, h1, hb => by simp only [bldX, Option.some.injEq] at hb; subst hb; exact ⟨us, rfl, h, h1⟩
  | (i, x) :: r, cells, us, out, h, h1, hb => by
    simp only [bldX] at hb
    split at hb
    · rename_i f n l hp hc
      obtain ⟨s, hs, hl⟩ := Option.bind_eq_some_iff.1 hc
      cases hcond : (Nat.beq l.length n && Nat.ble (f + n) cells.length) with
      | false => rw [hcond] at hb; cases hb
      | true =>
        rw [hcond] at hb
        simp only [Bool.and_eq_true, cond_true] at hb hcond
        have hn : l.length = n := by simpa using hcond.1
        have hle : f + n ≤ cells.length := by simpa using hcond.2
        obtain ⟨ws, e1, e2, e3⟩ := cellsA_ok (he x s hs) hl
        have hwl := e2.len
        have hul := h.len
        have := bldX_ok he pl place hpl r _ (us.take f ++ ws ++ us.drop (f + ws.length)) out (h.set e2 f) (fun u hu => (mem_seg hu).elim (h1 u) (e3 u)) hb
        obtain ⟨vs, g1, g2⟩ := this
        refine ⟨vs, ?_, g2⟩
        simp only [List.map_cons, Instr.fill, hpl i _ hp, e1]
        rw [if_neg (by simp; omega)]
        rw [← g1]
        congr 1
        have := fold_set f ws 0 us.toArray (by simp; omega)
        simp only [Nat.add_zero] at this
        rw [← this, ← Array.foldl_toList]
        congr 1
        simp
    · cases hb
theorem place_ok (hT : TTok P T) {t : TypeId} {pl : List (Nat × Nat)} (hp : plOf' T t = some pl) {z : Value} {i : TypeInfo} (hi : P.info? t = some i) (hz : i.zero = some z) : ∃ place : Nat → Option (Nat × Nat), (∀ i q, pl[i]? = some q → place i = some q) ∧ ∀ parts cs, Instr.fill place z.cells parts = some cs → P.built t parts = some cs := by
  unfold plOf' at hp
  split at hp
  · rename_i ti hti
    have hu := (hT _ _ hti).und
    split at hp
    · rename_i pl' sc he
      obtain rfl := Option.some.inj hp
      rw [he] at hu
      have h1 := hu.1
      unfold plOf at h1
      split at h1
      · rename_i fs hfs
        exact ⟨fun i => pl'.toArray[i]?, fun i q hq => by simpa using hq, fun parts cs hcs => by simp only [Program.built, hi, hfs, hz, h1, hcs]⟩
      · cases h1
    · rename_i n el he
      rw [he] at hu
      split at hp
      · rename_i te hte
        obtain rfl := Option.some.inj hp
        obtain ⟨ie, hie, hs⟩ := Option.map_eq_some_iff.1 (hT _ _ hte).sz
        refine ⟨fun i => some (i * te.size, te.size), fun j q hq => ?_, fun parts cs hcs => ?_⟩
        · simp only [List.getElem?_map, Option.map_eq_some_iff] at hq
          obtain ⟨j', hj, rfl⟩ := hq
          obtain ⟨_, h2⟩ := List.getElem?_eq_some_iff.1 hj
          simp only [List.getElem_range] at h2
          simp [h2]
        · have hu' : P.underlying t = some (.array n el) := hu
          simp only [Program.built, hi, hu', hz, hie, hs, hcs]
      · cases hp
    · cases hp
  · cases hp
theorem evBuild_ok (hT : TTok P T) {t : TypeId} {parts : Array (Nat × Operand)} (h : (match plOf' T t, tlk t T with | some pl, some i => (match bldX pl (evx L) i.zero parts.toList with | some l => K (.pure (.agg l)) | none => none) | _, _ => none) = some r) : ∃ tr, K tr = some r ∧ TrOK P I L hk m (.build t parts) tr := by
  split at h
  · rename_i pl i hpl hi
    split at h
    · rename_i l hb
      obtain ⟨z, hz, hzc, hzs, hone, _⟩ := (hT _ _ hi).zero
      obtain ⟨inf, hinf, hq⟩ := Option.map_eq_some_iff.1 hz
      simp only [Prod.mk.injEq] at hq
      obtain ⟨place, hp, hf⟩ := place_ok hT hpl hinf hq.1
      refine ⟨_, h, TrOK.mk0 fun ty => OPL_run0 fun c e hG he => ?_⟩
      obtain ⟨vs, g1, g2, g3⟩ := bldX_ok he pl place hp parts.toList i.zero z.cells.toList l (by rw [← hzc]; exact of_reps c _) (List.all_eq_true.1 hone) hb
      refine ⟨.agg vs.toArray, ?_, by simp only [Rep]; exact ⟨vs, rfl, g2, g3⟩⟩
      have h2 : execOp e ⟨none, .build t parts, ty, "", #[], none⟩ = (do pure (.value (← Instr.build t (parts.map fun (i, x) => (i, e x))))) := rfl
      rw [h2]
      have := run_build (P := P) c.w t (parts.map fun (i, x) => (i, e x)) vs.toArray (hf _ _ (by rw [Array.toList_map]; simpa using g1))
      simp only [Sem.run_bind, this, Result.andThen_ok, Sem.run_pure]
    · cases h
  · cases h
/-- a part of an aggregate -/
theorem run_part {c : Cx} {t : TypeId} {d : TypeDesc} {n o : Nat} {l : List AV} {us : List Value} {s : AV} {w : World} (ht : P.underlying t = some d) (hn : (P.info? t).map (·.size) = some n) (h : ldCells (plainT d) n (l.drop o) = some s) (hr : Reps c l us) (h1 : ∀ u ∈ us, u.oneCell' = true) : ∃ v, (part t us.toArray o).run P w = .ok v w ∧ Rep c s v := by
  obtain ⟨inf, hinf, hs⟩ := Option.map_eq_some_iff.1 hn
  unfold ldCells at h
  cases hd : plainT d with
  | true =>
    rw [hd] at h
    simp only [cond_true, List.head?_drop] at h
    obtain ⟨u, hu, hr'⟩ := hr.get h
    have hagg : (isAgg t).run P w = .ok false w := by
      simp only [isAgg, Sem.run_bind, run_underlying ht, Result.andThen_ok]
      cases d <;> first | (cases hd; done) | rfl
    exact ⟨u, by simp [part, hagg, hu], hr'⟩
  | false =>
    rw [hd] at h
    simp only [cond_false] at h
    cases hle : Nat.ble n (l.drop o).length with
    | false => rw [hle] at h; cases h
    | true =>
      rw [hle] at h
      obtain rfl := Option.some.inj h
      have hle : n ≤ (l.drop o).length := by simpa using hle
      have hlen := hr.len
      have hagg : (isAgg t).run P w = .ok true w := by
        simp only [isAgg, Sem.run_bind, run_underlying ht, Result.andThen_ok]
        cases d <;> first | (cases hd; done) | rfl
      refine ⟨.agg ((us.drop o).take n).toArray, ?_, by simp only [Rep]; exact ⟨_, rfl, (hr.drop o).take n, fun u hu => h1 u (List.mem_of_mem_drop (List.mem_of_mem_take hu))⟩⟩
      have : us.toArray.extract o (o + n) = ((us.drop o).take n).toArray := by
        apply Array.ext'
        simp
      simp [part, hagg, sizeOf, typeInfo, hinf, hs, this]
theorem evField_ok (hT : TTok P T) {t : TypeId} {x : Operand} {f : Nat} (h : (match uOf T t, evx L x with
    | some (.fld pl sc), some (.agg l) => (match pl[f]?, sc[f]? with
      | some (o', n), some b => evK (ldCells b n (l.drop o')) fun s => K (.pure s)
      | _, _ => none)
    | _, _ => none) = some r) : ∃ tr, K tr = some r ∧ TrOK P I L hk m (.field t x f) tr := by
  split at h
  · rename_i pl sc l hu hx
    obtain ⟨hp, hs⟩ := fld_ok hT hu
    split at h
    · rename_i o' n b h1 h2
      obtain ⟨s, hl, h⟩ := evK_some h
      refine ⟨_, h, TrOK.mk0 fun ty => OPL_run0 fun c e hG he => ?_⟩
      obtain ⟨fs, fd, i, g1, g2, g3, rfl, rfl⟩ := plOf_get hp h1
      obtain ⟨fs', fd', d, k1, k2, k3, rfl⟩ := scOf_get hs h2
      rw [g1] at k1
      simp only [Option.some.injEq, TypeDesc.struct.injEq] at k1
      subst k1
      rw [g2] at k2
      obtain rfl := Option.some.inj k2
      have hv := he x _ hx
      simp only [Rep] at hv
      obtain ⟨us, hu, hr, hone⟩ := hv
      obtain ⟨v, hv, hrv⟩ := run_part (P := P) (w := c.w) k3 (by rw [g3]; rfl) hl hr hone
      refine ⟨v, ?_, hrv⟩
      have h0 : execOp e ⟨none, .field t x f, ty, "", #[], none⟩ = (do pure (.value (← Instr.field t (e x) f))) := rfl
      rw [h0, hu]
      simp [Instr.field, run_underlying g1, g2, asAgg, hv]
    · cases h
  · cases h

/-! ### Conversions -/
theorem evConv_ok {src dst : TypeId} {dd : Und} {x : AV} {K : AV → Option R} (h : evConv dd x K = some r) {is id : TI} (hs : TOK P src is) (hd : TOK P dst id) (hdd : id.u = dd) : ∃ s, K s = some r ∧ ∀ (c : Cx) (u : Value) (w : World), Rep c x u → ∃ v, (convert src dst u).run P w = .ok v w ∧ Rep c s v := by
  obtain ⟨d0, hsrc, _⟩ := hs.plain
  have hu := hd.und
  rw [hdd] at hu
  have num : ∀ {w : World} {k k' : IntKind} {a : Int}, P.underlying dst = some (.int k') → (convert src dst (.int k a)).run P w = .ok (.int k' (k'.wrap a)) w := fun h => run_conv src dst _ _ _ hsrc h
  unfold evConv at h
  try simp only [iadd_d, isub_d, imul_d, iquo_d, irem_d, ibit_d, ineg_d, ieq_d, ine_d, ilt_d, ile_d, ishl_d, ishr_d, beq_d, bnot_d, and_d, seq_d, u8op_d, u32op_d, u64op_d, u8shr_d, u8shl_d, u64shr_d, u64shl_d, u32shr_d, u32shl_d, i64w_d, u8i_d, u64i_d, iu8_d, iu32_d, iu64_d, u8u64_d, u64u8_d, u32u8_d, u64cmp_d, u8cmp_d, u32cmp_d, llen_d, lget_d, linb_d, lset_d, lcut_d, lrep_d, lapp_d, lcpy_d, lemp_d, fits_d, fitn_d] at h
  split at h
  · exact ⟨_, h, fun c u w hx => by simp only [Rep] at hx; subst hx; exact ⟨_, num hu, by simp only [Rep, i64w0]⟩⟩
  · exact ⟨_, h, fun c u w hx => by simp only [Rep] at hx; subst hx; exact ⟨_, num hu, by simp only [Rep, iu80, byteV]; rw [wrap_u8_int]⟩⟩
  · exact ⟨_, h, fun c u w hx => by simp only [Rep] at hx; subst hx; exact ⟨_, num hu, by simp only [Rep, iu320, wordV]; rw [wrap_u32_int]⟩⟩
  · exact ⟨_, h, fun c u w hx => by simp only [Rep] at hx; subst hx; exact ⟨_, num hu, by simp only [Rep, iu640, longV]; rw [wrap_u64_int]⟩⟩
  · rename_i a
    exact ⟨_, h, fun c u w hx => by simp only [Rep] at hx; subst hx; exact ⟨_, num hu, by have := a.toNat_lt; simp only [Rep, u8i0]; rw [IntWalk.i64_in _ (by omega)]⟩⟩
  · rename_i a
    exact ⟨_, h, fun c u w hx => by simp only [Rep] at hx; subst hx; exact ⟨_, num hu, by have := a.toNat_lt; simp only [Rep, byteV]; rw [wrap_u8]; simp⟩⟩
  · rename_i a
    exact ⟨_, h, fun c u w hx => by simp only [Rep] at hx; subst hx; exact ⟨_, num hu, by have := a.toNat_lt; simp only [Rep, u8u640]; rw [IntWalk.u64_in _ (by omega)]; simp [longV]⟩⟩
  · exact ⟨_, h, fun c u w hx => by simp only [Rep] at hx; subst hx; exact ⟨_, num hu, by simp only [Rep, u64i0]⟩⟩
  · rename_i a
    exact ⟨_, h, fun c u w hx => by simp only [Rep] at hx; subst hx; exact ⟨_, num hu, by simp only [Rep, u64u80]; rw [IntKind.wrap_u8]; simp [byteV]⟩⟩
  · rename_i a
    exact ⟨_, h, fun c u w hx => by simp only [Rep] at hx; subst hx; exact ⟨_, num hu, by simp only [Rep, longV]; rw [wrap_u64]; simp⟩⟩
  · rename_i a
    exact ⟨_, h, fun c u w hx => by simp only [Rep] at hx; subst hx; exact ⟨_, num hu, by simp only [Rep, u32u80]; rw [IntKind.wrap_u8]; simp [byteV]⟩⟩
  · rename_i l
    refine ⟨_, h, fun c u w hx => ?_⟩
    simp only [Rep] at hx
    subst hx
    have hu' : P.underlying dst = some .string := hu
    exact ⟨.string ⟨l.toArray⟩, by simp [convert, run_underlying hsrc, run_underlying hu'], by simp only [Rep]⟩
  · cases h
end
end Go.Ax
