/-
  Own text. The abstract machine: parts of slices, new slices. It claims nothing of any program.
-/
import Derived.Test.YtlaglaehkhmklaaAxB
namespace Go.Ax
open Go Go.RowKit Go.Eng
set_option linter.unusedVariables false
set_option linter.unusedSimpArgs false
section
variable {P : Program} {I : World → Prop} {L : LX} {ty : TypeId} {T : TT} {R : Type} {K : Tr → Option R} {r : R} {hk : Nat → Option Rs} {m : Nat}

theorem dj_nil (G : Fp) : Dj G [] := fun k _ h => has_nil k h
/-- an operand that is looked at is given up -/
theorem TrOK.giveUp {op : Op} {x : Operand} {a s : AV} {G : Fp} (hx : (evx L x).bind (rdA hk) = some (a, G))
    (h : ∀ (c : Cx) (e : Operand → Value) (ty : TypeId), Rep c a (e x) → (∀ o i, (evx L o).bind num? = some i → ∃ k, e o = .int k i) → ∃ v, (execOp e ⟨none, op, ty, "", #[], none⟩).run P c.w = .ok (.value v) c.w ∧ Rep c s v) : TrOK P I L hk m op ⟨s, G, [], G.isEmpty, 0⟩ := by
  obtain ⟨s0, h1, h2⟩ := Option.bind_eq_some_iff.1 hx
  obtain ⟨g1, g2, g3⟩ := rdA_ok h2
  refine ⟨fun ty => OPL_run fun c e hG he hP => ?_, g1, fun k hk => absurd hk (has_nil k), fun hr => by cases G with | nil => rfl | cons _ _ => cases hr⟩
  have hres := fun k R hk => hP.res k R hk
  have hr := g3 c _ (he x _ h1) hres G (fun b h => h)
  obtain ⟨v, hv, hrv⟩ := h (c.less G) e ty hr (fun o i ho => num_val he ho)
  obtain ⟨ν', ok⟩ := Ok.pure (c := c.less G) (w' := c.w) hrv (Stp.refl _ _)
  have := Ok.consume (dj_nil G) ok
  rw [List.append_nil] at this
  exact ⟨v, c.w, ν', hv, this⟩
/-- .. is lent -/
theorem TrOK.lend {op : Op} {x : Operand} {a s : AV} {G : Fp} (hx : (evx L x).bind (rdA hk) = some (a, G)) (hs : noRd s = true)
    (h : ∀ (c : Cx) (e : Operand → Value) (ty : TypeId), Rep c a (e x) → ∃ v, (execOp e ⟨none, op, ty, "", #[], none⟩).run P c.w = .ok (.value v) c.w ∧ Rep c s v) : TrOK P I L hk m op ⟨s, G, G, true, 0⟩ := by
  obtain ⟨s0, h1, h2⟩ := Option.bind_eq_some_iff.1 hx
  obtain ⟨g1, g2, g3⟩ := rdA_ok h2
  refine ⟨fun ty => OPL_run fun c e hG he hP => ?_, g1, fun k hk => .inl hk, fun _ => rfl⟩
  have hr := g3 c _ (he x _ h1) (fun k R hk => hP.res k R hk) G (fun b h => h)
  obtain ⟨v, hv, hrv⟩ := h (c.less G) e ty hr
  exact ⟨v, c.w, c.ν, hv, Ok.same hG.lt (fun k R hk => hP.res k R hk) (fun k k' R R' b h h' => hP.dist k k' R R' b h h') (Rep.noRd (O := (c.less G).O) s v hs hrv)⟩

theorem flatten_drop {β : Type} (sz : Nat) : ∀ (n : Nat) (cs : List (List β)), (∀ c ∈ cs, c.length = sz) → (cs.drop n).flatten = cs.flatten.drop (n * sz)
  | 0, cs, _ => by simp
  | n + 1, [], _ => by simp
  | n + 1, a :: cs, h => by
    have ha := h a (List.mem_cons_self ..)
    rw [List.drop_succ_cons, flatten_drop sz n cs (fun c hc => h c (List.mem_cons_of_mem _ hc)), List.flatten_cons, Nat.add_mul, Nat.one_mul, Nat.add_comm, ← List.drop_drop]
    congr 1
    rw [← ha]; simp
theorem flatten_take {β : Type} (sz : Nat) : ∀ (n : Nat) (cs : List (List β)), (∀ c ∈ cs, c.length = sz) → (cs.take n).flatten = cs.flatten.take (n * sz)
  | 0, cs, _ => by simp
  | n + 1, [], _ => by simp
  | n + 1, a :: cs, h => by
    have ha := h a (List.mem_cons_self ..)
    rw [List.take_succ_cons, List.flatten_cons, List.flatten_cons, flatten_take sz n cs (fun c hc => h c (List.mem_cons_of_mem _ hc)), Nat.add_mul, Nat.one_mul, Nat.add_comm, ← ha, List.take_length_add_append]
theorem lcut_some {α : Type} {l l' : List α} {lo hi : Int} (h : lcut0 l lo hi = some l') : 0 ≤ lo ∧ lo ≤ hi ∧ hi ≤ l.length ∧ l' = (l.drop lo.toNat).take (hi.toNat - lo.toNat) := by
  unfold lcut0 at h
  split at h
  · rename_i hc
    obtain rfl := Option.some.inj h
    refine ⟨hc.1, hc.2.1, hc.2.2, ?_⟩
    congr 1; omega
  · cases h
theorem rd_cut {τ : Ty} {l : List (El τ)} {a : Option Addr} {cap lo hi mx : Nat} {w : World} (h : Rd τ l (.slice a l.length cap) w) (b1 : lo ≤ hi) (b2 : hi ≤ l.length) (b3 : hi ≤ mx) (b4 : mx ≤ cap) : Rd τ ((l.drop lo).take (hi - lo)) (.slice (if mx = lo then a else a.map (·.add (lo * τ.n))) (hi - lo) (mx - lo)) w := by
  obtain ⟨cs, h1, a', cap', h2, h3, h4, h5, h6, h7⟩ := h
  simp only [Value.slice.injEq] at h2
  obtain ⟨rfl, _, rfl⟩ := h2
  have hl := All2.crlens h1
  have hl2 : ∀ c ∈ cs.drop lo, c.length = τ.n := fun c hc => hl c (List.mem_of_mem_drop hc)
  refine ⟨(cs.drop lo).take (hi - lo), (h1.drop lo).take _, ?_⟩
  rw [flatten_take τ.n _ _ hl2, flatten_drop τ.n _ _ hl, show ((l.drop lo).take (hi - lo)).length = hi - lo from by rw [List.length_take, List.length_drop]; omega]
  exact cut_sl h3 h4 h5 h6 h7 b1 b2 b3 b4
theorem exec_slice {e : Operand → Value} {t el : TypeId} {z : Value} {sz bytes n cap l h mx : Nat} {x : Operand} {olo ohi omx : Option Operand} {a : Option Addr} {w : World} (T : SliceT P t el z sz bytes) (hx : e x = .slice a n cap) (hb : (Instr.sliceBounds true n cap (olo.map e) (ohi.map e) (omx.map e)).run P w = .ok (l, h, mx) w) :
    (execOp e ⟨none, .slice t x olo ohi omx, ty, "", #[], none⟩).run P w = .ok (.value (.slice (if mx = l then a else a.map (·.add (l * sz))) (h - l) (mx - l))) w := by
  have h1 : execOp e ⟨none, .slice t x olo ohi omx, ty, "", #[], none⟩ = (do pure (.value (← Instr.sliceAt t (e x) (olo.map e) (ohi.map e) (omx.map e)))) := rfl
  rw [h1, hx]
  simp only [Sem.run_bind, run_slice_op T _ _ _ _ _ _ hb, Result.andThen_ok, Sem.run_pure]
/-- the lower bound, as the operand or its absence gives it -/
def LoIs (e : Operand → Value) (olo : Option Operand) (lo : Int) : Prop := match olo with | none => lo = 0 | some o => ∃ k, e o = .int k lo
theorem sb0 {e : Operand → Value} {olo : Option Operand} {lo : Int} {n cap : Nat} {isS : Bool} {w : World} (hl : LoIs e olo lo) (b1 : 0 ≤ lo) (b2 : lo ≤ n) : (Instr.sliceBounds isS n cap (olo.map e) none none).run P w = .ok (lo.toNat, n, cap) w := by
  cases olo with
  | none => simp only [LoIs] at hl; subst hl; simp [Instr.sliceBounds]
  | some o => obtain ⟨k, hk⟩ := hl; simp only [Instr.sliceBounds, Option.map_some, hk, Sem.run_bind, Sem.run_pure, Result.andThen_ok, bound_ok k lo n _ b1 b2]
theorem sb1 {e : Operand → Value} {olo : Option Operand} {oh : Operand} {lo hi : Int} {k : IntKind} {n cap : Nat} {isS : Bool} {w : World} (hl : LoIs e olo lo) (hh : e oh = .int k hi) (b1 : 0 ≤ lo) (b2 : lo ≤ hi) (b3 : hi ≤ cap) : (Instr.sliceBounds isS n cap (olo.map e) (some (e oh)) none).run P w = .ok (lo.toNat, hi.toNat, cap) w := by
  cases olo with
  | none => simp only [LoIs] at hl; subst hl; simp only [Instr.sliceBounds, Option.map_none, hh, Sem.run_bind, Sem.run_pure, Result.andThen_ok, bound_ok k hi cap _ (by omega) b3]; rfl
  | some o => obtain ⟨k2, hk⟩ := hl; simp only [Instr.sliceBounds, Option.map_some, hk, hh, Sem.run_bind, Sem.run_pure, Result.andThen_ok, bound_ok k hi cap _ (by omega) b3, bound_ok k2 lo hi.toNat _ b1 (by omega)]
theorem sb2 {e : Operand → Value} {olo : Option Operand} {oh om : Operand} {lo hi : Int} {k k' : IntKind} {n cap : Nat} {isS : Bool} {w : World} (hl : LoIs e olo lo) (hh : e oh = .int k hi) (hm : e om = .int k' hi) (b1 : 0 ≤ lo) (b2 : lo ≤ hi) (b3 : hi ≤ cap) : (Instr.sliceBounds isS n cap (olo.map e) (some (e oh)) (some (e om))).run P w = .ok (lo.toNat, hi.toNat, hi.toNat) w := by
  cases olo with
  | none => simp only [LoIs] at hl; subst hl; simp only [Instr.sliceBounds, Option.map_none, hh, hm, Sem.run_bind, Sem.run_pure, Result.andThen_ok, bound_ok k' hi cap _ (by omega) b3, bound_ok k hi hi.toNat _ (by omega) (by omega)]; rfl
  | some o => obtain ⟨k2, hk⟩ := hl; simp only [Instr.sliceBounds, Option.map_some, hk, hh, hm, Sem.run_bind, Sem.run_pure, Result.andThen_ok, bound_ok k' hi cap _ (by omega) b3, bound_ok k hi hi.toNat _ (by omega) (by omega), bound_ok k2 lo hi.toNat _ b1 (by omega)]
theorem lo_of {lo : Option Operand} {i : Int} (h : (match lo with | some o => (evx L o).bind num? | none => some 0) = some i) {e : Operand → Value} (hn : ∀ o i, (evx L o).bind num? = some i → ∃ k, e o = .int k i) : LoIs e lo i := by
  cases lo with
  | none => exact (Option.some.inj h).symm
  | some o => exact hn o i h
theorem str_cut (l : List UInt8) (lo hi : Nat) : (⟨l.toArray⟩ : ByteArray).extract lo hi = ⟨((l.drop lo).take (hi - lo)).toArray⟩ := by
  apply ByteArray.ext
  rw [ByteArray.data_extract]
  apply Array.ext'
  simp [Array.toList_extract]
theorem evCut_ok (hT : TTok P T) {t : TypeId} {x : Operand} {lo hi mx : Option Operand} {a : AV} {G : Fp} {il : Int} (hx : (evx L x).bind (rdA hk) = some (a, G)) (hlo : (match lo with | some o => (evx L o).bind num? | none => some 0) = some il)
    (h : evCut T t a G il (hi.map fun o => (evx L o).bind num?) (mx.map fun o => (evx L o).bind num?) K = some r) : ∃ tr, K tr = some r ∧ TrOK P I L hk m (.slice t x lo hi mx) tr := by
  have hiN : ∀ {o : Option Operand}, (o.map fun o => (evx L o).bind num?) = none → o = none := by intro o h; cases o with | none => rfl | some _ => cases h
  have hiS : ∀ {o : Option Operand} {i : Int}, (o.map fun o => (evx L o).bind num?) = some (some i) → ∃ q, o = some q ∧ (evx L q).bind num? = some i := by
    intro o i h; cases o with | none => cases h | some q => exact ⟨q, rfl, Option.some.inj h⟩
  unfold evCut at h
  try simp only [iadd_d, isub_d, imul_d, iquo_d, irem_d, ibit_d, ineg_d, ieq_d, ine_d, ilt_d, ile_d, ishl_d, ishr_d, beq_d, bnot_d, and_d, seq_d, u8op_d, u32op_d, u64op_d, u8shr_d, u8shl_d, u64shr_d, u64shl_d, u32shr_d, u32shl_d, i64w_d, u8i_d, u64i_d, iu8_d, iu32_d, iu64_d, u8u64_d, u64u8_d, u32u8_d, u64cmp_d, u8cmp_d, u32cmp_d, llen_d, lget_d, linb_d, lset_d, lcut_d, lrep_d, lapp_d, lcpy_d, lemp_d, fits_d, fitn_d] at h
  split at h
  · rename_i l hu
    -- a string
    have hG : G = [] := by
      obtain ⟨s0, h1, h2⟩ := Option.bind_eq_some_iff.1 hx
      unfold rdA at h2
      split at h2
      · split at h2 <;> cases h2
      · simp only [Option.some.injEq, Prod.mk.injEq] at h2; exact h2.2.symm
    obtain ⟨ti, hti, hu'⟩ := uOf_some hu
    have hq := (hT _ _ hti).und
    rw [hu'] at hq
    have hq : P.underlying t = some .string := hq
    subst hG
    have fin : ∀ {l' : List UInt8} {ih : Int}, lcut0 l il ih = some l' → (∀ (e : Operand → Value) (w : World), (∀ o i, (evx L o).bind num? = some i → ∃ k, e o = .int k i) → (Instr.sliceBounds false l.length l.length (lo.map e) (hi.map e) none).run P w = .ok (il.toNat, ih.toNat, l.length) w) → mx = none → TrOK P I L hk m (.slice t x lo hi mx) (.pure (.str l')) := by
      intro l' ih hl' hb hmx
      subst hmx
      obtain ⟨b1, b2, b3, rfl⟩ := lcut_some hl'
      refine TrOK.giveUp (G := []) hx fun c e ty hr hn => ?_
      simp only [Rep] at hr
      refine ⟨.string ⟨((l.drop il.toNat).take (ih.toNat - il.toNat)).toArray⟩, ?_, by simp only [Rep]⟩
      have h1 : execOp e ⟨none, .slice t x lo hi none, ty, "", #[], none⟩ = (do pure (.value (← Instr.sliceAt t (e x) (lo.map e) (hi.map e) none))) := rfl
      have h2 := hb e c.w hn
      rw [h1, hr]
      simp only [Instr.sliceAt, Instr.slice, Sem.run_bind, run_underlying hq, Result.andThen_ok]
      rw [if_neg (by simp)]
      simp only [ByteArray.size, List.size_toArray, Sem.run_bind, Sem.run_pure, h2, Result.andThen_ok, str_cut]
    split at h
    · rename_i e1 e2
      obtain ⟨l', hl', h⟩ := Option.bind_eq_some_iff.1 h
      obtain ⟨b1, b2, b3, _⟩ := lcut_some hl'
      refine ⟨_, h, fin hl' (fun e w hn => ?_) (hiN e2)⟩
      obtain rfl := hiN e1
      have := sb0 (P := P) (w := w) (cap := l.length) (isS := false) (lo_of hlo hn) b1 (by simpa [llen0] using b2)
      simpa [llen0] using this
    · rename_i ih e1 e2
      obtain ⟨l', hl', h⟩ := Option.bind_eq_some_iff.1 h
      obtain ⟨b1, b2, b3, _⟩ := lcut_some hl'
      obtain ⟨oh, rfl, hoh⟩ := hiS e1
      refine ⟨_, h, fin hl' (fun e w hn => ?_) (hiN e2)⟩
      obtain ⟨k, hk'⟩ := hn oh ih hoh
      exact sb1 (P := P) (w := w) (isS := false) (lo_of hlo hn) hk' b1 b2 b3
    · cases h
  · rename_i a _ _ _
    split at h
    · rename_i τ l el ei hs hsl
      obtain ⟨z, hS, _⟩ := slOf_ok hT hsl
      cases h1 : Nat.beq ei.size τ.n with
      | false => rw [h1] at h; cases h
      | true =>
        rw [h1] at h
        rw [beqN h1] at hS
        simp only [cond_true] at h
        have hread : ∀ {c : Cx} {v : Value}, Rep c a v → ∀ w', Stp c.O c.w w' → Rd τ l v w' := by
          intro c v hr
          unfold slsOf at hs
          split at hs
          · simp only [Option.some.injEq, Sigma.mk.injEq] at hs; obtain ⟨rfl, hh⟩ := hs; obtain rfl := eq_of_heq hh; simpa only [Rep] using hr
          · simp only [Option.some.injEq, Sigma.mk.injEq] at hs; obtain ⟨rfl, hh⟩ := hs; obtain rfl := eq_of_heq hh; simp only [Rep] at hr; exact hr.2
          · cases hs
        split at h
        · rename_i e1 e2
          obtain ⟨l', hl', h⟩ := Option.bind_eq_some_iff.1 h
          obtain ⟨b1, b2, b3, rfl⟩ := lcut_some hl'
          obtain rfl := hiN e1
          obtain rfl := hiN e2
          refine ⟨_, h, TrOK.giveUp hx fun c e ty hr hn => ?_⟩
          have hrd := hread hr
          obtain ⟨b, cap, cs, hv, q1, q2, _⟩ := rd_cells hrd
          refine ⟨_, exec_slice (olo := lo) (l := il.toNat) (h := l.length) (mx := cap) hS hv (sb0 (lo_of hlo hn) b1 (by simpa [llen0] using b2)), ?_⟩
          · simp only [Rep]
            intro w' hs'
            have h0 := hrd w' hs'
            rw [hv] at h0
            have := rd_cut (lo := il.toNat) (hi := l.length) (mx := cap) h0 (by simp only [llen0] at b2; omega) (Nat.le_refl _) q1 (Nat.le_refl _)
            simpa [llen0] using this
        · rename_i ih e1 e2
          obtain ⟨l', hl', h⟩ := Option.bind_eq_some_iff.1 h
          obtain ⟨b1, b2, b3, rfl⟩ := lcut_some hl'
          obtain ⟨oh, rfl, hoh⟩ := hiS e1
          obtain rfl := hiN e2
          refine ⟨_, h, TrOK.giveUp hx fun c e ty hr hn => ?_⟩
          have hrd := hread hr
          obtain ⟨b, cap, cs, hv, q1, q2, _⟩ := rd_cells hrd
          obtain ⟨k, hk'⟩ := hn oh ih hoh
          refine ⟨_, exec_slice (olo := lo) (ohi := some oh) (l := il.toNat) (h := ih.toNat) (mx := cap) hS hv (sb1 (lo_of hlo hn) hk' b1 b2 (by omega)), ?_⟩
          · simp only [Rep]
            intro w' hs'
            have h0 := hrd w' hs'
            rw [hv] at h0
            exact rd_cut (lo := il.toNat) (hi := ih.toNat) (mx := cap) h0 (by omega) (by omega) (by omega) (Nat.le_refl _)
        · rename_i ih im e1 e2
          cases he : ieq0 ih im with
          | false => rw [he] at h; cases h
          | true =>
            rw [he] at h
            have he : ih = im := by simpa [ieq0] using he
            subst he
            simp only [cond_true] at h
            obtain ⟨l', hl', h⟩ := Option.bind_eq_some_iff.1 h
            obtain ⟨b1, b2, b3, rfl⟩ := lcut_some hl'
            obtain ⟨oh, rfl, hoh⟩ := hiS e1
            obtain ⟨om, rfl, hom⟩ := hiS e2
            refine ⟨_, h, TrOK.giveUp hx fun c e ty hr hn => ?_⟩
            have hrd := hread hr
            obtain ⟨b, cap, cs, hv, q1, q2, _⟩ := rd_cells hrd
            obtain ⟨k, hk'⟩ := hn oh ih hoh
            obtain ⟨k2, hk2⟩ := hn om ih hom
            refine ⟨_, exec_slice (olo := lo) (ohi := some oh) (omx := some om) (l := il.toNat) (h := ih.toNat) (mx := ih.toNat) hS hv (sb2 (lo_of hlo hn) hk' hk2 b1 b2 (by omega)), ?_⟩
            · simp only [Rep]
              refine ⟨⟨_, _, rfl⟩, fun w' hs' => ?_⟩
              have h0 := hrd w' hs'
              rw [hv] at h0
              exact rd_cut (lo := il.toNat) (hi := ih.toNat) (mx := ih.toNat) h0 (by omega) (by omega) (Nat.le_refl _) (by omega)
        · cases h
    · cases h

/-! ### Conversion to strings -/
theorem isU8_ok (hT : TTok P T) {t : TypeId} (h : isU8 T t = true) : P.underlying t = some (.int .u8) := by
  unfold isU8 at h
  split at h
  · rename_i hu
    obtain ⟨ti, hti, hu'⟩ := uOf_some hu
    have hq := (hT _ _ hti).und
    rw [hu'] at hq
    exact hq
  · cases h
theorem uOf_ok (hT : TTok P T) {t : TypeId} {u : Und} (h : uOf T t = some u) : ∃ i, TOK P t i ∧ i.u = u := by
  obtain ⟨i, hi, hu⟩ := uOf_some h
  exact ⟨i, hT _ _ hi, hu⟩
theorem rd_bytes {l : List UInt8} {v : Value} {w : World} (h : Rd .u8 l v w) : Bytes w v l := by
  obtain ⟨cs, h1, h2⟩ := h
  have : ∀ (l : List UInt8) (cs : List (List Value)), All2 (fun (x : El .u8) c => CR .u8 x c w) l cs → cs.flatten = l.map byteV := by
    intro l
    induction l with
    | nil => intro cs h; cases cs with | nil => rfl | cons _ _ => exact h.elim
    | cons a l ih =>
      intro cs h
      cases cs with
      | nil => exact h.elim
      | cons c cs =>
        have h1 := h.1
        simp only [CR] at h1
        rw [List.flatten_cons, h1, ih cs h.2]; rfl
  rw [this l cs h1] at h2
  exact h2
theorem run_str {src dst e' : TypeId} {x : Operand} {e : Operand → Value} {l : List UInt8} {w : World} (hs : P.underlying src = some (.slice e')) (he' : P.underlying e' = some (.int .u8)) (hd : P.underlying dst = some .string) (hB : Bytes w (e x) l) :
    (execOp e ⟨none, .convert src dst x, ty, "", #[], none⟩).run P w = .ok (.value (.string ⟨l.toArray⟩)) w := by
  obtain ⟨a, cap, hv, hl, h3, h4, h5, h6⟩ := hB
  have h1 : execOp e ⟨none, .convert src dst x, ty, "", #[], none⟩ = (do pure (.value (← convert src dst (e x)))) := rfl
  have := OP_str (P := P) (L := [(0, .v (.slice a l.length cap))]) (w := w) (ty := ty) (x := .tmp 0) (K := fun s w' => s = .v (.string ⟨l.toArray⟩) ∧ w' = w) hs he' hd rfl ⟨a, cap, rfl, hl, h3, h4, h5, h6⟩ ⟨rfl, rfl⟩ (fun o => match o with | .tmp 0 => .slice a l.length cap | .const v => v | .tmp _ => undef | .global g => .pointer (some ⟨g, 0, none⟩) | .func f => .func (.func f) #[] #[]) (by
    intro o s ho
    cases o with
    | tmp t =>
      simp only [evo] at ho
      rw [Eng.lkp_cons] at ho
      split at ho
      · rename_i e0; subst e0; obtain rfl := Option.some.inj ho; rfl
      · cases ho
    | const v => simp only [evo, Option.some.injEq] at ho; subst ho; exact (SV.den_of v).symm
    | global g => simp only [evo, Option.some.injEq] at ho; subst ho; rfl
    | func g => simp only [evo, Option.some.injEq] at ho; subst ho; rfl)
  unfold opw at this
  have h2 : ∀ e2 : Operand → Value, e2 (.tmp 0) = .slice a l.length cap → execOp e2 ⟨none, .convert src dst (.tmp 0), ty, "", #[], none⟩ = (do pure (.value (← convert src dst (.slice a l.length cap)))) := fun e2 h => by
    show (do pure (.value (← convert src dst (e2 (.tmp 0)))) : Sem Next) = _
    rw [h]
  rw [h2 _ rfl] at this
  rw [h1, hv]
  have hc : (convert src dst (.slice a l.length cap)).run P w = (Conv.bytesToString (.slice a l.length cap)).run P w := by
    simp only [convert, Sem.run_bind, run_underlying hs, run_underlying hd, Result.andThen_ok, run_underlying he']
  generalize hres : (convert src dst (.slice a l.length cap)).run P w = res at this
  simp only [Sem.run_bind, hres] at this ⊢
  cases res with
  | halt x w' => exact this.elim
  | ok v w' =>
    simp only [Result.andThen_ok, Sem.run_pure] at this ⊢
    obtain ⟨s, h1, h2, h3⟩ := this
    subst h2; subst h3
    rw [← h1]; rfl
theorem run_convb {P : Program} {ty t e e' base n : Nat} {x : Operand} {ρ : Operand → Value} {v : Value} {vs : List Value} {w : World} (ht : P.underlying t = some (.slice e)) (he : P.underlying e = some (.int .u8)) (hx : ρ x = v) (ho : w.ownsRow base e' 1 v n vs) (hn : 0 < n) :
    ∃ w', (execOp ρ ⟨none, .convert t t x, ty, "", #[], none⟩).run P w = .ok (.value v) w' ∧ Sl w' 1 v vs n ∧ Stp (fun b => blk v = some b) w w' := by
  have hs := Sl.of_own ho
  rcases ho.2 with ⟨_, h0⟩ | ⟨g, cap, cur, rfl, hb, hg, _⟩
  · omega
  have hsh : w.shape? g = some (e', cur.size) := by simp [World.shape?, hg]
  refine ⟨w.freeze ⟨g, cur.size, none⟩ 1, ?_, ?_, ?_⟩
  · have h1 : execOp ρ ⟨none, .convert t t x, ty, "", #[], none⟩ = (do pure (.value (← convert t t (ρ x)))) := rfl
    rw [h1, hx]
    simp [convert, run_underlying ht, run_underlying he, markStringish, hsh]
  · obtain ⟨a, cap', he', h2, h3, h4, h5, h6⟩ := hs
    exact ⟨a, cap', he', h2, h3, h4, h5, fun p hp j u hu => by rw [cell_freeze]; exact h6 p hp j u hu⟩
  · exact (Stp.of_grown (grownBy_freeze w g cur.size 1)).mono fun i _ h => by rw [Option.some.injEq] at h; rw [h]; rfl
theorem evSame_ok (hT : TTok P T) {s d : TypeId} {x : Operand} {k e : Nat} {l : List UInt8} (h : sameRow T hk s d (evx L x) = some (k, e, l)) : TrOK P I L hk m (.convert s d x) ⟨.sl .u8 l, [(k, .row e .u8 l)], [], false, 0⟩ := by
  unfold sameRow at h
  split at h
  · rename_i k' hx
    split at h
    · rename_i el hu
      cases hb : (Nat.beq s d && isU8 T el) with
      | false => rw [hb] at h; cases h
      | true =>
        rw [hb, cond_true] at h
        rw [Bool.and_eq_true] at hb
        obtain rfl := beqN hb.1
        split at h
        · rename_i e' a l' hkk
          simp only [Option.some.injEq, Prod.mk.injEq] at h
          obtain ⟨rfl, rfl, rfl⟩ := h
          obtain ⟨is, his, hus⟩ := uOf_ok hT hu
          have h1 := his.und
          rw [hus] at h1
          refine ⟨fun ty => OPL_run fun c e0 hG he hP => ?_, fun q R hq => ?_, fun q hq => absurd hq (has_nil q), fun hq => by cases hq⟩
          · obtain ⟨hN, hH, hO⟩ := pre_one hP
            obtain ⟨vs, hown, hr, h1c⟩ := hH
            have hv := he x _ hx
            simp only [Rep] at hv
            obtain ⟨w', hrun, hS, hst⟩ := run_convb (ty := ty) (P := P) h1 (isU8_ok hT hb.2) hv.2.1 hown (by simp)
            have hfb : ∀ b, fblk c.ν [(k', Rs.row e' .u8 (a :: l'))] b ↔ blk (c.ν k') = some b := by
              intro b
              constructor
              · rintro ⟨q, R0, h, h2⟩
                rw [flk_cons] at h
                split at h
                · rename_i hq; rw [← hq]; exact h2
                · cases h
              · intro h; exact ⟨k', _, by rw [flk_cons, if_pos rfl], h⟩
            refine ⟨_, w', c.ν, hrun, ⟨fun _ _ => rfl, ?_, (fun q R h => by cases h), (fun q q' R R' b h => by cases h), hst.mono fun i _ h => (hfb i).2 h⟩⟩
            simp only [Rep]
            intro w'' hs
            have hbytes : ∃ cs, All2 (fun x cc => CR .u8 x cc w'') (a :: l') cs ∧ vs = cs.flatten := by
              obtain ⟨cs, h2, h3⟩ := Reps.flatL hr
              refine ⟨cs, All2.mono (fun x us hh => ?_) h3, h2⟩
              simp only [flat, Reps, Rep] at hh
              obtain ⟨u, t, rfl, rfl, rfl⟩ := hh
              simp only [CR]
            obtain ⟨cs, h2, h3⟩ := hbytes
            refine ⟨cs, h2, ?_⟩
            rw [← h3]
            obtain ⟨p, cap, hvv, g2, g3, g4, g5, g6⟩ := hS
            refine ⟨p, cap, hvv, g2, g3, g4, g5, fun q hq j u hu => ?_⟩
            have hc := g6 q hq j u hu
            have hlt := World.block_lt_of_cell? w' _ hc
            rw [World.cell?_of_block (hs.block (q.add j).block hlt ?_)]
            · exact hc
            · rw [add_block]
              have hbq : blk (c.ν k') = some q.block := by rw [hvv, hq]; rfl
              rintro (⟨_, hno⟩ | ⟨q2, R2, hq2, _⟩)
              · exact hno ((hfb _).2 hbq)
              · cases hq2
          · rw [flk_cons] at hq
            split at hq
            · rename_i hqq; rw [hqq, ← Option.some.inj hq]; exact hkk
            · cases hq
        · cases h
    · cases h
  · cases h
theorem evConvert_ok (hT : TTok P T) {s d : TypeId} {x : Operand} (h : (match sameRow T hk s d (evx L x) with
    | some (k, e, l) => K ⟨.sl .u8 l, [(k, .row e .u8 l)], [], false, 0⟩
    | none => (match uOf T s, uOf T d, (evx L x).bind (rdA hk) with
      | some (.sl el), some .str, some (.sl .u8 l, F) => bif isU8 T el then K ⟨.str l, F, F, true, 0⟩ else none
      | some (.sl el), some .str, some (.nil, F) => bif isU8 T el then K (.pure (.str [])) else none
      | some _, some d, some (a, F) => evConv d a fun s => K (.pure s)
      | _, _, _ => none)) = some r) : ∃ tr, K tr = some r ∧ TrOK P I L hk m (.convert s d x) tr := by
  split at h
  · rename_i k e l hsm
    exact ⟨_, h, evSame_ok hT hsm⟩
  split at h
  · rename_i el l F hs hd hx
    cases hb : isU8 T el with
    | false => rw [hb] at h; cases h
    | true =>
      rw [hb] at h
      obtain ⟨is, his, hus⟩ := uOf_ok hT hs
      obtain ⟨id, hid, hud⟩ := uOf_ok hT hd
      have h1 := his.und
      rw [hus] at h1
      have h2 := hid.und
      rw [hud] at h2
      refine ⟨_, h, TrOK.lend hx rfl fun c e ty hr => ?_⟩
      simp only [Rep] at hr
      exact ⟨_, run_str h1 (isU8_ok hT hb) h2 (rd_bytes (hr c.w (Stp.refl _ _))), by simp only [Rep]⟩
  · rename_i el F hs hd hx
    cases hb : isU8 T el with
    | false => rw [hb] at h; cases h
    | true =>
      rw [hb] at h
      obtain ⟨is, his, hus⟩ := uOf_ok hT hs
      obtain ⟨id, hid, hud⟩ := uOf_ok hT hd
      have h1 := his.und
      rw [hus] at h1
      have h2 := hid.und
      rw [hud] at h2
      obtain ⟨s0, hx0, hx1⟩ := Option.bind_eq_some_iff.1 hx
      have hs0 : s0 = .nil := by
        unfold rdA at hx1
        split at hx1
        · split at hx1 <;> cases hx1
        · simp only [Option.some.injEq, Prod.mk.injEq] at hx1; exact hx1.1
      subst hs0
      refine ⟨_, h, TrOK.mk0 fun ty => OPL_run0 fun c e hG he => ?_⟩
      have hv := he x _ hx0
      simp only [Rep] at hv
      exact ⟨_, run_str h1 (isU8_ok hT hb) h2 (l := []) (by rw [hv]; exact Sl.nil _ _), by simp only [Rep]⟩
  · rename_i us ud a F hne1 hne2 hs hd hx
    obtain ⟨is, his, hus⟩ := uOf_ok hT hs
    obtain ⟨id, hid, hud⟩ := uOf_ok hT hd
    obtain ⟨s0, hx0, hx1⟩ := Option.bind_eq_some_iff.1 hx
    have hsc : s0 = a := by
      unfold rdA at hx1
      split at hx1
      · split at hx1
        · simp only [Option.some.injEq, Prod.mk.injEq] at hx1
          obtain ⟨rfl, _⟩ := hx1
          simp [evConv] at h
        · cases hx1
      · simp only [Option.some.injEq, Prod.mk.injEq] at hx1; exact hx1.1
    subst hsc
    obtain ⟨sv, hK, hrun⟩ := evConv_ok h his hid hud
    refine ⟨_, hK, TrOK.mk0 fun ty => OPL_run0 fun c e hG he => ?_⟩
    obtain ⟨v, hv, hr⟩ := hrun c (e x) c.w (he x _ hx0)
    refine ⟨v, ?_, hr⟩
    have h1 : execOp e ⟨none, .convert s d x, ty, "", #[], none⟩ = (do pure (.value (← convert s d (e x)))) := rfl
    rw [h1]
    simp only [Sem.run_bind, hv, Result.andThen_ok, Sem.run_pure]
  · cases h
end
end Go.Ax
