/-
  Own text. The abstract machine: copy, and every plain operation at once. It claims nothing of any program.
-/
import Derived.Test.YtlaglaehkhmklaaAxE
namespace Go.Ax
open Go Go.RowKit Go.Eng
set_option linter.unusedVariables false
set_option linter.unusedSimpArgs false
section
variable {P : Program} {I : World → Prop} {L : LX} {ty : TypeId} {T : TT} {R : Type} {K : Tr → Option R} {r : R} {hk : Nat → Option Rs} {m : Nat}

theorem flatL_take {c : Cx} {τ : Ty} {l : List (El τ)} {us : List Value} (h : Reps c (flatL τ l) us) (n : Nat) : Reps c (flatL τ (l.take n)) (us.take (n * τ.n)) := by
  obtain ⟨cs, rfl, h2⟩ := h.flatL
  rw [← flatten_take τ.n n cs (All2.lens h2)]
  exact Reps.of_flatL (h2.take n)
theorem flatL_drop {c : Cx} {τ : Ty} {l : List (El τ)} {us : List Value} (h : Reps c (flatL τ l) us) (n : Nat) : Reps c (flatL τ (l.drop n)) (us.drop (n * τ.n)) := by
  obtain ⟨cs, rfl, h2⟩ := h.flatL
  rw [← flatten_drop τ.n n cs (All2.lens h2)]
  exact Reps.of_flatL (h2.drop n)
theorem evCpy_ok (hT : TTok P T) {t : TypeId} {x y : Operand} (h : evCpy T hk t (evx L x) ((evx L y).bind (rdA hk)) K = some r) : ∃ tr, K tr = some r ∧ TrOK P I L hk m (.call { callee := .builtin .copy, args := #[x, y], argTypes := #[t, t] }) tr := by
  unfold evCpy at h
  try simp only [iadd_d, isub_d, imul_d, iquo_d, irem_d, ibit_d, ineg_d, ieq_d, ine_d, ilt_d, ile_d, ishl_d, ishr_d, beq_d, bnot_d, and_d, seq_d, u8op_d, u32op_d, u64op_d, u8shr_d, u8shl_d, u64shr_d, u64shl_d, u32shr_d, u32shl_d, i64w_d, u8i_d, u64i_d, iu8_d, iu32_d, iu64_d, u8u64_d, u64u8_d, u32u8_d, u64cmp_d, u8cmp_d, u32cmp_d, llen_d, lget_d, linb_d, lset_d, lcut_d, lrep_d, lapp_d, lcpy_d, lemp_d, fits_d, fitn_d] at h
  split at h
  · rename_i el i k b G hsl hx hy
    obtain ⟨z, hS, hte, hz, hone, hby⟩ := slOf_ok hT hsl
    obtain ⟨s0, hy0, hy1⟩ := Option.bind_eq_some_iff.1 hy
    obtain ⟨g1, g2, g3⟩ := rdA_ok hy1
    split at h
    · rename_i τ e' t' l hτ hkk
      split at h
      · rename_i m' l' hunf hul
        obtain ⟨rfl, hll⟩ := unfS_sl hul
        obtain rfl := eq_of_heq hll
        cases hc : (Nat.beq e' el && Nat.beq i.size 1 && Nat.beq t'.n t'.n && t'.plain && notIn k G) with
        | false => rw [hc] at h; cases h
        | true =>
          rw [hc] at h
          simp only [Bool.and_eq_true] at hc
          obtain ⟨⟨⟨⟨h1, h2⟩, h3⟩, hpl⟩, hni⟩ := hc
          obtain rfl := beqN h1
          have hi1 := beqN h2
          have hn1 : t'.n = 1 := by rw [hte.ty _ hτ]; exact hi1
          have hkG := notIn_iff.1 hni
          have hdj : ∀ R, Dj G [(k, R)] := fun R q hq hq' => hkG ((has_one _ _ _).1 hq' ▸ hq)
          have hplain : ∀ l, noRdF [(k, Rs.row e' t' l)] = true := fun l => by simp [noRdF, noRdR, hpl]
          refine ⟨_, h, ⟨fun ty => OPL_run fun c e hG he hP => ?_, fun q Rr hq => ?_, fun q hq => .inl ?_, (fun h => by cases h)⟩⟩
          · have hP1 := Pre.less (F'' := []) (hdj _) hP (fun q hq => absurd hq (has_nil q)) hG.lt
            obtain ⟨hN, ⟨vs, hown, hrv, hov⟩, hO⟩ := pre_one hP1
            have hry := g3 c _ (he y _ hy0) (fun k Rr hk => hP.res k Rr (flk_left hk)) G (fun b h => h)
            obtain ⟨cs, hsl2, hrc, hoc⟩ := rd_sl (unfS_ok hunf hry)
            have hux := he x _ hx
            simp only [Rep] at hux
            have hvl : vs.length = l.length := by rw [hown.1, hn1]; omega
            have hcl : cs.length = m'.length := by have := hsl2.len; rw [hn1] at this; omega
            have fin : ∀ w', (∀ ty, (Builtin.copy_ #[t, t] ty #[c.ν k, e y]).run P c.w = .ok (goInt ((min m'.length l.length : Nat) : Int)) w') → w'.ownsRow 0 e' 1 (c.ν k) l.length (cs.take l.length ++ vs.drop m'.length) → Stp (fun b => blk (c.ν k) = some b) c.w w' →
                ∃ v w' ν', (execOp e ⟨none, .call { callee := .builtin .copy, args := #[x, y], argTypes := #[t, t] }, ty, "", #[], none⟩).run P c.w = .ok (.value v) w' ∧ Ok c (G ++ [(k, .row e' t' l)]) (G ++ [(k, .row e' t' (lcpy0 l m'))]) (.i (min (llen0 m') (llen0 l))) v w' ν' := by
              intro w' hr hw hst
              have hle : Cx.Le none (c.less G) ⟨(c.less G).N, (c.less G).ν, (c.less G).O, w'⟩ := ⟨fun q _ h => ⟨h, rfl⟩, fun w'' hs => hst.then hs (fun i _ h => hO i h) fun i _ h => h⟩
              have hrow : Reps ⟨(c.less G).N, (c.less G).ν, (c.less G).O, w'⟩ (flatL t' (lcpy0 l m')) (cs.take l.length ++ vs.drop m'.length) := by
                unfold lcpy0
                rw [flatL_app]
                have q1 := flatL_take (Reps.le hle _ _ (nqL_none _) hrc) l.length
                have q2 := flatL_drop (Reps.le hle _ _ (nqL_none _) hrv) m'.length
                rw [hn1, Nat.mul_one] at q1 q2
                exact q1.app q2
              have hlen : (lcpy0 l m').length = l.length := by simp [lcpy0]; omega
              have ok := Ok.change (c := c.less G) (R := .row e' t' l) (R' := .row e' t' (lcpy0 l m')) (s := .i (min (llen0 m') (llen0 l))) (v := goInt ((min m'.length l.length : Nat) : Int)) hN hO (hG.less G).lt hst ⟨_, by rw [hn1, hlen]; exact hw, hrow, flatL_one hrow⟩ (by simp only [Rep, goInt, llen0]; congr 1; omega)
              refine ⟨_, w', _, run_builtin e _ _ _ (by simp only [builtin, List.map_toArray, List.map_cons, List.map_nil, Sem.run_bind, hux.2.1, hr _, Result.andThen_ok, Sem.run_pure]), Ok.borrow (hdj _) (hdj _) hG.lt hP.res hP.dist rfl (hplain _) ok⟩
            have hown1 : c.w.ownsRow 0 e' 1 (c.ν k) l.length vs := by rw [← hn1]; exact hown
            obtain ⟨a, cap, e1, e2, e3, e4, e5, e6⟩ := hsl2
            by_cases hn : min m'.length l.length = 0
            · have hres : cs.take l.length ++ vs.drop m'.length = vs := by
                rcases Nat.eq_zero_or_pos l.length with h | h
                · have : vs = [] := List.eq_nil_of_length_eq_zero (by omega)
                  subst this; simp [h]
                · have hm0 : m'.length = 0 := by omega
                  have : cs = [] := List.eq_nil_of_length_eq_zero (by omega)
                  subst this; simp [hm0]
              have hsz : (P.info? e').map (·.size) = some 1 := by rw [hte.sz, hi1]
              obtain ⟨b1, cp, hb⟩ := own_shape' hown1
              refine fin c.w (fun ty => ?_) (by rw [hres]; exact hown1) (Stp.refl _ _)
              rw [hb, e1, hn]
              exact run_copy_none c.w t t ty e' b1 a l.length cp m'.length cap hS.ht hsz hn
            · have hsz : (P.info? e').map (·.size) = some 1 := by rw [hte.sz, hi1]
              rcases hown1.2 with ⟨_, h0⟩ | ⟨g, cp, cur, hv, hg0, hg, hnc, hcm, hcs', htake⟩
              · omega
              cases a with
              | none => have := (e5 rfl).1; omega
              | some p =>
                have hcsp := e6 p rfl
                have hlen : (cs.take l.length).length = Nat.min m'.length l.length := by rw [List.length_take, hcl]; exact Nat.min_comm _ _
                have hmle : Nat.min m'.length l.length ≤ l.length := Nat.min_le_right _ _
                have hr := fun ty => run_copy_row (P := P) c.w t t ty e' g 0 l.length cp p m'.length cap cur e' (cs.take l.length) hS.ht hsz hg hlen (fun j v hj => hcsp j v (by rw [List.getElem?_take] at hj; split at hj; exact hj; cases hj)) (by rw [hlen]; omega) (fun v hv => hoc v (List.mem_of_mem_take hv))
                rw [hlen] at hr
                simp only [List.take_zero, List.nil_append, Nat.zero_add] at hr
                refine fin _ (fun ty => by rw [hv, e1]; exact hr ty) ?_ ((Stp.of_grown (grownBy_setRow c.w g _)).mono fun i _ h => by rw [hv]; exact h)
                refine ⟨by rw [List.length_append, hlen, List.length_drop, hvl]; have : Nat.min m'.length l.length = min m'.length l.length := rfl; omega, .inr ⟨g, cp, _, hv, Nat.zero_le _, setRow_heap c.w g cur _ e' _ hg, hnc, hcm, ?_, ?_⟩⟩
                · simp only [List.size_toArray, List.length_append, hlen, List.length_drop, Array.length_toList]; omega
                · rw [Nat.mul_one] at htake ⊢
                  rw [List.take_append, List.take_of_length_le (by rw [hlen]; exact hmle), hlen]
                  congr 1
                  rw [← htake, List.drop_take]
                  rcases Nat.le_total m'.length l.length with hml | hml
                  · rw [show Nat.min m'.length l.length = m'.length from Nat.min_eq_left hml]
                  · rw [show Nat.min m'.length l.length = l.length from Nat.min_eq_right hml, Nat.sub_self, show l.length - m'.length = 0 from by omega]; simp
          · rw [flk_app] at hq
            cases hg : flk q G with
            | some R2 => rw [hg] at hq; obtain rfl := Option.some.inj hq; exact g1 q R2 hg
            | none => rw [hg] at hq; obtain ⟨rfl, rfl⟩ := flk_one_eq (show flk q [(k, _)] = some Rr from hq); exact hkk
          · rcases (has_app _ _ _).1 hq with hq | hq
            · exact (has_app _ _ _).2 (.inl hq)
            · exact (has_app _ _ _).2 (.inr ((has_one _ _ _).2 ((has_one _ _ _).1 hq)))
      · cases h
    · cases h
  · cases h

/-! ### Every plain operation -/
theorem evsX_reps {c : Cx} {e : Operand → Value} (he : ValX c L e) : ∀ (xs : List Operand) (ss : List AV), evsX (evx L) xs = some ss → Reps c ss (xs.map e)
  | [], ss, h => by simp only [evsX, Option.some.injEq] at h; subst h; simp [Reps]
  | x :: r, ss, h => by
    simp only [evsX] at h
    split at h
    · rename_i s ss' h1 h2
      obtain rfl := Option.some.inj h
      simp only [List.map_cons, Reps]
      exact ⟨_, _, rfl, he x s h1, evsX_reps he _ _ h2⟩
    · cases h
theorem toList1 {α : Type} {a : Array α} {x : α} (h : a.toList = [x]) : a = #[x] := by apply Array.ext'; exact h
theorem toList2 {α : Type} {a : Array α} {x y : α} (h : a.toList = [x, y]) : a = #[x, y] := by apply Array.ext'; exact h
theorem evOp_ok (hT : TTok P T) (hm : ∀ k R, hk k = some R → k < m) {op : Op} (h : evOp T (evx L) hk m op K = some r) : ∃ tr, K tr = some r ∧ TrOK P I L hk m op tr := by
  unfold evOp at h
  try simp only [iadd_d, isub_d, imul_d, iquo_d, irem_d, ibit_d, ineg_d, ieq_d, ine_d, ilt_d, ile_d, ishl_d, ishr_d, beq_d, bnot_d, and_d, seq_d, u8op_d, u32op_d, u64op_d, u8shr_d, u8shl_d, u64shr_d, u64shl_d, u32shr_d, u32shl_d, i64w_d, u8i_d, u64i_d, iu8_d, iu32_d, iu64_d, u8u64_d, u64u8_d, u32u8_d, u64cmp_d, u8cmp_d, u32cmp_d, llen_d, lget_d, linb_d, lset_d, lcut_d, lrep_d, lapp_d, lcpy_d, lemp_d, fits_d, fitn_d] at h
  split at h
  · rename_i x
    obtain ⟨s, hs, h⟩ := evK_some h
    exact ⟨_, h, TrOK.mk0 fun ty => OPL_run0 fun c e hG he => ⟨e x, by simp [execOp], he x _ hs⟩⟩
  · rename_i x
    obtain ⟨s, hs, h⟩ := evK_some h
    exact ⟨_, h, TrOK.mk0 fun ty => OPL_run0 fun c e hG he => ⟨e x, by simp [execOp], he x _ hs⟩⟩
  · rename_i b x y
    split at h
    · rename_i c0 hb
      cases c0 with
      | true =>
        obtain ⟨s, hs, h⟩ := evK_some h
        exact ⟨_, h, TrOK.mk0 fun ty => OPL_run0 fun c e hG he => ⟨e x, by have := he b _ hb; simp only [Rep] at this; simp [execOp, this, asBool], he x _ hs⟩⟩
      | false =>
        obtain ⟨s, hs, h⟩ := evK_some h
        exact ⟨_, h, TrOK.mk0 fun ty => OPL_run0 fun c e hG he => ⟨e y, by have := he b _ hb; simp only [Rep] at this; simp [execOp, this, asBool], he y _ hs⟩⟩
    · cases h
  · rename_i x
    split at h
    · rename_i k o hx
      exact ⟨_, h, TrOK.mk0 fun ty => OPL_run0 fun c e hG he => ⟨e x, by have := he x _ hx; simp only [Rep] at this; obtain ⟨_, b, _, h⟩ := this; simp [execOp, h], he x _ hx⟩⟩
    · rename_i k i s o hx
      exact ⟨_, h, TrOK.mk0 fun ty => OPL_run0 fun c e hG he => ⟨e x, by have := he x _ hx; simp only [Rep] at this; obtain ⟨_, b, _, h⟩ := this; simp [execOp, h], he x _ hx⟩⟩
    · rename_i l hx
      exact ⟨_, h, TrOK.mk0 fun ty => OPL_run0 fun c e hG he => ⟨e x, by have := he x _ hx; simp only [Rep] at this; obtain ⟨p, us, h, _⟩ := this; simp [execOp, h], he x _ hx⟩⟩
    · cases h
  · rename_i x i
    split at h
    · rename_i l hx
      obtain ⟨s, hs, h⟩ := evK_some h
      refine ⟨_, h, TrOK.mk0 fun ty => OPL_run0 fun c e hG he => ?_⟩
      have := he x _ hx
      simp only [Rep] at this
      obtain ⟨us, hu, hr⟩ := this
      obtain ⟨u, hu', hr'⟩ := hr.get hs
      exact ⟨u, by
        have h1 : execOp e ⟨none, .extract x i, ty, "", #[], none⟩ = (do pure (.value (← Instr.extract (e x) i))) := rfl
        rw [h1, hu]
        simp [Instr.extract, hu'], hr'⟩
    · cases h
  · rename_i t x
    split at h
    · rename_i a hx
      exact ⟨_, h, TrOK.mk0 fun ty => OPL_run0 fun c e hG he => ⟨.bool (!a), by have := he x _ hx; simp only [Rep] at this; simp [execOp, this, Op.unary], by simp only [Rep]; rfl⟩⟩
    · cases h
  · rename_i t x
    split at h
    · rename_i a hx
      exact ⟨_, h, TrOK.mk0 fun ty => OPL_run0 fun c e hG he => ⟨.int .i64 (ineg0 a), by have := he x _ hx; simp only [Rep] at this; simp [execOp, this, Op.unary, Op.intArith, ineg0], by simp only [Rep]⟩⟩
    · cases h
  · rename_i op t x y yt
    split at h
    · rename_i a b hx hy
      obtain ⟨s, hK, hB⟩ := evBin_ok (P := P) (t := t) h (fun hbt => by
        split at hbt
        · rename_i hu
          obtain ⟨i, hi, hiu⟩ := uOf_ok hT hu
          have := hi.und
          rw [hiu] at this
          exact this
        · cases hbt) (fun he2 => by
        split at he2
        · rename_i i hi; exact (hT _ _ hi).eq2 he2
        · cases he2)
      refine ⟨_, hK, TrOK.mk0 fun ty => OPL_run0 fun c e hG he => ?_⟩
      obtain ⟨q1, v', q2, q3⟩ := hB c _ _ c.w (he x _ hx) (he y _ hy)
      exact ⟨v', run_bin rfl rfl (q1 x y) q2, q3⟩
    · cases h
  · exact evConvert_ok hT h
  · exact evAlloc_ok hT h
  · exact evBox_ok h
  · exact evLoad_ok hT h
  · exact evStore_ok hT h
  · exact evFldA_ok hT h
  · exact evField_ok hT h
  · exact evBuild_ok hT h
  · exact evBldS_ok hT hm h
  · exact evMk_ok hT h
  · rename_i f xs ys
    split at h
    · rename_i a b ha hb
      refine ⟨_, h, TrOK.mk0 fun ty => OPL_run0 fun c e hG he => ⟨.func (.func f) (xs.map e) (ys.map e), by simp [execOp, Instr.makeFunc], ?_⟩⟩
      simp only [Rep]
      refine ⟨xs.toList.map e, ys.toList.map e, ?_, evsX_reps he _ _ ha, evsX_reps he _ _ hb⟩
      rw [← Array.toList_map, ← Array.toList_map]
    · cases h
  · exact evIxA_ok hT h
  · exact evIx_ok hT h
  · rename_i t x lo hi mx
    split at h
    · rename_i a F il hx hlo; exact evCut_ok hT hx hlo h
    · cases h
  · rename_i b xs ts
    split at h
    · rename_i x t hx ht
      obtain rfl := toList1 hx
      obtain rfl := toList1 ht
      exact evLen_ok hT h
    · rename_i x y hx
      obtain rfl := toList2 hx
      split at h
      · rename_i a b h1 h2
        refine ⟨_, h, TrOK.mk0 fun ty => OPL_run0 fun c e hG he => ⟨.int .i64 (min a b), run_builtin e _ _ _ ?_, by simp only [Rep]⟩⟩
        have h1 := he x _ h1
        have h2 := he y _ h2
        simp only [Rep] at h1 h2
        have h3 : (if b < a then b else a) = min a b := by split <;> omega
        simp [builtin, Builtin.min_, h1, h2, Builtin.min2, h3]
      · cases h
    · rename_i x y hx
      obtain rfl := toList2 hx
      split at h
      · rename_i a b h1 h2
        refine ⟨_, h, TrOK.mk0 fun ty => OPL_run0 fun c e hG he => ⟨.int .i64 (max a b), run_builtin e _ _ _ ?_, by simp only [Rep]⟩⟩
        have h1 := he x _ h1
        have h2 := he y _ h2
        simp only [Rep] at h1 h2
        have h3 : (if b > a then b else a) = max a b := by split <;> omega
        simp [builtin, Builtin.max_, h1, h2, Builtin.max2, h3]
      · cases h
    · rename_i x y t t' hx ht
      obtain rfl := toList2 hx
      obtain rfl := toList2 ht
      cases hb : Nat.beq t t' with
      | false => rw [hb] at h; cases h
      | true => rw [hb] at h; obtain rfl := beqN hb; exact evApp_ok hT hm h
    · rename_i x y t t' hx ht
      obtain rfl := toList2 hx
      obtain rfl := toList2 ht
      cases hb : Nat.beq t t' with
      | false => rw [hb] at h; cases h
      | true => rw [hb] at h; obtain rfl := beqN hb; exact evCpy_ok hT h
    · cases h
  · cases h
end
end Go.Ax
