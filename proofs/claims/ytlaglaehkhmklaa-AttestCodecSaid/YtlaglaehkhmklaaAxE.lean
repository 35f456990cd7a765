/-
  Own text. The abstract machine: append, copy, min, max, and every plain operation at once. It claims nothing of any program.
-/
import Derived.Test.YtlaglaehkhmklaaAxD
import Derived.Deep.Upon
namespace Go.Ax
open Go Go.RowKit Go.Eng
set_option linter.unusedVariables false
set_option linter.unusedSimpArgs false
section
variable {P : Program} {I : World → Prop} {L : LX} {ty : TypeId} {T : TT} {R : Type} {K : Tr → Option R} {r : R} {hk : Nat → Option Rs} {m : Nat}

/-! ### append -/
theorem run_app {w : World} {t ty' e : Nat} {z : Value} {sz bytes n m cap2 : Nat} {v : Value} {xs news : List Value} {p : Addr} (T : SliceT P t e z sz bytes) (hown : w.ownsRow 0 e sz v n xs) (hl : news.length = m * sz) (hnews : ∀ j u, news[j]? = some u → w.cell? (p.add j) = some u) (h1 : ∀ u ∈ news, u.oneCell' = true)
    (hb : (n + m) * bytes ≤ 140737488355328 ∧ 0 < bytes) :
    ∃ v' w', (Builtin.append_ #[t, t] ty' #[v, .slice (some p) m cap2]).run P w = .ok v' w' ∧ w'.ownsRow 0 e sz v' (n + m) (xs ++ news) ∧ Stp (fun b => blk v = some b) w w' ∧ ∀ b, blk v' = some b → w.heap.size ≤ b ∨ blk v = some b := by
  obtain ⟨i, hi, hz, hsize, hby⟩ := info_parts T.hi
  have hmax : n + m ≤ maxLen := by have := Nat.le_mul_of_pos_right (n + m) hb.2; unfold maxLen; omega
  obtain ⟨v', w', hr, h2, h3, h4⟩ := run_append_own (P := P) w 0 t ty' e i z sz bytes T.ht hi hz hsize hby T.hzs T.hsz v n xs hown p m cap2 news hl hnews h1 hmax hb.1 (Nat.zero_le _)
  refine ⟨v', w', hr, h2, ?_, ?_⟩
  · rw [blk_own v (own_slice hown)]; exact Stp.of_grown h3
  · rcases hown.2 with ⟨rfl, rfl⟩ | ⟨g, cap, cur, rfl, hbg, hg, hnc, hcm, hcs, htake⟩
    · have hx : xs = [] := List.eq_nil_of_length_eq_zero (by simpa using hown.1)
      subst hx
      obtain ⟨v2, w2, hr2, k2, _, _⟩ := run_append_own (P := P) w w.heap.size t ty' e i z sz bytes T.ht hi hz hsize hby T.hzs T.hsz _ 0 [] (World.ownsRow_nil w w.heap.size e sz) p m cap2 news hl hnews h1 hmax hb.1 (Nat.le_refl _)
      rw [hr] at hr2
      simp only [Result.ok.injEq] at hr2
      obtain ⟨rfl, rfl⟩ := hr2
      exact fun b hb' => .inl (own_lt k2 b hb').1
    · by_cases hroom : n + m ≤ cap
      · have hfit : n * i.size + news.length ≤ cur.size := by rw [hl, hcs, hsize, ← Nat.add_mul]; exact Nat.mul_le_mul_right _ hroom
        have hr2 := run_append_room (P := P) w t ty' e i T.ht hi g n cap cur hg p m cap2 news (by rw [hsize]; exact hl) hnews h1 hroom hfit
        rw [hr] at hr2
        simp only [Result.ok.injEq] at hr2
        obtain ⟨rfl, rfl⟩ := hr2
        exact fun b hb' => .inr hb'
      · have holds : ∀ j u, xs[j]? = some u → w.cell? ((⟨g, 0, none⟩ : Addr).add j) = some u := hown.cells (g := g) rfl
        obtain ⟨v2, w2, hr2, k2, _⟩ := run_append_arg_grows (P := P) w t ty' e i z sz bytes T.ht hi hz hsize hby T.hzs T.hsz ⟨g, 0, none⟩ n cap xs hown.1 holds p m cap2 news hl hnews (by omega) hmax hb.1
        rw [hr] at hr2
        simp only [Result.ok.injEq] at hr2
        obtain ⟨rfl, rfl⟩ := hr2
        exact fun b hb' => .inl (own_lt k2 b hb').1
theorem run_app0 {w : World} {t ty' e : Nat} {z : Value} {sz bytes n : Nat} {v : Value} {xs : List Value} (T : SliceT P t e z sz bytes) (hown : w.ownsRow 0 e sz v n xs) : (Builtin.append_ #[t, t] ty' #[v, .slice none 0 0]).run P w = .ok v w := by
  obtain ⟨i, hi, hz, hsize, hby⟩ := info_parts T.hi
  exact run_append_owned_none (P := P) w 0 t ty' e i sz T.ht hi v n xs hown
/-- append to a row, any slice behind it -/
theorem run_appS {w : World} {t ty' e : Nat} {z : Value} {sz bytes n m : Nat} {v u : Value} {xs news : List Value} (T : SliceT P t e z sz bytes) (hown : w.ownsRow 0 e sz v n xs) (hsl : Sl w sz u news m) (h1 : ∀ u ∈ news, u.oneCell' = true) (hb : (n + m) * bytes ≤ 140737488355328 ∧ 0 < bytes) :
    ∃ v' w', (Builtin.append_ #[t, t] ty' #[v, u]).run P w = .ok v' w' ∧ w'.ownsRow 0 e sz v' (n + m) (xs ++ news) ∧ Stp (fun b => blk v = some b) w w' ∧ ∀ b, blk v' = some b → w.heap.size ≤ b ∨ blk v = some b := by
  obtain ⟨a, cap, rfl, hl, _, _, hnone, hcs⟩ := hsl
  cases a with
  | none =>
    obtain ⟨rfl, rfl⟩ := hnone rfl
    have hn0 : news = [] := List.eq_nil_of_length_eq_zero (by simpa using hl)
    subst hn0
    exact ⟨v, w, run_app0 T hown, by simpa using hown, Stp.refl _ _, fun b hb => .inr hb⟩
  | some p => exact run_app T hown hl (hcs p rfl) h1 hb
/-- append to a slice without room -/
theorem run_appT {w : World} {t ty' e : Nat} {z : Value} {sz bytes n m : Nat} {v u : Value} {xs news : List Value} (T : SliceT P t e z sz bytes) (hv : Sl w sz v xs n) (ht : Tight v) (hsl : Sl w sz u news m) (h1 : ∀ u ∈ news, u.oneCell' = true) (hm : 0 < m) (hb : (n + m) * bytes ≤ 140737488355328 ∧ 0 < bytes) :
    ∃ v' w', (Builtin.append_ #[t, t] ty' #[v, u]).run P w = .ok v' w' ∧ w'.ownsRow 0 e sz v' (n + m) (xs ++ news) ∧ Stp No w w' ∧ ∀ b, blk v' = some b → w.heap.size ≤ b := by
  obtain ⟨i, hi, hz, hsize, hby⟩ := info_parts T.hi
  obtain ⟨a, cap, rfl, e2, e3, e4, e5, e6⟩ := hv
  obtain ⟨a', n', hq⟩ := ht
  simp only [Value.slice.injEq] at hq
  obtain ⟨_, q1, q2⟩ := hq
  have q3 : cap = n := by omega
  subst q3
  clear q1 q2 e3
  obtain ⟨ax, cx, rfl, x2, x3, x4, x5, x6⟩ := hsl
  cases a with
  | none =>
    obtain ⟨rfl, _⟩ := e5 rfl
    have hl : xs = [] := List.eq_nil_of_length_eq_zero (by simpa using e2)
    subst hl
    obtain ⟨v', w', r1, r2, r3, r4⟩ := run_appS (ty' := ty') (n := 0) (xs := []) (v := .slice none 0 0) T (World.ownsRow_nil w 0 e sz) ⟨ax, cx, rfl, x2, x3, x4, x5, x6⟩ h1 hb
    refine ⟨v', w', r1, r2, r3.mono (fun i _ h => nomatch h), fun b hb => ?_⟩
    rcases r4 b hb with h | h
    · exact h
    · cases h
  | some p =>
    cases ax with
    | none => have := (x5 rfl).1; omega
    | some q =>
      have hcap : cap + m ≤ maxLen := by have := Nat.le_mul_of_pos_right (cap + m) hb.2; unfold maxLen; omega
      obtain ⟨v', w', r1, r2, r3⟩ := run_append_arg_grows (P := P) w t ty' e i z sz bytes T.ht hi hz hsize hby T.hzs T.hsz p cap cap xs e2 (e6 p rfl) q m cx news x2 (x6 q rfl) (by omega) hcap hb.1
      exact ⟨v', w', r1, own_base r2 (Nat.zero_le _), (Stp.of_grown r3).mono (fun i _ h => nomatch h), fun b hb => (own_lt r2 b hb).1⟩
theorem run_call_app {e : Operand → Value} {s x : Operand} {t : Nat} {w w' : World} {v : Value} (h : (Builtin.append_ #[t, t] ty #[e s, e x]).run P w = .ok v w') :
    (execOp e ⟨none, .call { callee := .builtin .append, args := #[s, x], argTypes := #[t, t] }, ty, "", #[], none⟩).run P w = .ok (.value v) w' :=
  run_builtin e _ _ _ (by simp only [builtin, List.map_toArray, List.map_cons, List.map_nil, Sem.run_bind, h, Result.andThen_ok, Sem.run_pure])
theorem unfS_ok {c : Cx} {τ : Ty} {b : AV} {l : List (El τ)} {v : Value} (h : unfS τ b = some l) (hr : Rep c b v) : ∀ w', Stp c.O c.w w' → Rd τ l v w' := by
  unfold unfS at h
  split at h
  · rename_i l' hu
    obtain rfl := Option.some.inj h
    have := unf_all hu (Reps.one hr)
    simp only [flat, Reps, Rep] at this
    obtain ⟨u, t, he, h1, _⟩ := this
    simp only [List.cons.injEq] at he
    rw [he.1]; exact h1
  · cases h
/-- what is read, as cells -/
theorem rd_sl {c : Cx} {τ : Ty} {l : List (El τ)} {v : Value} (h : ∀ w', Stp c.O c.w w' → Rd τ l v w') : ∃ cs, Sl c.w τ.n v cs l.length ∧ Reps c (flatL τ l) cs ∧ ∀ u ∈ cs, u.oneCell' = true := by
  obtain ⟨a, cap, cs, h1, h2, h3, h4, h5, h6⟩ := rd_cells h
  have hr := Reps.of_flatL h5
  exact ⟨cs.flatten, ⟨a, cap, h1, by rw [flatten_len τ.n cs (All2.lens h5), h5.len], h2, h3, h4, h6 c.w (Stp.refl _ _)⟩, hr, flatL_one hr⟩
theorem unfS_sl {τ t : Ty} {l : List (El t)} {l' : List (El τ)} (h : unfS τ (.sl t l) = some l') : t = τ ∧ HEq l l' := by
  unfold unfS at h
  split at h
  · rename_i l2 hu
    obtain rfl := Option.some.inj h
    simp only [unf] at hu
    split at hu
    · rename_i l3 h3
      simp only [Option.some.injEq, Prod.mk.injEq, and_true] at hu
      subst hu
      exact unfE_eq h3
    · cases hu
  · cases h
theorem has_right {G F : Fp} {k : Nat} (h : has k F) : has k (G ++ F) := (has_app _ _ _).2 (.inr h)
/-- what is left of a row that is looked at: lent or given up -/
theorem Ok.lendOr {c : Cx} {G F F' : Fp} {s : AV} {v : Value} {w' : World} {ν' : Nat → Value} (b : Bool) (hj : Dj G F) (hj' : Dj G F') (hlt : ∀ b, c.O b → b < c.w.heap.size)
    (hres : ∀ k R, flk k (G ++ F) = some R → c.N k ∧ Holds c k R ∧ ∀ b, blk (c.ν k) = some b → c.O b) (hdist : ∀ k k' R R' b, flk k (G ++ F) = some R → flk k' (G ++ F) = some R' → k ≠ k' → blk (c.ν k) = some b → blk (c.ν k') ≠ some b)
    (hs : b = true → noRd s = true) (hF : b = true → noRdF F' = true) (ok : Ok (c.less G) F F' s v w' ν') : Ok c (G ++ F) ((bif b then G else []) ++ F') s v w' ν' := by
  cases b with
  | false => exact Ok.consume hj ok
  | true => exact Ok.borrow hj hj' hlt hres hdist (hs rfl) (hF rfl) ok
theorem evApp_ok (hT : TTok P T) (hm : ∀ k R, hk k = some R → k < m) {t : TypeId} {x y : Operand} (h : evApp T hk m t (evx L x) ((evx L y).bind (rdA hk)) K = some r) : ∃ tr, K tr = some r ∧ TrOK P I L hk m (.call { callee := .builtin .append, args := #[x, y], argTypes := #[t, t] }) tr := by
  unfold evApp at h
  try simp only [iadd_d, isub_d, imul_d, iquo_d, irem_d, ibit_d, ineg_d, ieq_d, ine_d, ilt_d, ile_d, ishl_d, ishr_d, beq_d, bnot_d, and_d, seq_d, u8op_d, u32op_d, u64op_d, u8shr_d, u8shl_d, u64shr_d, u64shl_d, u32shr_d, u32shl_d, i64w_d, u8i_d, u64i_d, iu8_d, iu32_d, iu64_d, u8u64_d, u64u8_d, u32u8_d, u64cmp_d, u8cmp_d, u32cmp_d, llen_d, lget_d, linb_d, lset_d, lcut_d, lrep_d, lapp_d, lcpy_d, lemp_d, fits_d, fitn_d] at h
  split at h
  · rename_i el i a b G hsl hx hy
    rw [withB_eq] at h
    obtain ⟨z, hS, hte, hz, hone, hby⟩ := slOf_ok hT hsl
    obtain ⟨s0, hy0, hy1⟩ := Option.bind_eq_some_iff.1 hy
    obtain ⟨g1, g2, g3⟩ := rdA_ok hy1
    have hGm : ∀ q, has q G → q ≠ m := fun q hq e => by subst e; obtain ⟨Rr, hr⟩ := (has_iff _ _).1 hq; have := hm q Rr (g1 q Rr hr); omega
    split at h
    · rename_i τ hτ
      have hn := hte.ty τ hτ
      rw [← hn] at hS
      split at h
      · rename_i m' hunf
        have hplain : τ.plain = true → ∀ l, noRdF [(m, Rs.row el τ l)] = true := fun hp l => by simp [noRdF, noRdR, hp]
        -- a new row out of nothing
        have fresh : ∀ (l' : List (El τ)), fits0 (lapp0 l' m') i.bytes = true → (∀ (c : Cx) (e : Operand → Value), ValX c L e → (∀ k Rr, flk k G = some Rr → c.N k ∧ Holds c k Rr ∧ ∀ b, blk (c.ν k) = some b → c.O b) → ∃ v' w' vs, (Builtin.append_ #[t, t] 0 #[e x, e y]).run P c.w = .ok v' w' ∧ (∀ ty, (Builtin.append_ #[t, t] ty #[e x, e y]).run P c.w = .ok v' w') ∧ w'.ownsRow 0 el τ.n v' (l' ++ m').length vs ∧ Reps (c.less G) (flatL τ (l' ++ m')) vs ∧ Stp No c.w w' ∧ ∀ b, blk v' = some b → c.w.heap.size ≤ b) →
            TrOK P I L hk m (.call { callee := .builtin .append, args := #[x, y], argTypes := #[t, t] }) ⟨.nm m, G, (bif τ.plain then G else []) ++ [(m, .row el τ (l' ++ m'))], false, 1⟩ := by
          intro l' hfits hrun
          refine ⟨fun ty => OPL_run fun c e hG he hP => ?_, g1, fun q hq => ?_, (fun h => by cases h)⟩
          · have hnew : ¬ c.N m := (hP.new m (has_right ((has_one _ _ _).2 rfl))).elim (fun hh => absurd rfl (hGm m hh)) id
            have hres : ∀ k Rr, flk k G = some Rr → c.N k ∧ Holds c k Rr ∧ ∀ b, blk (c.ν k) = some b → c.O b := fun k Rr hk => hP.res k Rr hk
            obtain ⟨v', w', vs, _, hr, ho, hrp, hst, hbk⟩ := hrun c e he hres
            have ok := Ok.newM (c := c.less G) (k := m) (Rr := .row el τ (l' ++ m')) hnew (hG.less _).lt hst ho hbk hrp (flatL_one hrp) (fun c' hh => hh)
            have := Ok.lendOr (F := []) τ.plain (dj_nil G) (fun q hq hq' => hGm q hq ((has_one _ _ _).1 hq')) hG.lt (by rw [List.append_nil]; exact hres) (by rw [List.append_nil]; exact hP.dist) (fun _ => rfl) (fun hp => hplain hp _) ok
            rw [List.append_nil] at this
            exact ⟨v', w', _, run_call_app (hr ty), this⟩
          · rcases (has_app _ _ _).1 hq with hq | hq
            · cases hp : τ.plain with
              | true => rw [hp] at hq; exact .inl hq
              | false => rw [hp] at hq; exact absurd hq (has_nil q)
            · refine .inr ?_; have := (has_one _ _ _).1 hq; show m ≤ q ∧ q < m + 1; omega
        split at h
        · rename_i k
          split at h
          · rename_i e' t' l hkk
            split at h
            · rename_i l' hul
              obtain ⟨rfl, hll⟩ := unfS_sl hul
              obtain rfl := eq_of_heq hll
              cases hc : (Nat.beq e' el && Nat.beq t'.n t'.n && notIn k G) with
              | false => rw [hc] at h; cases h
              | true =>
                cases hf : fits0 (lapp0 l m') i.bytes with
                | false => rw [hc, hf] at h; cases h
                | true =>
                  rw [hc, hf] at h
                  simp only [Bool.and_eq_true] at hc
                  obtain rfl := beqN hc.1.1
                  have hkG := notIn_iff.1 hc.2
                  have hdj : Dj G [(k, .row e' t' l)] := fun q hq hq' => hkG ((has_one _ _ _).1 hq' ▸ hq)
                  refine ⟨_, h, ⟨fun ty => OPL_run fun c e hG he hP => ?_, fun q Rr hq => ?_, fun q hq => ?_, (fun h => by cases h)⟩⟩
                  · have hnew : ¬ c.N m := (hP.new m (has_right ((has_one _ _ _).2 rfl))).elim (fun hh => by
                      rcases (has_app _ _ _).1 hh with hh | hh
                      · exact absurd rfl (hGm m hh)
                      · have := (has_one _ _ _).1 hh; have := hm k _ hkk; omega) id
                    have hP1 := Pre.less (F'' := []) hdj hP (fun q hq => absurd hq (has_nil q)) hG.lt
                    obtain ⟨hN, ⟨vs, hown, hrv, hov⟩, hO⟩ := pre_one hP1
                    have hry := g3 c _ (he y _ hy0) (fun k Rr hk => hP.res k Rr (flk_left hk)) G (fun b h => h)
                    obtain ⟨cs, hsl2, hrc, hoc⟩ := rd_sl (unfS_ok hunf hry)
                    have hux := he x _ hx
                    simp only [Rep] at hux
                    have hfits : (l.length + m'.length) * i.bytes ≤ 140737488355328 := by have := of_decide_eq_true hf; rwa [lapp0, List.length_append] at this
                    obtain ⟨v', w', hr, h2, h3, h4⟩ := run_appS (ty' := ty) hS hown hsl2 hoc ⟨hfits, hby⟩
                    rw [← List.length_append] at h2
                    have hle : Cx.Le none (c.less G) ⟨fun q => (c.less G).N q ∨ q = m, fun q => if q = m then v' else (c.less G).ν q, fun b => ((c.less G).O b ∧ blk ((c.less G).ν k) ≠ some b) ∨ blk v' = some b, w'⟩ :=
                      ⟨fun q _ h => ⟨.inl h, if_neg fun (e : q = m) => hnew (e ▸ h)⟩, fun w'' hs => h3.then hs (fun i _ h => hO i h) fun i hi h => by
                        rcases h with h | h
                        · exact h.1
                        · rcases h4 i h with h5 | h5
                          · exact absurd hi (Nat.not_lt.2 h5)
                          · exact hO i h5⟩
                    have hrow : Reps ⟨fun q => (c.less G).N q ∨ q = m, fun q => if q = m then v' else (c.less G).ν q, fun b => ((c.less G).O b ∧ blk ((c.less G).ν k) ≠ some b) ∨ blk v' = some b, w'⟩ (flatL t' (l ++ m')) (vs ++ cs) := by
                      rw [flatL_app]; exact (Reps.le hle _ _ (nqL_none _) hrv).app (Reps.le hle _ _ (nqL_none _) hrc)
                    have ok := Ok.turn (c := c.less G) (k := k) (k' := m) (R := .row e' t' l) (R' := .row e' t' (l ++ m')) (s := .nm m) (v := v') (u := v') hN hnew hO h3 (fun b hb => ⟨(own_lt h2 b hb).2, h4 b hb⟩)
                      ⟨vs ++ cs, by show World.ownsRow w' 0 e' t'.n (if m = m then v' else _) _ _; rw [if_pos rfl]; exact h2, hrow, flatL_one hrow⟩ (by simp only [Rep]; exact ⟨.inr trivial, by simp, own_one h2⟩)
                    have := Ok.lendOr t'.plain hdj (fun q hq hq' => hGm q hq ((has_one _ _ _).1 hq')) hG.lt hP.res hP.dist (fun _ => rfl) (fun hp => hplain hp _) ok
                    exact ⟨v', w', _, run_call_app (by rw [hux.2.1]; exact hr), this⟩
                  · rw [flk_app] at hq
                    cases hg : flk q G with
                    | some R2 => rw [hg] at hq; obtain rfl := Option.some.inj hq; exact g1 q R2 hg
                    | none => rw [hg] at hq; obtain ⟨rfl, rfl⟩ := flk_one_eq (show flk q [(k, _)] = some Rr from hq); exact hkk
                  · rcases (has_app _ _ _).1 hq with hq | hq
                    · cases hp : t'.plain with
                      | true => rw [hp] at hq; exact .inl ((has_app _ _ _).2 (.inl hq))
                      | false => rw [hp] at hq; exact absurd hq (has_nil q)
                    · refine .inr ?_; have := (has_one _ _ _).1 hq; show m ≤ q ∧ q < m + 1; omega
            · cases h
          · cases h
        · cases hf : fits0 m' i.bytes with
          | false => rw [hf] at h; cases h
          | true =>
            rw [hf] at h
            refine ⟨_, h, ?_⟩
            have := fresh [] (by simpa [lapp0] using hf) (fun c e he hres => ?_)
            · simpa using this
            · have hry := g3 c _ (he y _ hy0) hres G (fun b h => h)
              obtain ⟨cs, hsl2, hrc, hoc⟩ := rd_sl (unfS_ok hunf hry)
              have hux := he x _ hx
              simp only [Rep] at hux
              have hfits : (0 + m'.length) * i.bytes ≤ 140737488355328 := by have := of_decide_eq_true hf; simpa using this
              obtain ⟨v', w', hr, h2, h3, h4⟩ := run_appS (ty' := 0) hS (World.ownsRow_nil c.w 0 el τ.n) hsl2 hoc ⟨hfits, hby⟩
              refine ⟨v', w', cs, by rw [hux]; exact hr, fun ty => by rw [hux]; exact hr, by simpa using h2, by simpa using hrc, h3.mono (fun i _ h => by cases h), fun b hb => (h4 b hb).elim id (fun h => by cases h)⟩
        · rename_i t' l
          split at h
          · rename_i l' hul
            obtain ⟨rfl, hll⟩ : t' = τ ∧ HEq l l' := by
              unfold unfS at hul
              split at hul
              · rename_i l2 hu
                obtain rfl := Option.some.inj hul
                simp only [unf] at hu
                split at hu
                · rename_i l3 h3
                  simp only [Option.some.injEq, Prod.mk.injEq, and_true] at hu
                  subst hu
                  exact unfE_eq h3
                · cases hu
              · cases hul
            obtain rfl := eq_of_heq hll
            cases hem : lemp0 m' with
            | true =>
              rw [hem] at h
              have hm0 : m' = [] := by simpa [lemp0] using hem
              subst hm0
              refine ⟨_, h, ⟨fun ty => OPL_run fun c e hG he hP => ?_, g1, fun q hq => absurd hq (has_nil q), (fun hr => by cases G with | nil => rfl | cons _ _ => cases hr)⟩⟩
              have hux := Rep.le (c.less_le G) _ _ (nq_none _) (he x _ hx)
              have hry := g3 c _ (he y _ hy0) (fun k Rr hk => hP.res k Rr hk) G (fun b h => h)
              obtain ⟨cs, hsl2, hrc, hoc⟩ := rd_sl (unfS_ok hunf hry)
              have hux' := hux
              simp only [Rep] at hux'
              obtain ⟨cs2, hsl3, _, _⟩ := rd_sl hux'.2
              obtain ⟨inf, hi, hz1, hsize, hbytes⟩ := info_parts hS.hi
              have hrun : (Builtin.append_ #[t, t] ty #[e x, e y]).run P c.w = .ok (e x) c.w := by
                obtain ⟨a1, cap1, e1, _, e3, e4, e5, _⟩ := hsl3
                obtain ⟨ax, cx, x1, x2, x3, x4, x5, x6⟩ := hsl2
                rw [e1, x1]
                exact run_append_nothing c.w t t ty el inf hS.ht hi _ _ _ e3 _ ⟨.inl ⟨el, hS.ht⟩, fun w' => by simp [Builtin.lenOf], by cases ax <;> simp [Builtin.firstCells, loadCells, loadCellsFrom], by cases ax <;> simp [Builtin.firstCells, loadCells, loadCellsFrom], by simp, by simp⟩
              obtain ⟨ν', ok⟩ := Ok.pure (c := c.less G) (w' := c.w) hux (Stp.refl _ _)
              have := Ok.consume (dj_nil G) ok
              rw [List.append_nil] at this
              exact ⟨e x, c.w, ν', run_call_app hrun, this⟩
            | false =>
              cases hf : fits0 (lapp0 l m') i.bytes with
              | false => rw [hem, hf] at h; cases h
              | true =>
                rw [hem, hf] at h
                refine ⟨_, h, fresh l hf (fun c e he hres => ?_)⟩
                have hry := g3 c _ (he y _ hy0) hres G (fun b h => h)
                obtain ⟨cs, hsl2, hrc, hoc⟩ := rd_sl (unfS_ok hunf hry)
                have hux := Rep.le (c.less_le G) _ _ (nq_none _) (he x _ hx)
                simp only [Rep] at hux
                obtain ⟨cs2, hsl3, hrc2, hoc2⟩ := rd_sl hux.2
                have hm0 : 0 < m'.length := by
                  cases m' with
                  | nil => simp [lemp0] at hem
                  | cons _ _ => simp
                have hfits : (l.length + m'.length) * i.bytes ≤ 140737488355328 := by have := of_decide_eq_true hf; rwa [lapp0, List.length_append] at this
                have happ : ∀ ty, ∃ v' w', (Builtin.append_ #[t, t] ty #[e x, e y]).run P c.w = .ok v' w' ∧ w'.ownsRow 0 el t'.n v' (l.length + m'.length) (cs2 ++ cs) ∧ Stp No c.w w' ∧ ∀ b, blk v' = some b → c.w.heap.size ≤ b := fun ty => run_appT (ty' := ty) hS hsl3 hux.1 hsl2 hoc hm0 ⟨hfits, hby⟩
                obtain ⟨v', w', hr, h2, h3, h4⟩ := happ 0
                refine ⟨v', w', cs2 ++ cs, hr, fun ty => ?_, by rw [List.length_append]; exact h2, by rw [flatL_app]; exact hrc2.app hrc, h3, h4⟩
                exact hr
          · cases h
        · cases h
      · cases h
    · cases h
  · cases h
end
end Go.Ax
