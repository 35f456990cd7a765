/-
  Own text. The abstract machine: a function from its entry to its end. It claims nothing of any program.
-/
import Derived.Test.YtlaglaehkhmklaaAxK
namespace Go.Ax
noncomputable section
open Go Go.RowKit Go.Eng
set_option linter.unusedVariables false
set_option linter.unusedSimpArgs false

def argX (k : Nat) : List AV → LX
  | [] => []
  | v :: r => (k, v) :: argX (k + 1) r
theorem argX_lk (vs : List AV) : ∀ (k t : Nat) (s : AV), lkx t (argX k vs) = some s → k ≤ t ∧ vs[t - k]? = some s := by
  induction vs with
  | nil => intro k t s h; cases h
  | cons v r ih =>
    intro k t s h
    rw [argX, lkx_cons] at h
    by_cases e : t = k
    · rw [if_pos e] at h
      obtain rfl := Option.some.inj h
      subst e
      exact ⟨Nat.le_refl _, by simp⟩
    · rw [if_neg e] at h
      obtain ⟨h1, h2⟩ := ih _ _ _ h
      refine ⟨by omega, ?_⟩
      rw [show t - k = (t - (k + 1)) + 1 from by omega, List.getElem?_cons_succ]
      exact h2
def hOf (k : Nat) : List Rs → HX
  | [] => []
  | r :: l => (k, some r) :: hOf (k + 1) l
theorem hlk_hOf : ∀ (l : List Rs) (i k : Nat), hlk k (hOf i l) = flk k (idxF i l)
  | [], i, k => rfl
  | R :: l, i, k => by rw [hOf, idxF, hlk_cons, flk_cons, hlk_hOf l]

/-! ### Results -/
def rv (tmps : Array Value) (r : ResultVar) : Sem Value := match r with | .tmp t => pure (tmps.getD t undef) | .cell x t => do loadVar t (← asAddr (tmps.getD x undef))
theorem results_eq (fn : Func) (tmps : Array Value) : results fn tmps = (do let vs ← fn.results.mapM (rv tmps); pure (if h : vs.size = 1 then vs[0] else .tuple vs)) := rfl
def resX (T : TT) (L : LX) (H : HX) : List ResultVar → Option (List AV)
  | [] => some []
  | .tmp t :: r => (match lkx t L, resX T L H r with | some s, some l => some (s :: l) | _, _ => none)
  | .cell t ty :: r => (match lkx t L, tlk ty T, resX T L H r with
    | some (.pa k o), some i, some l => (match hlk k H with
      | some (.var cells) => (match ldCells (scalar i.u) i.size (cells.drop o) with | some s => some (s :: l) | none => none)
      | _ => none)
    | _, _, _ => none)
def outV (l : List AV) : AV := match l with | [s] => s | l => .tup l
def tupV (us : List Value) : Value := match us with | [u] => u | us => .tuple us.toArray
variable {R : Type}
def forceRO : List (Option Rs) → (List (Option Rs) → R) → R
  | [], K => K []
  | some s :: r, K => forceR s fun s => forceRO r fun r => K (some s :: r)
  | none :: r, K => forceRO r fun r => K (none :: r)
theorem forceRO_eq : ∀ (l : List (Option Rs)) (K : List (Option Rs) → R), forceRO l K = K l
  | [], K => rfl
  | some s :: r, K => by simp only [forceRO, forceR_eq, forceRO_eq]
  | none :: r, K => by simp only [forceRO, forceRO_eq]
/-- the rows that are not the caller's -/
def hrw (n0 : Nat) (hk : Nat → Option Rs) (k : Nat) : Option Rs := bif Nat.blt k n0 then none else hk k
/-- what cells hold, rows looked at as plain data -/
def hvw (n0 : Nat) (hk : Nat → Option Rs) (k : Nat) : Option Rs := match hk k with
  | some (.var l) => some (.var (vwL (hrw n0 hk) l))
  | some (.rowA e s n l) => some (.rowA e s n (vwL (hrw n0 hk) l))
  | R => R
def namesH (hk : Nat → Option Rs) : List Nat → List Nat
  | [] => []
  | k :: r => (match hk k with | some R => namesR R | none => []) ++ namesH hk r
def evRet (T : TT) (fi : FI) (n0 : Nat) (rs : List ResultVar) (L : LX) (H : HX) : Option Rsp := match resX T L H rs with
  | some l => forceL (normL fi.rs (bif fi.own then l else vwL (hrw n0 fun k => hlk k H) l)) fun l' => forceNs (close (bif fi.own then (fun k => hlk k H) else hvw n0 fun k => hlk k H) 60 [] (upto n0 ++ namesL l')) fun ks =>
      forceRO (ks.map fun k => ((bif fi.own then (fun k => hlk k H) else hvw n0 fun k => hlk k H) k).map (renR fun k => idx k ks)) fun Hout =>
        bif nodupB ks && preB n0 0 ks && allIn ks (namesL l') && allInH (bif fi.own then (fun k => hlk k H) else hvw n0 fun k => hlk k H) ks ks && newOK n0 Hout && djB ks (bif fi.own then [] else rowsOf (hrw n0 fun k => hlk k H) (nub [] (namesL l ++ namesH (fun k => hlk k H) ks))) && Nat.ble n0 ks.length then
          forceL (renL (fun k => idx k ks) l') fun l => force (outV l) fun s => some (.ret s Hout)
        else none
  | none => none

section
variable {P : Program} {I : World → Prop} {n : Nat} {g : Gx} {m : Nat} {L : LX} {H : HX} {a : Act} {w : World} {ν : Nat → Value} {T : TT}
theorem rv_ok (hT : TTok P T) (S : SatL I n g m L H a w ν) : ∀ {rs : List ResultVar} {l : List AV}, resX T L H rs = some l → ∃ us, (rs.mapM (rv a.tmps)).run P w = .ok us w ∧ Reps ⟨(· < m), ν, ownS g.Oa (fun k => hlk k H) ν, w⟩ l us
  | [], l, h => by simp only [resX, Option.some.injEq] at h; subst h; exact ⟨[], by simp, by simp only [Reps]⟩
  | .tmp t :: rs, l, h => by
    simp only [resX] at h
    split at h
    · rename_i s l' h1 h2
      obtain rfl := Option.some.inj h
      obtain ⟨us, h3, h4⟩ := rv_ok hT S h2
      refine ⟨a.tmps.getD t undef :: us, ?_, by simp only [Reps]; exact ⟨_, us, rfl, S.slots _ _ h1, h4⟩⟩
      simp only [List.mapM_cons, Sem.run_bind, rv, Sem.run_pure, Result.andThen_ok, h3]
    · cases h
  | .cell t ty :: rs, l, h => by
    simp only [resX] at h
    split at h
    · rename_i k o i l' h1 hi h2
      split at h
      · rename_i cells hk
        split at h
        · rename_i s hs
          obtain rfl := Option.some.inj h
          obtain ⟨us, h3, h4⟩ := rv_ok hT S h2
          obtain ⟨_, ⟨b, vs, e1, e2, e3, e4⟩, _⟩ := S.res k _ hk
          have hp := pa_eq (S.slots _ _ h1) e1
          obtain ⟨v, hv, hr⟩ := run_ld (w := w) (hT _ _ hi) hs (e3.drop o) (fun u hu => e4 u (List.mem_of_mem_drop hu)) (e2.cs o)
          refine ⟨v :: us, ?_, by simp only [Reps]; exact ⟨_, us, rfl, hr, h4⟩⟩
          simp only [List.mapM_cons, Sem.run_bind, rv, hp, asAddr, Sem.run_pure, Result.andThen_ok, hv, h3]
        · cases h
      · cases h
    · cases h
theorem results_ok (hT : TTok P T) (S : SatL I n g m L H a w ν) {fn : Func} {rs : List ResultVar} (hrs : fn.results.toList = rs) {l : List AV} (h : resX T L H rs = some l) :
    ∃ us, (results fn a.tmps).run P w = .ok (tupV us) w ∧ Reps ⟨(· < m), ν, ownS g.Oa (fun k => hlk k H) ν, w⟩ l us := by
  obtain ⟨us, h1, h2⟩ := rv_ok hT S h
  refine ⟨us, ?_, h2⟩
  rw [results_eq]
  have h3 : (fn.results.mapM (rv a.tmps)).run P w = .ok us.toArray w := by
    rw [show fn.results = rs.toArray from by rw [← hrs]]
    rw [List.mapM_toArray]
    simp [h1]
  simp only [Sem.run_bind, h3, Result.andThen_ok, Sem.run_pure]
  match us with
  | [] => rfl
  | [u] => rfl
  | u :: v :: r => simp; rfl
theorem outV_rep {c : Cx} : ∀ {l : List AV} {us : List Value}, Reps c l us → Rep c (outV l) (tupV us)
  | [s], us, h => by obtain ⟨u, rfl, hr⟩ := Reps.un1 h; exact hr
  | [], us, h => by
    have h' := h
    simp only [Reps] at h
    subst h
    simp only [outV, tupV, Rep]; exact ⟨[], rfl, h'⟩
  | s :: s' :: l, us, h => by
    have h' := h
    simp only [Reps] at h
    obtain ⟨u, t, rfl, h1, u', t', rfl, h2, h3⟩ := h
    simp only [outV, tupV, Rep]; exact ⟨_, rfl, h'⟩
theorem out_some {hk : Nat → Option Rs} {ks : List Nat} {k : Nat} {R : Rs} (h : flk k (outF id 0 (ks.map fun k => (hk k).map (renR fun k => idx k ks))) = some R) : ∃ q R1, ks[k]? = some q ∧ hk q = some R1 ∧ R = renR (fun k => idx k ks) R1 := by
  have := flk_out0 h
  rw [List.getElem?_map] at this
  obtain ⟨q, h1, h2⟩ := Option.map_eq_some_iff.1 this
  obtain ⟨R1, h3, h4⟩ := Option.map_eq_some_iff.1 h2
  exact ⟨q, R1, h1, h3, h4.symm⟩
theorem namesH_mem {hk : Nat → Option Rs} {k : Nat} {R : Rs} {q : Nat} (hR : hk k = some R) (hq : q ∈ namesR R) : ∀ {ks : List Nat}, k ∈ ks → q ∈ namesH hk ks
  | a :: ks, h => by
    simp only [namesH]
    rcases List.mem_cons.1 h with rfl | h
    · rw [hR]; exact List.mem_append.2 (.inl hq)
    · exact List.mem_append.2 (.inr (namesH_mem hR hq h))
theorem hrw_some {n0 : Nat} {hk : Nat → Option Rs} {k : Nat} {R : Rs} (h : hrw n0 hk k = some R) : hk k = some R := by
  unfold hrw at h
  cases hb : Nat.blt k n0 with
  | true => rw [hb] at h; cases h
  | false => rw [hb] at h; exact h
theorem hvw_some {n0 : Nat} {hk : Nat → Option Rs} {k : Nat} {R : Rs} (h : hvw n0 hk k = some R) : ∃ R0, hk k = some R0 ∧ (R = R0 ∨ (∃ l, R0 = .var l ∧ R = .var (vwL (hrw n0 hk) l)) ∨ ∃ e s n l, R0 = .rowA e s n l ∧ R = .rowA e s n (vwL (hrw n0 hk) l)) := by
  unfold hvw at h
  split at h
  · rename_i l hl; exact ⟨_, hl, .inr (.inl ⟨l, rfl, (Option.some.inj h).symm⟩)⟩
  · rename_i e s n l hl; exact ⟨_, hl, .inr (.inr ⟨e, s, n, l, rfl, (Option.some.inj h).symm⟩)⟩
  · exact ⟨R, h, .inl rfl⟩
theorem evRet_ok (hT : TTok P T) {fi : FI} {n0 : Nat} {rs : List ResultVar} {r : Rsp} {w0 : World} {O : Nat → Prop} {F : Fp} {ν0 : Nat → Value} {fn : Func} (hrs : fn.results.toList = rs) (hO : ∀ b, fblk ν0 F b → O b)
    (S : SatL I n ⟨w0, fblk ν0 F, fun b => O b ∧ ¬ fblk ν0 F b, n0, ν0⟩ m L H a w ν) (h : evRet T fi n0 rs L H = some r) :
    ∃ s Hout v ν', r = .ret s Hout ∧ (results fn a.tmps).run P w = .ok v w ∧ Ok ⟨(· < n0), ν0, O, w0⟩ F (outF id 0 Hout) s v w ν' := by
  unfold evRet at h
  split at h
  · rename_i l hl
    obtain ⟨us, hrun, hreps⟩ := results_ok hT S hrs hl
    rw [forceL_eq, forceNs_eq, forceRO_eq] at h
    generalize hl' : normL fi.rs (bif fi.own then l else vwL (hrw n0 fun k => hlk k H) l) = l' at h
    generalize hhv : (bif fi.own then (fun k => hlk k H) else hvw n0 fun k => hlk k H) = hv at h
    generalize hks : close hv 60 [] (upto n0 ++ namesL l') = ks at h
    generalize hvs : (bif fi.own then [] else rowsOf (hrw n0 fun k => hlk k H) (nub [] (namesL l ++ namesH (fun k => hlk k H) ks))) = vs at h
    cases hc : (nodupB ks && preB n0 0 ks && allIn ks (namesL l') && allInH hv ks ks && newOK n0 (ks.map fun k => (hv k).map (renR fun k => idx k ks)) && djB ks vs && Nat.ble n0 ks.length) with
    | false => rw [hc] at h; cases h
    | true =>
      rw [hc] at h
      simp only [cond_true, forceL_eq, force_eq, Option.some.injEq] at h
      simp only [Bool.and_eq_true, nodupB_iff, allIn_iff] at hc
      obtain ⟨⟨⟨⟨⟨⟨hnd, hpre⟩, hin⟩, hinH⟩, hnew⟩, hdj⟩, hn0⟩ := hc
      have hn0 : n0 ≤ ks.length := by simpa using hn0
      have hdj := djB_iff hdj
      have hvH : ∀ k R, flk k vs = some R → hlk k H = some R := by
        intro k R hk
        rw [← hvs] at hk
        cases ho : fi.own with
        | true => rw [ho] at hk; cases hk
        | false => rw [ho] at hk; exact hrw_some (rowsOf_some hk).1
      have hresG : ∀ k R, flk k vs = some R → k < m ∧ Holds ⟨(· < m), ν, ownS (fun b => O b ∧ ¬ fblk ν0 F b) (fun k => hlk k H) ν, w⟩ k R ∧ ∀ b, blk (ν k) = some b → ownS (fun b => O b ∧ ¬ fblk ν0 F b) (fun k => hlk k H) ν b := fun k R hk => by
        obtain ⟨r0, r1, r2⟩ := S.res k R (hvH k R hk)
        exact ⟨r0, r1, fun b hb => .inr ⟨k, R, hvH k R hk, hb⟩⟩
      -- the values, without the rows that are read from now on
      have hr1 : Reps (Cx.less ⟨(· < m), ν, ownS (fun b => O b ∧ ¬ fblk ν0 F b) (fun k => hlk k H) ν, w⟩ vs) l' us := by
        rw [← hl']
        refine normL_ok _ ?_
        cases ho : fi.own with
        | true => exact Reps.le (Cx.less_le _ _) _ _ (nqL_none _) hreps
        | false =>
          refine vwL_ok hresG l us (fun k hk e t l0 hh => ?_) hreps
          rw [← hvs, ho]; exact rowsOf_get (mem_nub.2 (.inr (List.mem_append.2 (.inl hk)))) hh
      -- the things
      have hthing : ∀ k R, k ∈ ks → hv k = some R → ∃ R0, hlk k H = some R0 ∧ Holds (Cx.less ⟨(· < m), ν, ownS (fun b => O b ∧ ¬ fblk ν0 F b) (fun k => hlk k H) ν, w⟩ vs) k R := by
        intro k R hkk hR
        rw [← hhv] at hR
        have same : ∀ R, hlk k H = some R → Holds (Cx.less ⟨(· < m), ν, ownS (fun b => O b ∧ ¬ fblk ν0 F b) (fun k => hlk k H) ν, w⟩ vs) k R := fun R hR => by
          obtain ⟨r0, r1, r2⟩ := S.res k R hR
          exact Holds.le (Cx.less_le _ _) (nqL_none _) rfl (fun b hb => ⟨(r2 b hb).1, rfl⟩) r1
        cases ho : fi.own with
        | true => rw [ho] at hR; exact ⟨R, hR, same R hR⟩
        | false =>
          rw [ho] at hR
          have hvw : ∀ R0, hlk k H = some R0 → ∀ q ∈ namesR R0, ∀ e t l, hrw n0 (fun k => hlk k H) q = some (.row e t l) → flk q vs = some (.row e t l) := fun R0 h0 q hq e t l0 hh => by
            rw [← hvs, ho]; exact rowsOf_get (mem_nub.2 (.inr (List.mem_append.2 (.inr (namesH_mem (hk := fun k => hlk k H) h0 hq hkk))))) hh
          obtain ⟨R0, h0, h1⟩ := hvw_some (n0 := n0) (hk := fun k => hlk k H) hR
          refine ⟨R0, h0, ?_⟩
          rcases h1 with rfl | ⟨l0, rfl, rfl⟩ | ⟨e, sz, n1, l0, rfl, rfl⟩
          · exact same _ h0
          · obtain ⟨_, ⟨b, vs1, g1, g2, g3, g4⟩, _⟩ := S.res k _ h0
            exact ⟨b, vs1, g1, g2, vwL_ok hresG l0 vs1 (hvw _ h0) g3, g4⟩
          · obtain ⟨_, ⟨vs1, g1, g2, g3⟩, _⟩ := S.res k _ h0
            exact ⟨vs1, g1, vwL_ok hresG l0 vs1 (hvw _ h0) g2, g3⟩
      obtain ⟨hback, hlt⟩ := renL_back l' hin
      have hHout := fun {k R} h => out_some (hk := hv) (ks := ks) (k := k) (R := R) h
      have hOb : ∀ b, ((O b ∧ ¬ fblk ν0 F b) ∨ fblk (fun k => ν (nth ks k)) (outF id 0 (ks.map fun k => (hv k).map (renR fun k => idx k ks))) b) → ownS (fun b => O b ∧ ¬ fblk ν0 F b) (fun k => hlk k H) ν b ∧ ¬ fblk ν vs b := by
        rintro b (hb | ⟨k, R, hk, hb⟩)
        · refine ⟨.inl hb, ?_⟩
          rintro ⟨q, R1, hq, hqb⟩
          obtain ⟨_, _, r2⟩ := S.res q R1 (hvH q R1 hq)
          have := S.amb b hb
          rcases (r2 b hqb).2 with h1 | h1
          · simp only at h1 this; omega
          · exact hb.2 h1
        · obtain ⟨q, R1, h1, h2, rfl⟩ := hHout hk
          have hb : blk (ν (nth ks k)) = some b := hb
          rw [nth_get h1] at hb
          obtain ⟨R0, h0, _⟩ := hthing q R1 (List.mem_of_getElem? h1) h2
          refine ⟨.inr ⟨q, R0, h0, hb⟩, ?_⟩
          rintro ⟨q', R2, hq', hqb⟩
          refine S.dist q q' R0 R2 b h0 (hvH q' R2 hq') ?_ hb hqb
          rintro rfl
          exact hdj q ((has_iff _ _).2 ⟨_, hq'⟩) (List.mem_of_getElem? h1)
      have hN : ∀ k, k < ks.length → nth ks k < m → (k < n0 ∨ has k (outF id 0 (ks.map fun k => (hv k).map (renR fun k => idx k ks)))) ∧ (fun k => ν (nth ks k)) k = ν (nth ks k) := by
        intro k hk _
        refine ⟨?_, rfl⟩
        rcases Nat.lt_or_ge k n0 with h1 | h1
        · exact .inl h1
        · obtain ⟨R, hR⟩ := newOK_get hnew h1 (by simpa using hk)
          exact .inr (out0_get hR)
      have hpin : ∀ k, k < n0 → nth ks k = k := fun k hk => by
        have := preB_get hpre hk
        rw [Nat.zero_add] at this
        exact nth_get this
      refine ⟨_, _, _, fun k => ν (nth ks k), h.symm, hrun, fun k hk => ?_, ?_, fun k R hk => ?_, fun k k' R R' b hk hk' hne hb => ?_, S.stp⟩
      · show ν (nth ks k) = ν0 k
        rw [hpin k hk]; exact (S.pin k hk).2
      · refine outV_rep ?_
        exact Reps.ren (ρ := nth ks) (N := (· < m)) (ν := ν) (m := ks.length) hN (fun w'' hs => hs.mono fun i _ hi => hOb i hi) _ us hlt (by rw [hback]; exact hr1)
      · obtain ⟨q, R1, h1, h2, rfl⟩ := hHout hk
        have hkl : k < ks.length := (List.getElem?_eq_some_iff.1 h1).1
        obtain ⟨R0, h0, hold⟩ := hthing q R1 (List.mem_of_getElem? h1) h2
        obtain ⟨r0, r1, r2⟩ := S.res q R0 h0
        obtain ⟨b1, b2⟩ := renR_back (R := R1) (allInH_get hinH (List.mem_of_getElem? h1) h2)
        refine ⟨?_, fun b hb => ?_⟩
        · refine Holds.ren (ρ := nth ks) (N := (· < m)) (ν := ν) (O := fun b => ownS (fun b => O b ∧ ¬ fblk ν0 F b) (fun k => hlk k H) ν b ∧ ¬ fblk ν vs b) (m := ks.length) hN (fun w'' hs => hs.mono fun i _ hi => hOb i hi) rfl b2 ?_
          rw [b1, nth_get h1]; exact hold
        · have hb : blk (ν (nth ks k)) = some b := hb
          rw [nth_get h1] at hb
          exact r2 b hb
      · obtain ⟨q, R1, h1, h2, rfl⟩ := hHout hk
        obtain ⟨q', R2, h3, h4, rfl⟩ := hHout hk'
        have hb : blk (ν (nth ks k)) = some b := hb
        show blk (ν (nth ks k')) ≠ some b
        rw [nth_get h1] at hb
        rw [nth_get h3]
        obtain ⟨R0, h0, _⟩ := hthing q R1 (List.mem_of_getElem? h1) h2
        obtain ⟨R0', h0', _⟩ := hthing q' R2 (List.mem_of_getElem? h3) h4
        refine S.dist q q' R0 R0' b h0 h0' ?_ hb
        rintro rfl
        exact hne ((List.getElem?_inj (List.getElem?_eq_some_iff.1 h1).1 hnd).1 (by rw [h1, h3]))
  · cases h

/-- a call, from its body -/
theorem semC_of {f : FuncId} {fn : Func} {c : Code} {fi : FI} {ins : List AV} {Hin : List Rs} {s : AV} {Hout : List (Option Rs)} (hT : TTok P T) (hf : P.funcs[f]? = some fn) (hb : fn.body = some c) (hlen : Nat.ble ins.length fn.ntmps = true)
    (h : ∀ g : Gx, g.n0 = Hin.length → Wc P I fn.ntmps g c (fun e m L H => (e = .normal ∨ e = .ret) ∧ evRet T fi Hin.length fn.results.toList L H = some (.ret s Hout)) Hin.length (argX 0 ins) (hOf 0 Hin)) : SemC P I f ins Hin s Hout := by
  intro ν O w args hG hin hP
  have hlen : ins.length ≤ fn.ntmps := by simpa using hlen
  have hl := hin.len
  refine calls_of_wp hf hb ?_
  have hsz : (args.toArray ++ Array.replicate (fn.ntmps - args.toArray.size) undef).size = fn.ntmps := by simp; omega
  have hF : (fun k => hlk k (hOf 0 Hin)) = fun k => flk k (idxF 0 Hin) := funext fun k => hlk_hOf Hin 0 k
  have hO : ∀ b, fblk ν (idxF 0 Hin) b → O b := by rintro b ⟨k, R, hk, hb⟩; exact (hP.res k R hk).2.2 b hb
  have hown : ownS (fun b => O b ∧ ¬ fblk ν (idxF 0 Hin) b) (fun k => flk k (idxF 0 Hin)) ν = O := by
    funext b
    refine propext ⟨fun hb => hb.elim (·.1) fun ⟨k, R, hk, h⟩ => hO b ⟨k, R, hk, h⟩, fun hb => ?_⟩
    rcases Classical.em (fblk ν (idxF 0 Hin) b) with h | h
    · exact .inr h
    · exact .inl ⟨hb, h⟩
  refine wp_mono (h ⟨w, fblk ν (idxF 0 Hin), fun b => O b ∧ ¬ fblk ν (idxF 0 Hin) b, Hin.length, ν⟩ rfl _ w ν ⟨hsz, rfl, Stp.refl _ _, fun b hb => ⟨hG.lt b hb.1, hb.2⟩, fun w' hs => hG.inv w' (by rw [hF, hown] at hs; exact hs), fun k hk => ⟨hk, rfl⟩, ?_, ?_, ?_⟩) ?_
  · intro t s hs
    rw [hF, hown]
    obtain ⟨_, hv⟩ := argX_lk _ _ _ _ hs
    simp only [Nat.sub_zero] at hv
    obtain ⟨u, hu, hr⟩ := hin.get hv
    have hlt : t < args.length := (List.getElem?_eq_some_iff.1 hu).1
    rw [Array.getD_eq_getD_getElem?, Array.getElem?_append_left (by simpa using hlt)]
    simpa [hu] using hr
  · intro k R hk
    rw [hF, hown]
    rw [hlk_hOf] at hk
    obtain ⟨h1, h2, h3⟩ := hP.res k R hk
    exact ⟨h1, h2, fun b hb => ⟨hG.lt b (h3 b hb), .inr ⟨k, R, hk, hb⟩⟩⟩
  · intro k k' R R' b h1 h2
    rw [hlk_hOf] at h1 h2
    exact hP.dist k k' R R' b h1 h2
  · rintro e a w' ⟨m', L', H', ν', ⟨he, q⟩, S'⟩
    obtain ⟨s1, H1, v, ν2, e1, hrun, ok⟩ := evRet_ok hT rfl hO S' q
    simp only [Rsp.ret.injEq] at e1
    obtain ⟨rfl, rfl⟩ := e1
    rcases he with rfl | rfl
    · exact ⟨S'.defers, v, hrun, ν2, ok⟩
    · exact ⟨S'.defers, v, hrun, ν2, ok⟩
end
end
end Go.Ax
