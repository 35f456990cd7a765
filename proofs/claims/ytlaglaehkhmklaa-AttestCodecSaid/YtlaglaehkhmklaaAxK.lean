/-
  Own text. The abstract machine: code with loops. It claims nothing of any program.
-/
import Derived.Test.YtlaglaehkhmklaaAxJ
namespace Go.Ax
noncomputable section
open Go Go.RowKit Go.Eng
set_option linter.unusedVariables false
set_option linter.unusedSimpArgs false

/-! ### Fewer slots, names in their order -/
def trimL (keep : List Nat) (L : LX) : LX := match keep with
  | [] => []
  | t :: r => (match lkx t L with | some s => (t, s) :: trimL r L | none => trimL r L)
def namesX : LX → List Nat
  | [] => []
  | (_, s) :: L => names s ++ namesX L
def renX (ρ : Nat → Nat) : LX → LX
  | [] => []
  | (t, s) :: L => (t, ren ρ s) :: renX ρ L
def upto (n : Nat) : List Nat := List.range n
def hIn (ρ : Nat → Nat) (hk : Nat → Option Rs) : Nat → List Nat → HX
  | _, [] => []
  | i, k :: r => match hk k with
    | some R => (i, some (renR ρ R)) :: hIn ρ hk (i + 1) r
    | none => hIn ρ hk (i + 1) r
variable {R : Type}
def forceH : HX → (HX → R) → R
  | [], K => K []
  | (k, some r) :: H, K => forceR r fun r => forceH H fun H => K ((k, some r) :: H)
  | (k, none) :: H, K => forceH H fun H => K ((k, none) :: H)
theorem forceH_eq : ∀ (l : HX) (K : HX → R), forceH l K = K l
  | [], K => rfl
  | (k, some r) :: H, K => by simp only [forceH, forceR_eq, forceH_eq H]
  | (k, none) :: H, K => by simp only [forceH, forceH_eq H]
/-- the names 0, 1, .. come first -/
def preB : Nat → Nat → List Nat → Bool
  | 0, _, _ => true
  | n + 1, i, k :: r => Nat.beq k i && preB n (i + 1) r
  | _ + 1, _, [] => false
def allInH (hk : Nat → Option Rs) (ks : List Nat) : List Nat → Bool
  | [] => true
  | k :: r => (match hk k with | some R => allIn ks (namesR R) | none => true) && allInH hk ks r
def canon (keep : List Nat) (n0 : Nat) (L : LX) (H : HX) (K : Nat → LX → HX → Option R) : Option R :=
  forceX (trimL keep L) fun L1 => forceNs (close (fun k => hlk k H) 60 [] (upto n0 ++ namesX L1)) fun ks =>
    bif nodupB ks && preB n0 0 ks && allIn ks (namesX L1) && allInH (fun k => hlk k H) ks ks then
      forceX (renX (fun k => idx k ks) L1) fun L => forceH (hIn (fun k => idx k ks) (fun k => hlk k H) 0 ks) fun H => addN 0 ks.length fun m => K m L H
    else none

theorem lkx_trim {keep : List Nat} {L : LX} {t : Nat} {s : AV} (h : lkx t (trimL keep L) = some s) : lkx t L = some s := by
  induction keep with
  | nil => cases h
  | cons d r ih =>
    simp only [trimL] at h
    split at h
    · rename_i s' hs
      rw [lkx_cons] at h
      split at h
      · rename_i e; rw [e, ← h]; exact hs
      · exact ih h
    · exact ih h
theorem lkx_renX {ρ : Nat → Nat} {t : Nat} {s : AV} : ∀ {L : LX}, lkx t (renX ρ L) = some s → ∃ s1, lkx t L = some s1 ∧ s = ren ρ s1
  | [], h => by cases h
  | (d, v) :: L, h => by
    simp only [renX] at h
    rw [lkx_cons] at h ⊢
    split at h
    · rename_i e; rw [if_pos e]; exact ⟨v, rfl, (Option.some.inj h).symm⟩
    · rename_i e; rw [if_neg e]; exact lkx_renX h
theorem namesX_mem {t : Nat} {s : AV} {k : Nat} (hk : k ∈ names s) : ∀ {L : LX}, lkx t L = some s → k ∈ namesX L
  | [], h => by cases h
  | (d, v) :: L, h => by
    rw [lkx_cons] at h
    simp only [namesX]
    split at h
    · rw [Option.some.inj h]; exact List.mem_append.2 (.inl hk)
    · exact List.mem_append.2 (.inr (namesX_mem hk h))
theorem hIn_some {ρ : Nat → Nat} {hk : Nat → Option Rs} {R : Rs} {j : Nat} : ∀ {ks : List Nat} {i : Nat}, hlk j (hIn ρ hk i ks) = some R → ∃ q k R1, ks[q]? = some k ∧ j = i + q ∧ hk k = some R1 ∧ R = renR ρ R1
  | [], i, h => by cases h
  | k :: ks, i, h => by
    simp only [hIn] at h
    split at h
    · rename_i R1 h1
      rw [hlk_cons] at h
      split at h
      · rename_i e; exact ⟨0, k, R1, rfl, by simpa using e, h1, (Option.some.inj h).symm⟩
      · obtain ⟨q, k', R', g1, g2, g3, g4⟩ := hIn_some h
        exact ⟨q + 1, k', R', by simpa using g1, by omega, g3, g4⟩
    · obtain ⟨q, k', R', g1, g2, g3, g4⟩ := hIn_some h
      exact ⟨q + 1, k', R', by simpa using g1, by omega, g3, g4⟩
theorem preB_get : ∀ {n i : Nat} {ks : List Nat} {j : Nat}, preB n i ks = true → j < n → ks[j]? = some (i + j)
  | 0, i, ks, j, _, hj => by omega
  | n + 1, i, [], j, h, _ => by cases h
  | n + 1, i, k :: r, 0, h, _ => by simp only [preB, Bool.and_eq_true] at h; simpa using h.1
  | n + 1, i, k :: r, j + 1, h, hj => by
    simp only [preB, Bool.and_eq_true] at h
    have := preB_get (j := j) h.2 (by omega)
    simp only [List.getElem?_cons_succ, this]; congr 1; omega
theorem allInH_get {hk : Nat → Option Rs} {ks : List Nat} : ∀ {l : List Nat} {k : Nat} {R : Rs}, allInH hk ks l = true → k ∈ l → hk k = some R → ∀ q ∈ namesR R, q ∈ ks
  | a :: l, k, R, h, hm, hR => by
    simp only [allInH, Bool.and_eq_true] at h
    rcases List.mem_cons.1 hm with rfl | hm
    · have := h.1; rw [hR] at this; exact allIn_iff.1 this
    · exact allInH_get h.2 hm hR
theorem canon_ok {keep : List Nat} {n0 : Nat} {L : LX} {H : HX} {K : Nat → LX → HX → Option R} {r : R} (h : canon keep n0 L H K = some r) : ∃ (m' : Nat) (L' : LX) (H' : HX) (ρ : Nat → Nat), K m' L' H' = some r ∧
    ∀ {I : World → Prop} {n : Nat} {g : Gx} {m : Nat} {a : Act} {w : World} {ν : Nat → Value}, g.n0 = n0 → SatL I n g m L H a w ν → SatL I n g m' L' H' a w (fun k => ν (ρ k)) := by
  unfold canon at h
  rw [forceX_eq, forceNs_eq] at h
  generalize hks : close (fun k => hlk k H) 60 [] (upto n0 ++ namesX (trimL keep L)) = ks at h
  cases hc : (nodupB ks && preB n0 0 ks && allIn ks (namesX (trimL keep L)) && allInH (fun k => hlk k H) ks ks) with
  | false => rw [hc] at h; cases h
  | true =>
    rw [hc] at h
    simp only [cond_true, forceX_eq, forceH_eq, addN_eq, Nat.zero_add] at h
    simp only [Bool.and_eq_true, nodupB_iff, allIn_iff] at hc
    obtain ⟨⟨⟨hnd, hpre⟩, hin⟩, hinH⟩ := hc
    refine ⟨_, _, _, nth ks, h, fun {I n g m a w ν} hg S => ?_⟩
    refine S.cut (nth ks) (fun k hk => ?_) (fun t s hs => ?_) (fun k R hR => ?_) (fun k k' R R' h1 h2 e => ?_)
    · rw [hg] at hk
      have := preB_get hpre hk
      rw [Nat.zero_add] at this
      exact ⟨(List.getElem?_eq_some_iff.1 this).1, nth_get this⟩
    · obtain ⟨s1, h1, rfl⟩ := lkx_renX hs
      obtain ⟨h2, h3⟩ := ren_back s1 (ks := ks) (fun k hk => hin k (namesX_mem hk h1))
      exact ⟨by rw [h2]; exact lkx_trim h1, h3⟩
    · obtain ⟨q, k', R1, h1, h2, h3, rfl⟩ := hIn_some hR
      rw [Nat.zero_add] at h2
      subst h2
      obtain ⟨h4, h5⟩ := renR_back (R := R1) (allInH_get hinH (List.mem_of_getElem? h1) h3)
      exact ⟨by rw [h4, nth_get h1]; exact h3, (List.getElem?_eq_some_iff.1 h1).1, h5⟩
    · obtain ⟨q, k1, R1, g1, g2, _, _⟩ := hIn_some h1
      obtain ⟨q', k2, R2, f1, f2, _, _⟩ := hIn_some h2
      rw [Nat.zero_add] at g2 f2
      subst g2; subst f2
      rw [nth_get g1, nth_get f1] at e
      subst e
      exact (List.getElem?_inj (List.getElem?_eq_some_iff.1 g1).1 hnd).1 (by rw [g1, f1])

/-! ### Code -/
theorem blt_no (a j : Nat) : Nat.blt (a + j) a = false := by
  rw [Bool.eq_false_iff]
  intro e
  have : a + j < a := by simpa using e
  omega
def nloops : Code → Nat
  | .seq a b => nloops a + nloops b
  | .cond _ a b => nloops a + nloops b
  | .block _ c => nloops c
  | .loop c => nloops c + 1
  | _ => 0
/-- the body of the k-th loop -/
def loopAt : Code → Nat → Option Code
  | .seq a b, k => bif Nat.blt k (nloops a) then loopAt a k else loopAt b (k - nloops a)
  | .cond _ a b, k => bif Nat.blt k (nloops a) then loopAt a k else loopAt b (k - nloops a)
  | .block _ c, k => loopAt c k
  | .loop c, k => bif Nat.beq k 0 then some c else loopAt c (k - 1)
  | _, _ => none
/-- what a piece of code comes to. k: the number of the first loop in it -/
def evC (T : TT) (G : FT) (Q : Req → Option Rsp) (n f n0 : Nat) (keep : List (List Nat × List Nat)) : Code → Nat → Nat → LX → HX → (Exit → Nat → LX → HX → Option Rsp) → Option Rsp
  | .skip, k, m, L, H, K => K .normal m L H
  | .label _, k, m, L, H, K => K .normal m L H
  | .seq a b, k, m, L, H, K => evC T G Q n f n0 keep a k m L H fun e m L H => match e with
    | .normal => evC T G Q n f n0 keep b (k + nloops a) m L H K
    | e => K e m L H
  | .cond c a b, k, m, L, H, K => (match evx L c with
    | some (.b t) => bif t then evC T G Q n f n0 keep a k m L H K else evC T G Q n f n0 keep b (k + nloops a) m L H K
    | _ => none)
  | .block id c, k, m, L, H, K => evC T G Q n f n0 keep c k m L H fun e m L H => match e with
    | .exit id' => bif Nat.beq id' id then K .normal m L H else K (.exit id') m L H
    | e => K e m L H
  | .exit id, k, m, L, H, K => K (.exit id) m L H
  | .ret, k, m, L, H, K => K .ret m L H
  | .region _ ops false, k, m, L, H, K => evOps T G Q n ops.toList ops.toList m L H fun m L H => K .normal m L H
  | .region _ ops true, k, m, L, H, K => evDrw T G Q ops.toList ops.toList [] m L H fun tr m L H => bif drawChk n ops.toList.toArray tr then K .normal m L H else none
  | .loop c, k, m, L, H, K => addN 0 k fun k => (match keep[k]? with
    | some kp => canon kp.1 n0 L H fun m L H => (Q (.loop f k n0 m L H)).bind fun r => match r with
      | .fin e m L H => K e m L H
      | _ => none
    | none => none)
  | _, _, _, _, _, _ => none

/-- a loop, from its body's beginning -/
def LoopW (P : Program) (c : Code) (Q : Exit → Act → World → Prop) (a : Act) (w : World) : Prop := ∀ b k cs, ∃ e a' w', Q e a' w' ∧ Arrives P (lone (b.at a (.code c :: .inLoop c :: k)) cs w) b k cs e a' w'
theorem LoopW.wp {P : Program} {c : Code} {Q : Exit → Act → World → Prop} {a : Act} {w : World} (h : LoopW P c Q a w) : (Code.loop c).wp P Q a w := by
  intro b k cs
  obtain ⟨e, a', w', hq, harr⟩ := h b k cs
  exact ⟨e, a', w', hq, .of_steps (.one step_loop) harr⟩
theorem LoopW.mono {P : Program} {c : Code} {Q Q' : Exit → Act → World → Prop} {a : Act} {w : World} (h : LoopW P c Q a w) (hq : ∀ e a w, Q e a w → Q' e a w) : LoopW P c Q' a w := by
  intro b k cs
  obtain ⟨e, a', w', h1, harr⟩ := h b k cs
  exact ⟨e, a', w', hq _ _ _ h1, harr⟩
theorem LoopW.unroll {P : Program} {c : Code} {Q : Exit → Act → World → Prop} {a : Act} {w : World} (h : c.wp P (Exit.then (fun a w => LoopW P c Q a w) Q) a w) : LoopW P c Q a w := by
  intro b k cs
  obtain ⟨e, a₁, w₁, hq, harr⟩ := h b (.inLoop c :: k) cs
  cases e with
  | normal =>
    obtain ⟨e₂, a₂, w₂, hq₂, harr₂⟩ := hq b k cs
    exact ⟨e₂, a₂, w₂, hq₂, .of_steps (Steps.trans harr (.one step_inLoop)) harr₂⟩
  | exit id => exact ⟨_, a₁, w₁, hq, .pass (x := .inLoop c) rfl (fun _ _ => .inl (by simp)) harr⟩
  | goto l => exact ⟨_, a₁, w₁, hq, .pass (x := .inLoop c) rfl (fun _ _ => .inl (by simp)) harr⟩
  | ret => exact ⟨_, a₁, w₁, hq, .pass (x := .inLoop c) rfl (fun _ _ => .inl (by simp)) harr⟩
  | panic ch => exact ⟨_, a₁, w₁, hq, .pass (x := .inLoop c) rfl (fun _ _ => .inl (by simp)) harr⟩
  | outgrown => exact ⟨_, a₁, w₁, hq, .pass (x := .inLoop c) rfl (fun _ _ => .inl (by simp)) harr⟩
/-- what is true of a loop -/
def SemL (P : Program) (I : World → Prop) (n : Nat) (c : Code) (n0 m : Nat) (L : LX) (H : HX) (e : Exit) (m' : Nat) (L' : LX) (H' : HX) : Prop :=
  ∀ g : Gx, g.n0 = n0 → ∀ a w ν, SatL I n g m L H a w ν → LoopW P c (liftX I n g fun e1 m1 L1 H1 => e1 = e ∧ m1 = m' ∧ L1 = L' ∧ H1 = H') a w

section
variable {P : Program} {I : World → Prop} {n f n0 : Nat} {g : Gx} {T : TT} {G : FT} {Q : Req → Option Rsp} {r : Rsp} {keep : List (List Nat × List Nat)} {tab : Nat → Option Code}
theorem evC_ok (hT : TTok P T) (hG : FTok P G) (hQ : QOK P I Q) (hx : P.follows .mixedOrders = true) (hg : g.n0 = n0) (hL : ∀ k c m L H e m' L' H', tab k = some c → Q (.loop f k n0 m L H) = some (.fin e m' L' H') → SemL P I n c n0 m L H e m' L' H') :
    ∀ (c : Code) (k m : Nat) (L : LX) (H : HX) (K : Exit → Nat → LX → HX → Option Rsp) (Φ : PostX), (∀ j c', loopAt c j = some c' → j < nloops c → tab (k + j) = some c') → evC T G Q n f n0 keep c k m L H K = some r → (∀ e m L H, K e m L H = some r → Φ e m L H) → Wc P I n g c Φ m L H := by
  intro c
  induction c with
  | skip => intro k m L H K Φ hk h hK; exact Wc_skip (hK _ _ _ _ h)
  | label l => intro k m L H K Φ hk h hK; exact Wc_label (hK _ _ _ _ h)
  | exit id => intro k m L H K Φ hk h hK; exact Wc_exit (hK _ _ _ _ h)
  | ret => intro k m L H K Φ hk h hK; exact Wc_ret (hK _ _ _ _ h)
  | seq a b iha ihb =>
    intro k m L H K Φ hk h hK
    rw [evC] at h
    refine Wc_seq (fun e m L H => (match e with | .normal => evC T G Q n f n0 keep b (k + nloops a) m L H K | e => K e m L H) = some r) (iha k m L H _ _ (fun j c' hj hlt => hk j c' ?_ ?_) h fun e m L H h => h) (fun m L H h => ihb _ _ _ _ _ _ (fun j c' hj hlt => ?_) h hK) (fun e m L H he h => hK e m L H ?_)
    · simp only [loopAt]; rw [show Nat.blt j (nloops a) = true from by simpa using hlt]; exact hj
    · simp only [nloops]; omega
    · rw [Nat.add_assoc]
      refine hk (nloops a + j) c' ?_ (by simp only [nloops]; omega)
      simp only [loopAt]
      rw [blt_no]
      rw [Nat.add_sub_cancel_left]; exact hj
    · cases e <;> first | exact absurd rfl he | exact h
  | cond x a b iha ihb =>
    intro k m L H K Φ hk h hK
    rw [evC] at h
    split at h
    · rename_i t ht
      refine Wc_cond ht ?_
      cases t with
      | true =>
        refine iha k m L H _ _ (fun j c' hj hlt => hk j c' ?_ ?_) h hK
        · simp only [loopAt]; rw [show Nat.blt j (nloops a) = true from by simpa using hlt]; exact hj
        · simp only [nloops]; omega
      | false =>
        refine ihb _ m L H _ _ (fun j c' hj hlt => ?_) h hK
        rw [Nat.add_assoc]
        refine hk (nloops a + j) c' ?_ (by simp only [nloops]; omega)
        simp only [loopAt]
        rw [blt_no]
        rw [Nat.add_sub_cancel_left]; exact hj
    · cases h
  | block id c ih =>
    intro k m L H K Φ hk h hK
    rw [evC] at h
    refine Wc_block (fun e m L H => (match e with | .exit id' => bif Nat.beq id' id then K .normal m L H else K (.exit id') m L H | e => K e m L H) = some r) (ih k m L H _ _ (fun j c' hj hlt => hk j c' hj hlt) h fun e m L H h => h) (fun m L H h => hK _ _ _ _ ?_) (fun e m L H he h => hK e m L H ?_)
    · simp only [Nat.beq_refl, cond_true] at h; exact h
    · cases e with
      | exit id' =>
        have : Nat.beq id' id = false := by rw [Bool.eq_false_iff]; intro e; exact he (by rw [beqN e])
        simp only [this, cond_false] at h; exact h
      | _ => exact h
  | region id ops b =>
    intro k m L H K Φ hk h hK
    obtain ⟨l⟩ := ops
    cases b with
    | false => rw [evC] at h; exact Wc_region (evOps_ok hT hG hQ (fun m L H h => hK _ _ _ _ h) l m L H h)
    | true =>
      rw [evC] at h
      intro a w ν S
      refine Wc_draw (n := n) hx (evDrw_ok (fin := fun tr m L H => drawChk0 n l.toArray tr = true ∧ Φ .normal m L H) hT hG hQ (fun tr m L H h => ?_) l [] m L H (fun k R hk => (S.res k R hk).1) h) a w ν S
      cases hc : drawChk n l.toArray tr with
      | false => rw [hc] at h; cases h
      | true => rw [hc] at h; rw [drawChk_d] at hc; exact ⟨hc, hK _ _ _ _ h⟩
  | loop c ih =>
    intro k m L H K Φ hk h hK
    rw [evC, addN_eq, Nat.zero_add] at h
    split at h
    · rename_i kp hkp
      obtain ⟨m', L', H', ρ, h1, h2⟩ := canon_ok h
      obtain ⟨rr, h3, h4⟩ := Option.bind_eq_some_iff.1 h1
      split at h4
      · rename_i e m2 L2 H2
        have hs := hL k c m' L' H' e m2 L2 H2 (by have := hk 0 c (by simp [loopAt]) (by simp [nloops]); simpa using this) h3 g hg
        intro a w ν S
        exact wp_mono (hs a w _ (h2 hg S)).wp fun e' a' w' ⟨m3, L3, H3, ν3, q, S3⟩ => by
          obtain ⟨rfl, rfl, rfl, rfl⟩ := q
          exact ⟨_, _, _, ν3, hK _ _ _ _ h4, S3⟩
      · cases h4
    · cases h
  | _ => intro k m L H K Φ hk h hK; simp only [evC] at h; cases h
end
end
end Go.Ax
