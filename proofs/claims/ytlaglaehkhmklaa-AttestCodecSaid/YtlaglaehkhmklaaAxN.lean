/-
  Own text. The abstract machine: the function that computes, and what it says of the model. It claims nothing of any program.
-/
import Derived.Test.YtlaglaehkhmklaaAxM
namespace Go.Ax
noncomputable section
open Go Go.RowKit Go.Eng
set_option linter.unusedVariables false
set_option linter.unusedSimpArgs false

abbrev Orc := Req → Option Rsp
def OLe (Q Q' : Orc) : Prop := ∀ q r, Q q = some r → Q' q = some r
section
variable {R : Type} {r : R} {T : TT} {G : FT} {hk : Nat → Option Rs} {m : Nat} {Q Q' : Orc}
theorem evCall3_mono (hQ : OLe Q Q') {f : Nat} {vs : Fp} {al : List AV} {ks : List Nat} {K K' : Tr → Option R} (hK : Le K K' r) : evCall3 Q hk m f vs al ks K = some r → evCall3 Q' hk m f vs al ks K' = some r := by
  unfold evCall3
  split
  · refine bif_mono ?_ id
    simp only [forceL_eq, forceRL_eq]
    intro h
    obtain ⟨x, h1, h2⟩ := Option.bind_eq_some_iff.1 h
    rw [hQ _ _ h1]
    simp only [Option.bind_some]
    revert h2
    split
    · exact bif_mono (bif_mono (hK _) (hK _)) id
    · exact id
  · exact id
theorem evCall_mono (hQ : OLe Q Q') {fx : Option AV} {args : Option (List AV)} {K K' : Tr → Option R} (hK : Le K K' r) : evCall G Q hk m fx args K = some r → evCall G Q' hk m fx args K' = some r := by
  unfold evCall
  split
  · split
    · simp only [forceL_eq, evCall2, forceNs_eq]
      exact bif_mono (evCall3_mono hQ hK) (evCall3_mono hQ hK)
    · exact id
  · exact id
theorem evAny_mono (hQ : OLe Q Q') {ev : Operand → Option AV} {op : Op} {K K' : Tr → Option R} (hK : Le K K' r) : evAny T G Q ev hk m op K = some r → evAny T G Q' ev hk m op K' = some r := by
  unfold evAny
  split
  · exact evCall_mono hQ hK
  · exact evOp_mono hK
theorem stepK_mono {d : Option Nat} {t : Tr} {L : LX} {H : HX} {K K' : Nat → LX → HX → Option R} (hK : ∀ m L H, K m L H = some r → K' m L H = some r) : stepK d t m L H K = some r → stepK d t m L H K' = some r := by
  rw [stepK_eq, stepK_eq]; exact hK _ _ _
theorem evOps_mono (hQ : OLe Q Q') {n : Nat} {ops : List Oper} {r : Rsp} : ∀ (l : List Oper) {m : Nat} {L : LX} {H : HX} {K K' : Nat → LX → HX → Option Rsp}, (∀ m L H, K m L H = some r → K' m L H = some r) → evOps T G Q n ops l m L H K = some r → evOps T G Q' n ops l m L H K' = some r := by
  intro l
  induction l with
  | nil => intro m L H K K' hK; exact hK _ _ _
  | cons o l ih =>
    intro m L H K K' hK
    rw [evOps, evOps]
    split
    · exact bif_mono (evAny_mono hQ fun t => stepK_mono fun m L H => ih hK) id
    · split
      · split
        · refine bif_mono (bif_mono (bif_mono (evAny_mono hQ fun t => stepK_mono fun m L H => ih hK) (ih hK)) (bif_mono (ih hK) (evAny_mono hQ fun t => stepK_mono fun m L H => ih hK))) id
        · exact bif_mono (ih hK) id
        · exact id
      · exact id
theorem evDrw_mono (hQ : OLe Q Q') {ops : List Oper} : ∀ (l : List Oper) {tr : List Tr} {m : Nat} {L : LX} {H : HX} {K K' : List Tr → Nat → LX → HX → Option R}, (∀ tr m L H, K tr m L H = some r → K' tr m L H = some r) → evDrw T G Q ops l tr m L H K = some r → evDrw T G Q' ops l tr m L H K' = some r := by
  intro l
  induction l with
  | nil => intro tr m L H K K' hK; exact hK _ _ _ _
  | cons o l ih =>
    intro tr m L H K K' hK
    rw [evDrw, evDrw]
    simp only [forceNs_eq, forceX_eq]
    split
    · exact evAny_mono hQ fun t => stepK_mono fun m L H => ih hK
    · split
      · split
        · refine bif_mono (bif_mono (evAny_mono hQ fun t => stepK_mono fun m L H => ih hK) (ih hK)) (bif_mono (ih hK) (evAny_mono hQ fun t => stepK_mono fun m L H => ih hK))
        · exact ih hK
        · exact id
      · exact id
theorem canon_mono {keep : List Nat} {n0 : Nat} {L : LX} {H : HX} {K K' : Nat → LX → HX → Option R} (hK : ∀ m L H, K m L H = some r → K' m L H = some r) : canon keep n0 L H K = some r → canon keep n0 L H K' = some r := by
  unfold canon
  simp only [forceX_eq, forceNs_eq, forceH_eq, addN_eq]
  exact bif_mono (hK _ _ _) id
theorem evC_mono (hQ : OLe Q Q') {n f n0 : Nat} {keep : List (List Nat × List Nat)} {r : Rsp} : ∀ (c : Code) {k m : Nat} {L : LX} {H : HX} {K K' : Exit → Nat → LX → HX → Option Rsp}, (∀ e m L H, K e m L H = some r → K' e m L H = some r) → evC T G Q n f n0 keep c k m L H K = some r → evC T G Q' n f n0 keep c k m L H K' = some r := by
  intro c
  induction c with
  | skip => intro k m L H K K' hK; exact hK _ _ _ _
  | label l => intro k m L H K K' hK; exact hK _ _ _ _
  | exit id => intro k m L H K K' hK; exact hK _ _ _ _
  | ret => intro k m L H K K' hK; exact hK _ _ _ _
  | seq a b iha ihb =>
    intro k m L H K K' hK
    rw [evC, evC]
    refine iha fun e m L H => ?_
    cases e <;> first | exact ihb hK | exact hK _ _ _ _
  | cond x a b iha ihb =>
    intro k m L H K K' hK
    rw [evC, evC]
    split
    · exact bif_mono (iha hK) (ihb hK)
    · exact id
  | block id c ih =>
    intro k m L H K K' hK
    rw [evC, evC]
    refine ih fun e m L H => ?_
    cases e <;> first | exact bif_mono (hK _ _ _ _) (hK _ _ _ _) | exact hK _ _ _ _
  | region id ops b =>
    intro k m L H K K' hK
    cases b with
    | false => rw [evC, evC]; exact evOps_mono hQ _ fun m L H => hK _ _ _ _
    | true => rw [evC, evC]; exact evDrw_mono hQ _ fun tr m L H => bif_mono (hK _ _ _ _) _root_.id
  | loop c ih =>
    intro k m L H K K' hK
    rw [evC, evC, addN_eq, addN_eq, Nat.zero_add]
    split
    · refine canon_mono fun m L H h => ?_
      obtain ⟨x, h1, h2⟩ := Option.bind_eq_some_iff.1 h
      rw [hQ _ _ h1]
      simp only [Option.bind_some]
      revert h2
      split
      · exact hK _ _ _ _
      · exact id
    · exact id
  | _ => intro k m L H K K' hK h; simp only [evC] at h; cases h
end

/-! ### One round -/
abbrev CT := List (Nat × Func)
def cfk (k : Nat) : CT → Option Func
  | [] => none
  | (d, v) :: H => bif Nat.beq k d then some v else cfk k H
structure Env where
  T : TT
  G : FT
  C : CT
  ov : Orc
def bodyF (E : Env) (Q : Orc) (q : Req) : Option Rsp := match E.ov q with
  | some r => some r
  | none => match q with
    | .call f args H => (match cfk f E.C, filk f E.G with
      | some fn, some fi => (match fn.body with
        | some c => bif Nat.ble args.length fn.ntmps then addN 0 H.length fun n0 => evC E.T E.G Q fn.ntmps f n0 fi.keep c 0 n0 (argX 0 args) (hOf 0 H) fun e _ L H' => (match e with
            | .normal => evRet E.T fi n0 fn.results.toList L H'
            | .ret => evRet E.T fi n0 fn.results.toList L H'
            | _ => none)
          else none
        | none => none)
      | _, _ => none)
    | .loop f k n0 m L H => (match cfk f E.C, filk f E.G with
      | some fn, some fi => (match fn.body, fi.keep[k]? with
        | some c, some kp => (match loopAt c k with
          | some b => evC E.T E.G Q fn.ntmps f n0 fi.keep b (k + 1) m L H fun e _ L H => (match e with
            | .normal => canon kp.1 n0 L H fun m L H => Q (.loop f k n0 m L H)
            | e => canon kp.2 n0 L H fun m L H => some (.fin e m L H))
          | none => none)
        | _, _ => none)
      | _, _ => none)
theorem bodyF_mono (E : Env) {Q Q' : Orc} (hQ : OLe Q Q') : OLe (bodyF E Q) (bodyF E Q') := by
  intro q r
  unfold bodyF
  split
  · exact id
  · split
    · split
      · split
        · simp only [addN_eq]
          refine bif_mono (evC_mono hQ _ fun e m L H => ?_) id
          exact id
        · exact id
      · exact id
    · split
      · split
        · split
          · refine evC_mono hQ _ fun e m L H => ?_
            cases e <;> first | exact canon_mono fun m L H => hQ _ _ | exact id
          · exact id
        · exact id
      · exact id
/-- WHAT IS COMPUTED. -/
def F (E : Env) (q : Req) : Option Rsp := bodyF E (F E) q
partial_fixpoint monotonicity by
  intro F1 F2 h q
  have hQ : OLe F1 F2 := fun q r hq => by
    have hr := h q
    generalize F2 q = z at hr ⊢
    generalize F1 q = y at hr hq
    subst hq
    cases hr
    rfl
  have hm := bodyF_mono E hQ q
  dsimp only
  generalize bodyF E F2 q = z at hm ⊢
  generalize bodyF E F1 q = y at hm ⊢
  cases y with
  | none => exact .bot
  | some r => rw [hm r rfl]; exact .refl

/-! ### What it says -/
def SemQ (P : Program) (I : World → Prop) (E : Env) (q : Req) (r : Rsp) : Prop := match q, r with
  | .call f args Hin, .ret s H => SemC P I f args Hin s H
  | .loop f k n0 m L H, .fin e m' L' H' => ∀ fn c b, cfk f E.C = some fn → fn.body = some c → loopAt c k = some b → SemL P I fn.ntmps b n0 m L H e m' L' H'
  | _, _ => True
structure EnvOK (P : Program) (I : World → Prop) (E : Env) : Prop where
  hT : TTok P E.T
  hG : FTok P E.G
  hC : ∀ f fn, cfk f E.C = some fn → P.funcs[f]? = some fn
  hx : P.follows .mixedOrders = true
  ov : ∀ q r, E.ov q = some r → SemQ P I E q r
theorem loopAt_lt : ∀ (c : Code) {k : Nat} {b : Code}, loopAt c k = some b → k < nloops c := by
  intro c
  induction c with
  | seq x y ihx ihy =>
    intro k b h
    simp only [loopAt] at h
    simp only [nloops]
    cases hb : Nat.blt k (nloops x) with
    | true => have : k < nloops x := by simpa using hb
              omega
    | false => rw [hb] at h; have := ihy h; omega
  | cond t x y ihx ihy =>
    intro k b h
    simp only [loopAt] at h
    simp only [nloops]
    cases hb : Nat.blt k (nloops x) with
    | true => have : k < nloops x := by simpa using hb
              omega
    | false => rw [hb] at h; have := ihy h; omega
  | block id x ih => intro k b h; exact ih h
  | loop x ih =>
    intro k b h
    simp only [loopAt] at h
    simp only [nloops]
    cases hb : Nat.beq k 0 with
    | true => have : k = 0 := beqN hb
              omega
    | false => rw [hb] at h; have := ih h; omega
  | _ => intro k b h; cases h
theorem loopAt_in : ∀ (c : Code) {k : Nat} {b : Code}, loopAt c k = some b → ∀ j c', loopAt b j = some c' → loopAt c (k + 1 + j) = some c' := by
  intro c
  induction c with
  | seq x y ihx ihy =>
    intro k b h j c' hj
    simp only [loopAt] at h ⊢
    cases hb : Nat.blt k (nloops x) with
    | true =>
      rw [hb] at h
      have h1 := ihx h j c' hj
      have : Nat.blt (k + 1 + j) (nloops x) = true := by simpa using loopAt_lt x h1
      rw [this]; exact h1
    | false =>
      rw [hb] at h
      have hk : nloops x ≤ k := by
        rcases Nat.lt_or_ge k (nloops x) with h1 | h1
        · have : Nat.blt k (nloops x) = true := by simpa using h1
          rw [this] at hb; cases hb
        · exact h1
      have : Nat.blt (k + 1 + j) (nloops x) = false := by rw [show k + 1 + j = nloops x + (k + 1 + j - nloops x) from by omega]; exact blt_no _ _
      rw [this]
      have h1 := ihy h j c' hj
      rw [show k + 1 + j - nloops x = k - nloops x + 1 + j from by omega]; exact h1
  | cond t x y ihx ihy =>
    intro k b h j c' hj
    simp only [loopAt] at h ⊢
    cases hb : Nat.blt k (nloops x) with
    | true =>
      rw [hb] at h
      have h1 := ihx h j c' hj
      have : Nat.blt (k + 1 + j) (nloops x) = true := by simpa using loopAt_lt x h1
      rw [this]; exact h1
    | false =>
      rw [hb] at h
      have hk : nloops x ≤ k := by
        rcases Nat.lt_or_ge k (nloops x) with h1 | h1
        · have : Nat.blt k (nloops x) = true := by simpa using h1
          rw [this] at hb; cases hb
        · exact h1
      have : Nat.blt (k + 1 + j) (nloops x) = false := by rw [show k + 1 + j = nloops x + (k + 1 + j - nloops x) from by omega]; exact blt_no _ _
      rw [this]
      have h1 := ihy h j c' hj
      rw [show k + 1 + j - nloops x = k - nloops x + 1 + j from by omega]; exact h1
  | block id x ih => intro k b h j c' hj; exact ih h j c' hj
  | loop x ih =>
    intro k b h j c' hj
    simp only [loopAt] at h ⊢
    have h0 : Nat.beq (k + 1 + j) 0 = false := by rw [Bool.eq_false_iff]; intro e; have := beqN e; omega
    rw [h0]
    cases hb : Nat.beq k 0 with
    | true =>
      have hk : k = 0 := beqN hb
      rw [hb] at h
      obtain rfl := Option.some.inj h
      subst hk
      rw [show 0 + 1 + j - 1 = j from by omega]; exact hj
    | false =>
      rw [hb] at h
      have hk : k ≠ 0 := fun e => by subst e; simp at hb
      have := ih h j c' hj
      rw [show k + 1 + j - 1 = k - 1 + 1 + j from by omega]; exact this
  | _ => intro k b h; cases h
section
variable {P : Program} {I : World → Prop} {E : Env}
theorem F_ok (h : EnvOK P I E) : ∀ q r, F E q = some r → SemQ P I E q r := by
  refine F.partial_correctness E _ fun Q hQ q r hr => ?_
  have hq : QOK P I Q := fun f args Hin s H h => hQ _ _ h
  cases ho : E.ov q with
  | some r' =>
    simp only [bodyF, ho] at hr
    obtain rfl := Option.some.inj hr
    exact h.ov _ _ ho
  | none =>
    cases q with
    | call f args H =>
      simp only [bodyF, ho] at hr
      split at hr
      · rename_i fn fi hc hfi
        split at hr
        · rename_i c hb
          cases hlen : Nat.ble args.length fn.ntmps with
          | false => rw [hlen] at hr; cases hr
          | true =>
            rw [hlen] at hr
            simp only [cond_true, addN_eq, Nat.zero_add] at hr
            have hS : ∀ s Hout, r = .ret s Hout → SemC P I f args H s Hout := by
              rintro s Hout rfl
              refine semC_of (fi := fi) h.hT (h.hC _ _ hc) hb hlen fun g hg => ?_
              refine evC_ok (tab := fun j => loopAt c j) h.hT h.hG hq h.hx hg (fun k b m L H' e m' L' H'' hk hl => ?_) c 0 _ _ _ _ _ (fun j c' hj _ => by rw [Nat.zero_add]; exact hj) hr (fun e m L H' hK => ?_)
              · exact hQ _ _ hl fn c b hc hb hk
              · cases e with
                | normal => exact ⟨.inl rfl, hK⟩
                | ret => exact ⟨.inr rfl, hK⟩
                | _ => cases hK
            cases r with
            | ret s Hout => exact hS s Hout rfl
            | fin e m L H => trivial
        · cases hr
      · cases hr
    | loop f k n0 m L H =>
      simp only [bodyF, ho] at hr
      split at hr
      · rename_i fn fi hc hfi
        split at hr
        · rename_i c kp hb hkp
          split at hr
          · rename_i b hk
            cases r with
            | ret s Hout => trivial
            | fin e m' L' H' =>
              intro fn' c' b' hc' hb' hk'
              rw [hc] at hc'; obtain rfl := Option.some.inj hc'
              rw [hb] at hb'; obtain rfl := Option.some.inj hb'
              rw [hk] at hk'; obtain rfl := Option.some.inj hk'
              intro g hg a w ν S
              refine LoopW.unroll ?_
              have hfs := evC_ok (n := fn.ntmps) (f := f) (keep := fi.keep) (tab := fun j => loopAt c j) (Φ := fun e1 m1 L1 H1 => (match e1 with
                | .normal => canon kp.1 n0 L1 H1 fun m L H => Q (.loop f k n0 m L H)
                | e => canon kp.2 n0 L1 H1 fun m L H => some (Rsp.fin e m L H)) = some (Rsp.fin e m' L' H')) h.hT h.hG hq h.hx hg (fun k b m L H' e m' L' H'' hk hl => hQ _ _ hl fn c b hc hb hk) b (k + 1) m L H _ (fun j c' hj _ => loopAt_in c hk j c' hj) hr (fun e m L H' hK => hK) a w ν S
              have out : ∀ (e1 : Exit) m1 L1 H1 a1 w1 ν1, (canon kp.2 n0 L1 H1 fun m L H => some (Rsp.fin e1 m L H)) = some (Rsp.fin e m' L' H') → SatL I fn.ntmps g m1 L1 H1 a1 w1 ν1 → liftX I fn.ntmps g (fun e1 m1 L1 H1 => e1 = e ∧ m1 = m' ∧ L1 = L' ∧ H1 = H') e1 a1 w1 := by
                intro e1 m1 L1 H1 a1 w1 ν1 hc1 S1
                obtain ⟨m2, L2, H2, ρ, g1, g2⟩ := canon_ok hc1
                simp only [Option.some.injEq, Rsp.fin.injEq] at g1
                obtain ⟨rfl, rfl, rfl, rfl⟩ := g1
                exact ⟨_, _, _, _, ⟨rfl, rfl, rfl, rfl⟩, g2 hg S1⟩
              refine wp_mono hfs ?_
              rintro e1 a1 w1 ⟨m1, L1, H1, ν1, q, S1⟩
              cases e1 with
              | normal =>
                obtain ⟨m2, L2, H2, ρ, g1, g2⟩ := canon_ok q
                exact hQ _ _ g1 fn c b hc hb hk g hg a1 w1 _ (g2 hg S1)
              | _ => exact out _ _ _ _ _ _ _ q S1
          · cases hr
        · cases hr
      · cases hr
theorem F_call (h : EnvOK P I E) {f : FuncId} {args : List AV} {Hin : List Rs} {s : AV} {Hout : List (Option Rs)} (hF : F E (.call f args Hin) = some (.ret s Hout)) : SemC P I f args Hin s Hout := F_ok h _ _ hF
end
end
end Go.Ax
