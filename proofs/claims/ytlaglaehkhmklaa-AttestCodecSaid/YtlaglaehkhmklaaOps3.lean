/-
  Own text: rules for drawn regions: guards whose yield is known; operations over values of which sentences are known.
-/
import Derived.Test.YtlaglaehkhmklaaOps2
namespace Go.Eng
open Go
set_option linter.unusedVariables false
section
variable {P : Program} {ops : Array Oper} {w0 : World} {fin : Lst → World → Prop} {d : Nat} {op : Op} {ty : TypeId} {pos : String} {af : Array Edge} {r : List Oper} {L : Lst} {F : Flx}

theorem IFnil {lk : List Nat} {w : World} {kk : Lst → Prop} {L : Lst} (h : kk L) : InstF lk w kk [] L := h
theorem IFhit {lk : List Nat} {w : World} {kk : Lst → Prop} {t : Nat} {R : Value → World → Prop} {r : Flx} {L : Lst} (hc : lk.contains t = true) (h : ∀ v, R v w → InstF lk w kk r ((t, .v v) :: L)) : InstF lk w kk ((t, R) :: r) L := by
  unfold InstF; rw [hc]; exact h
theorem IFmiss {lk : List Nat} {w : World} {kk : Lst → Prop} {t : Nat} {R : Value → World → Prop} {r : Flx} {L : Lst} (hc : lk.contains t = false) (h : InstF lk w kk r L) : InstF lk w kk ((t, R) :: r) L := by
  unfold InstF; rw [hc]; exact h
theorem IAnil {w : World} {kk : Lst → Prop} {L : Lst} (h : kk L) : InstAll w kk [] L := h
theorem IAcons {w : World} {kk : Lst → Prop} {t : Nat} {R : Value → World → Prop} {r : Flx} {L : Lst} (h : ∀ v, R v w → InstAll w kk r ((t, .v v) :: L)) : InstAll w kk ((t, R) :: r) L := h

theorem InstF_mono {lk : List Nat} {w : World} {k1 k2 : Lst → Prop} (hk : ∀ L, k1 L → k2 L) : ∀ {F : Flx} {L : Lst}, InstF lk w k1 F L → InstF lk w k2 F L := by
  intro F
  induction F with
  | nil => intro L h; exact hk _ h
  | cons p r ih =>
    intro L h
    obtain ⟨t, R⟩ := p
    unfold InstF at h ⊢
    cases hc : lk.contains t
    · rw [hc] at h; exact ih h
    · rw [hc] at h; exact fun v hv => ih (h v hv)

/-- slots that an operation under a guard looks at -/
def lkg (ops : Array Oper) (op : Op) (j : Nat) (want : Bool) : List Nat := Oper.looksAt ops ⟨none, op, 0, "", #[], some (j, want)⟩

/-- a guarded operation that is done: a known value -/
theorem drgY {s : SV} {j d' : Nat} {want : Bool} (hj : dstOf ops j = some d') (hb : lkp d' L = some (.v (.bool want))) (hf : freeF (lkg ops op j want) F = true) (h : ∀ w, Ext w0 w → OP P L op ty w fun s' w' => Ext w w' ∧ s'.den = s.den) (hr : DR P ops w0 fin r ((d, s) :: L) F) :
    DR P ops w0 fin (⟨some d, op, ty, pos, af, some (j, want)⟩ :: r) L F :=
  ⟨.rig s, Sp.stable_rig s, fun w he => InstF_free hf ⟨d', want, hj, hb, fun _ => h w he, fun e => by cases want <;> cases e⟩, hr⟩
/-- .. that is not done -/
theorem drgN {j d' : Nat} {want b : Bool} (hj : dstOf ops j = some d') (hb : lkp d' L = some (.v (.bool b))) (hw : b = !want) (hf : freeF (lkg ops op j want) F = true) (hr : DR P ops w0 fin r ((d, .v undef) :: L) F) :
    DR P ops w0 fin (⟨some d, op, ty, pos, af, some (j, want)⟩ :: r) L F :=
  ⟨.rig (.v undef), Sp.stable_rig _, fun w he => InstF_free hf ⟨d', b, hj, hb, (fun e => by rw [e] at hw; cases want <;> cases hw), fun _ => rfl⟩, hr⟩
/-- a guarded operation that is done, over values of which sentences are known -/
theorem drgf {s : SV} {j d' : Nat} {want : Bool} (hj : dstOf ops j = some d') (h : ∀ w, Ext w0 w → InstF (lkg ops op j want) w (fun Lx => lkp d' Lx = some (.v (.bool want)) ∧ OP P Lx op ty w fun s' w' => Ext w w' ∧ s'.den = s.den) F L) (hr : DR P ops w0 fin r ((d, s) :: L) F) :
    DR P ops w0 fin (⟨some d, op, ty, pos, af, some (j, want)⟩ :: r) L F :=
  ⟨.rig s, Sp.stable_rig s, fun w he => InstF_mono (fun Lx hx => ⟨d', want, hj, hx.1, fun _ => hx.2, fun e => by cases want <;> cases e⟩) (h w he), hr⟩
theorem drgR (R : Value → World → Prop) {j d' : Nat} {want : Bool} (hst : ∀ v w w', R v w → Ext w w' → R v w') (hj : dstOf ops j = some d') (h : ∀ w, Ext w0 w → InstF (lkg ops op j want) w (fun Lx => lkp d' Lx = some (.v (.bool want)) ∧ OP P Lx op ty w fun s' w' => Ext w w' ∧ R s'.den w') F L) (hr : DR P ops w0 fin r L ((d, R) :: F)) :
    DR P ops w0 fin (⟨some d, op, ty, pos, af, some (j, want)⟩ :: r) L F :=
  ⟨.flx R, hst, fun w he => InstF_mono (fun Lx hx => ⟨d', want, hj, hx.1, fun _ => hx.2, fun e => by cases want <;> cases e⟩) (h w he), hr⟩
end
end Go.Eng
