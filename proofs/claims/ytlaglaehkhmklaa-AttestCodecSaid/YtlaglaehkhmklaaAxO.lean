/-
  Own text. The abstract machine: closed checks of the tables. It claims nothing of any program.
-/
import Derived.Test.YtlaglaehkhmklaaAxN
namespace Go.Ax
open Go Go.RowKit Go.Eng
set_option linter.unusedVariables false
set_option linter.unusedSimpArgs false

def avEq : AV → AV → Bool
  | .un, .un => true
  | .b x, .b y => x == y
  | .i x, .i y => decide (x = y)
  | .u8 x, .u8 y => decide (x = y)
  | .u32 x, .u32 y => decide (x = y)
  | .u64 x, .u64 y => decide (x = y)
  | .str x, .str y => decide (x = y)
  | .nil, .nil => true
  | _, _ => false
theorem avEq_eq {a b : AV} (h : avEq a b = true) : a = b := by
  unfold avEq at h
  split at h <;> simp_all
def avEqL : List AV → List AV → Bool
  | [], [] => true
  | a :: l, b :: m => avEq a b && avEqL l m
  | _, _ => false
theorem avEqL_eq : ∀ {a b : List AV}, avEqL a b = true → a = b
  | [], [], _ => rfl
  | a :: l, b :: m, h => by simp only [avEqL, Bool.and_eq_true] at h; rw [avEq_eq h.1, avEqL_eq h.2]
  | [], _ :: _, h => by cases h
  | _ :: _, [], h => by cases h
def undB (P : Program) (t : TypeId) (i : TI) : Bool := match i.u, P.underlying t with
  | .bool, some .bool => true
  | .i64, some (.int .i64) => true
  | .u8, some (.int .u8) => true
  | .u32, some (.int .u32) => true
  | .u64, some (.int .u64) => true
  | .str, some .string => true
  | .sl e, some (.slice e') => Nat.beq e e'
  | .fld pl sc, some (.struct _) => (match plOf P t, scOf P t with | some pl', some sc' => decide (pl' = pl) && decide (sc' = sc) | _, _ => false)
  | .arr n e, some (.array n' e') => Nat.beq n n' && Nat.beq e e'
  | .ptr e, some (.pointer e') => Nat.beq e e'
  | .oth, some d => plainT d
  | _, _ => false
def infB (P : Program) (t : TypeId) (i : TI) : Bool := match P.info? t with
  | some ti => (match ti.zero with
    | some z => avEqL (z.cells.toList.map AV.of) i.zero && Nat.beq z.cells.size i.size && z.cells.toList.all (·.oneCell')
    | none => false) && Nat.beq ti.size i.size && Nat.beq ti.bytes i.bytes && Nat.blt 0 i.bytes
  | none => false
def eq2B (P : Program) (t : TypeId) : Bool := match P.underlying t with
  | some (.array n e) => Nat.beq n 2 && (match P.underlying e with | some (.int .i64) => true | _ => false) && (match P.info? e with | some i => Nat.beq i.size 1 | none => false) && !P.eqGuardType P.depth t
  | _ => false
def tokB (P : Program) (t : TypeId) (i : TI) : Bool := undB P t i && infB P t i && (match i.ty with | some τ => Nat.beq τ.n i.size | none => true) && (!i.eq2 || eq2B P t)
theorem tokB_ok {P : Program} {t : TypeId} {i : TI} (h : tokB P t i = true) : TOK P t i := by
  simp only [tokB, Bool.and_eq_true] at h
  obtain ⟨⟨⟨h1, h2⟩, h3⟩, h4⟩ := h
  have hu : (match i.u with
    | .bool => P.underlying t = some .bool
    | .i64 => P.underlying t = some (.int .i64)
    | .u8 => P.underlying t = some (.int .u8)
    | .u32 => P.underlying t = some (.int .u32)
    | .u64 => P.underlying t = some (.int .u64)
    | .str => P.underlying t = some .string
    | .sl el => P.underlying t = some (.slice el)
    | .fld pl sc => plOf P t = some pl ∧ scOf P t = some sc
    | .arr n el => P.underlying t = some (.array n el)
    | .ptr el => P.underlying t = some (.pointer el)
    | .oth => ∃ d, P.underlying t = some d ∧ plainT d = true) := by
    unfold undB at h1
    split at h1
    case _ hu hp => rw [hu]; exact hp
    case _ hu hp => rw [hu]; exact hp
    case _ hu hp => rw [hu]; exact hp
    case _ hu hp => rw [hu]; exact hp
    case _ hu hp => rw [hu]; exact hp
    case _ hu hp => rw [hu]; exact hp
    case _ hu hp => rw [hu]; simp only; rw [beqN h1]; exact hp
    case _ hu hp =>
      rw [hu]
      simp only
      split at h1
      · rename_i pl' sc' e1 e2
        simp only [Bool.and_eq_true, decide_eq_true_eq] at h1
        exact ⟨e1.trans (by rw [h1.1]), e2.trans (by rw [h1.2])⟩
      · cases h1
    case _ hu hp =>
      rw [hu]
      simp only
      simp only [Bool.and_eq_true] at h1
      rw [beqN h1.1, beqN h1.2]; exact hp
    case _ hu hp => rw [hu]; simp only; rw [beqN h1]; exact hp
    case _ hu hp => rw [hu]; exact ⟨_, hp, h1⟩
    case _ => cases h1
  unfold infB at h2
  split at h2
  · rename_i ti hi
    simp only [Bool.and_eq_true] at h2
    obtain ⟨⟨⟨h5, h6⟩, h7⟩, h8⟩ := h2
    split at h5
    · rename_i z hz
      simp only [Bool.and_eq_true] at h5
      obtain ⟨⟨h9, h10⟩, h11⟩ := h5
      refine ⟨hu, by rw [hi]; simp only [Option.map_some, beqN h6], ⟨z, ?_, avEqL_eq h9, beqN h10, h11, by simpa using h8⟩, fun τ hτ => ?_, fun he => ?_⟩
      · rw [hi]; simp only [Option.map_some, hz, beqN h6, beqN h7]
      · rw [hτ] at h3; exact beqN h3
      · rw [he] at h4
        simp only [Bool.not_true, Bool.false_or] at h4
        unfold eq2B at h4
        split at h4
        · rename_i n e hp
          simp only [Bool.and_eq_true, Bool.not_eq_true'] at h4
          obtain ⟨⟨⟨g1, g2⟩, g3⟩, g4⟩ := h4
          split at g2
          · rename_i g2'
            split at g3
            · rename_i ie g3'
              have hs := beqN g3
              refine ⟨e, by rw [hp, beqN g1], g2', by rw [g3']; simp only [Option.map_some, hs], by simp [Program.cellsOf, g3', hs], g4⟩
            · cases g3
          · cases g2
        · cases h4
    · cases h5
  · cases h2
def ttB (P : Program) : TT → Bool
  | [] => true
  | (t, i) :: r => tokB P t i && ttB P r
theorem ttB_ok {P : Program} : ∀ {T : TT}, ttB P T = true → TTok P T
  | [], _, t, i, h => by cases h
  | (d, v) :: r, h, t, i, ht => by
    simp only [ttB, Bool.and_eq_true] at h
    simp only [tlk] at ht
    cases hb : Nat.beq t d with
    | true => rw [hb] at ht; rw [beqN hb, ← Option.some.inj ht]; exact tokB_ok h.1
    | false => rw [hb] at ht; exact ttB_ok h.2 t i ht
inductive CTok (P : Program) : CT → Prop
  | nil : CTok P []
  | cons {d : Nat} {v : Func} {C : CT} : P.funcs[d]? = some v → CTok P C → CTok P ((d, v) :: C)
theorem CTok.get {P : Program} {C : CT} (h : CTok P C) : ∀ f fn, cfk f C = some fn → P.funcs[f]? = some fn := by
  induction h with
  | nil => intro f fn h; cases h
  | @cons d v C h1 _ ih =>
    intro f fn h
    simp only [cfk] at h
    cases hb : Nat.beq f d with
    | true => rw [hb] at h; rw [beqN hb, ← Option.some.inj h]; exact h1
    | false => rw [hb] at h; exact ih f fn h
inductive EntL (P : Program) : FT → Prop
  | nil : EntL P []
  | cons {d : Nat} {v : FI} {C : FT} : Ent P d → EntL P C → EntL P ((d, v) :: C)
theorem FTok_of {P : Program} {G : FT} (h : EntL P G) : FTok P G := by
  induction h with
  | nil => intro f fn h; cases h
  | @cons d v C h1 _ ih =>
    intro f fn h
    simp only [filk] at h
    cases hb : Nat.beq f d with
    | true => rw [beqN hb]; exact h1
    | false => rw [hb] at h; exact ih f fn h
end Go.Ax
