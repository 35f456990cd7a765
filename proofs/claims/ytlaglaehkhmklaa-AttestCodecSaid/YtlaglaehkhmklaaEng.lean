/-
  Own text. A small calculus for walking a Go function in the model: partial frames (lists slot -> value), a judgement FW over code that is proved from the library's rules for Code.wp, and one law for regions that draw their order. It claims nothing of any program.
-/
import Derived.WalkKit
import Derived.Deep.LoopGhost
import Derived.Still
namespace Go.Eng
open Go Go.RowKit
set_option linter.unusedVariables false

/-! ### Values as the calculus keeps them in a frame -/
inductive SV where
  | v (x : Value)
  | u8 (x : UInt8)
  | u32 (x : UInt32)
  | u64 (x : UInt64)

def byteV (b : UInt8) : Value := .int .u8 (b.toNat : Int)
def wordV (b : UInt32) : Value := .int .u32 (b.toNat : Int)
def longV (b : UInt64) : Value := .int .u64 (b.toNat : Int)

def SV.den : SV → Value
  | .v x => x
  | .u8 b => byteV b
  | .u32 b => wordV b
  | .u64 b => longV b

def SV.of : Value → SV
  | .int .u8 (.ofNat n) => bif Nat.blt n 256 then .u8 (UInt8.ofNat n) else .v (.int .u8 (.ofNat n))
  | .int .u32 (.ofNat n) => bif Nat.blt n 4294967296 then .u32 (UInt32.ofNat n) else .v (.int .u32 (.ofNat n))
  | .int .u64 (.ofNat n) => bif Nat.blt n 18446744073709551616 then .u64 (UInt64.ofNat n) else .v (.int .u64 (.ofNat n))
  | x => .v x

theorem SV.den_of (x : Value) : (SV.of x).den = x := by
  unfold SV.of
  split
  · rename_i n
    cases h : Nat.blt n 256
    · rfl
    · have hn : n < 256 := by simpa [Nat.blt_eq] using h
      simp [SV.den, byteV, Nat.mod_eq_of_lt hn]
  · rename_i n
    cases h : Nat.blt n 4294967296
    · rfl
    · have hn : n < 4294967296 := by simpa [Nat.blt_eq] using h
      simp [SV.den, wordV, Nat.mod_eq_of_lt hn]
  · rename_i n
    cases h : Nat.blt n 18446744073709551616
    · rfl
    · have hn : n < 18446744073709551616 := by simpa [Nat.blt_eq] using h
      simp [SV.den, longV, Nat.mod_eq_of_lt hn]
  · rfl

abbrev Lst := List (Nat × SV)

def lkp (t : Nat) : Lst → Option SV
  | [] => none
  | (d, v) :: L => bif Nat.beq t d then some v else lkp t L

def evo (L : Lst) : Operand → Option SV
  | .tmp t => lkp t L
  | .const c => some (SV.of c)
  | .global g => some (.v (.pointer (some ⟨g, 0, none⟩)))
  | .func g => some (.v (.func (.func g) #[] #[]))

def Agr (a : Act) (L : Lst) : Prop := ∀ t s, lkp t L = some s → a.tmps.getD t undef = s.den

/-- a valuation that agrees with a partial frame -/
def Val (e : Operand → Value) (L : Lst) : Prop := ∀ x s, evo L x = some s → e x = s.den

theorem Agr.val {a : Act} {L : Lst} (h : Agr a L) : Val a.eval L := by
  intro x s hx
  cases x with
  | tmp t => exact h t s hx
  | const c => simp only [evo, Option.some.injEq] at hx; subst hx; exact (SV.den_of c).symm
  | global g => simp only [evo, Option.some.injEq] at hx; subst hx; rfl
  | func g => simp only [evo, Option.some.injEq] at hx; subst hx; rfl

theorem lkp_cons (t d : Nat) (v : SV) (L : Lst) : lkp t ((d, v) :: L) = if t = d then some v else lkp t L := by
  simp only [lkp]
  cases h : Nat.beq t d
  · have : t ≠ d := fun e => by subst e; simp at h
    simp [this]
  · have : t = d := by simpa using h
    simp [this]

theorem getD_put_same (xs : Array Value) (d : Nat) (v : Value) (h : d < xs.size) : (xs.setIfInBounds d v).getD d undef = v := by
  simp [Array.getD, h]
theorem getD_put_ne (xs : Array Value) (d t : Nat) (v : Value) (h : t ≠ d) : (xs.setIfInBounds d v).getD t undef = xs.getD t undef := by
  simp only [Array.getD_eq_getD_getElem?, Array.getElem?_setIfInBounds]
  rw [if_neg (fun e => h e.symm)]

theorem Agr.put {a : Act} {L : Lst} (h : Agr a L) {d : Nat} (s : SV) (hd : d < a.tmps.size) : Agr (a.put (some d) s.den) ((d, s) :: L) := by
  intro t u hu
  rw [lkp_cons] at hu
  by_cases ht : t = d
  · rw [if_pos ht] at hu
    obtain rfl := Option.some.inj hu
    subst ht
    exact getD_put_same _ _ _ hd
  · rw [if_neg ht] at hu
    show (a.tmps.setIfInBounds d s.den).getD t undef = u.den
    rw [getD_put_ne _ _ _ _ ht]
    exact h t u hu

/-- L' holds of every frame of which L holds -/
def Sub : Lst → Lst → Prop
  | [], _ => True
  | (t, v) :: r, L => lkp t L = some v ∧ Sub r L

theorem Sub.lkp {L' L : Lst} (h : Sub L' L) {t : Nat} {v : SV} (ht : lkp t L' = some v) : Go.Eng.lkp t L = some v := by
  induction L' with
  | nil => cases ht
  | cons p r ih =>
    obtain ⟨d, u⟩ := p
    rw [lkp_cons] at ht
    by_cases e : t = d
    · rw [if_pos e] at ht; obtain rfl := Option.some.inj ht; rw [e]; exact h.1
    · rw [if_neg e] at ht; exact ih h.2 ht
theorem Agr.sub {a : Act} {L L' : Lst} (h : Agr a L) (hs : Sub L' L) : Agr a L' := fun t s ht => h t s (hs.lkp ht)

/-! ### The judgement -/
def Post := Exit → Lst → World → Prop
def lift (n : Nat) (Q : Post) : Exit → Act → World → Prop := fun e a w => a.tmps.size = n ∧ a.defers = [] ∧ ∃ L, Agr a L ∧ Q e L w
def FW (P : Program) (n : Nat) (c : Code) (Q : Post) (L : Lst) (w : World) : Prop :=
  ∀ a : Act, a.tmps.size = n → a.defers = [] → Agr a L → c.wp P (lift n Q) a w

def thn (next : Lst → World → Prop) (Q : Post) : Post := fun e L w => match e with | .normal => next L w | e => Q e L w
def blk (id : Nat) (Q : Post) : Post := fun e L w => match e with | .exit id' => if id' = id then Q .normal L w else Q (.exit id') L w | e => Q e L w

section
variable {P : Program} {n : Nat} {Q : Post} {L : Lst} {w : World}

theorem FW.mono {c : Code} {Q' : Post} (h : FW P n c Q L w) (hq : ∀ e L w, Q e L w → Q' e L w) : FW P n c Q' L w :=
  fun a h1 h2 h3 => wp_mono (h a h1 h2 h3) fun e a w ⟨i, j, L, k, q⟩ => ⟨i, j, L, k, hq _ _ _ q⟩
theorem FW.sub {c : Code} {L' : Lst} (hs : Sub L' L) (h : FW P n c Q L' w) : FW P n c Q L w :=
  fun a h1 h2 h3 => h a h1 h2 (h3.sub hs)
theorem FW_seq {x y : Code} (h : FW P n x (thn (fun L w => FW P n y Q L w) Q) L w) : FW P n (.seq x y) Q L w := by
  intro a h1 h2 h3
  refine wp_seq (wp_mono (h a h1 h2 h3) ?_)
  rintro e a' w' ⟨i, j, L', k, q⟩
  cases e with
  | normal => exact q a' i j k
  | exit id => exact ⟨i, j, L', k, q⟩
  | goto l => exact ⟨i, j, L', k, q⟩
  | ret => exact ⟨i, j, L', k, q⟩
  | panic ch => exact ⟨i, j, L', k, q⟩
  | outgrown => exact ⟨i, j, L', k, q⟩
theorem FW_skip (h : Q .normal L w) : FW P n .skip Q L w := fun a h1 h2 h3 => wp_skip ⟨h1, h2, L, h3, h⟩
theorem FW_label {l : Nat} (h : Q .normal L w) : FW P n (.label l) Q L w := fun a h1 h2 h3 => wp_label ⟨h1, h2, L, h3, h⟩
theorem FW_exit {id : Nat} (h : Q (.exit id) L w) : FW P n (.exit id) Q L w := fun a h1 h2 h3 => wp_exit ⟨h1, h2, L, h3, h⟩
theorem FW_ret (h : Q .ret L w) : FW P n .ret Q L w := fun a h1 h2 h3 => wp_ret ⟨h1, h2, L, h3, h⟩
theorem FW_cond {c : Operand} {x y : Code} {t : Bool} (hc : evo L c = some (.v (.bool t))) (ht : t = true → FW P n x Q L w) (hf : t = false → FW P n y Q L w) :
    FW P n (.cond c x y) Q L w := by
  intro a h1 h2 h3
  refine wp_cond_split (t := t) (h3.val c _ hc) (fun h => ht h a h1 h2 h3) (fun h => hf h a h1 h2 h3)
theorem FW_block {id : Nat} {c : Code} (h : FW P n c (blk id Q) L w) : FW P n (.block id c) Q L w := by
  intro a h1 h2 h3
  refine wp_block (wp_mono (h a h1 h2 h3) ?_)
  rintro e a' w' ⟨i, j, L', k, q⟩
  cases e with
  | exit id' =>
    simp only [Exit.inBlock, blk] at q ⊢
    split
    · rename_i hid; rw [if_pos hid] at q; exact ⟨i, j, L', k, q⟩
    · rename_i hid; rw [if_neg hid] at q; exact ⟨i, j, L', k, q⟩
  | normal => exact ⟨i, j, L', k, q⟩
  | goto l => exact ⟨i, j, L', k, q⟩
  | ret => exact ⟨i, j, L', k, q⟩
  | panic ch => exact ⟨i, j, L', k, q⟩
  | outgrown => exact ⟨i, j, L', k, q⟩
/-- A loop: 'H x' is the frame at its head, 'R x' what holds of the world there, 'μ x' goes down. -/
theorem FW_loop {α : Type} {c : Code} (H : α → Lst) (R : α → World → Prop) (μ : α → Nat) (x0 : α) (hs : Sub (H x0) L) (hR : R x0 w)
    (round : ∀ x w, R x w → FW P n c (thn (fun L' w' => ∃ x', Sub (H x') L' ∧ R x' w' ∧ μ x' < μ x) Q) (H x) w) : FW P n (.loop c) Q L w := by
  intro a h1 h2 h3
  refine wp_loop_ghost (fun m a w => a.tmps.size = n ∧ a.defers = [] ∧ ∃ x, Agr a (H x) ∧ R x w ∧ μ x = m) (μ x0) ⟨h1, h2, x0, h3.sub hs, hR, rfl⟩ ?_
  rintro m a w ⟨i, j, x, hA, hR, rfl⟩
  refine wp_mono (round x w hR a i j hA) ?_
  rintro e a' w' ⟨i, j, L', k, q⟩
  cases e with
  | normal => obtain ⟨x', hs', hR', hlt⟩ := q; exact ⟨μ x', hlt, i, j, x', k.sub hs', hR', rfl⟩
  | exit id => exact ⟨i, j, L', k, q⟩
  | goto l => exact ⟨i, j, L', k, q⟩
  | ret => exact ⟨i, j, L', k, q⟩
  | panic ch => exact ⟨i, j, L', k, q⟩
  | outgrown => exact ⟨i, j, L', k, q⟩
/-- what holds behind x, in a frame cut down to H -/
theorem FW_cut {β : Type} {x c : Code} (H : β → Lst) (R : β → World → Prop) (h1 : FW P n x (thn (fun L' w' => ∃ y, Sub (H y) L' ∧ R y w') Q) L w) (h2 : ∀ y w', R y w' → FW P n c Q (H y) w') : FW P n (.seq x c) Q L w :=
  FW_seq (h1.mono fun e L' w' q => by cases e <;> first | exact q | (obtain ⟨y, hs, hr⟩ := q; exact (h2 y w' hr).sub hs))
theorem FW_loop2 {α β : Type} {c : Code} (H : α → β → Lst) (R : α → β → World → Prop) (μ : α → β → Nat) (x0 : α) (y0 : β) (hs : Sub (H x0 y0) L) (hR : R x0 y0 w)
    (round : ∀ x y w, R x y w → FW P n c (thn (fun L' w' => ∃ x' y', Sub (H x' y') L' ∧ R x' y' w' ∧ μ x' y' < μ x y) Q) (H x y) w) : FW P n (.loop c) Q L w :=
  FW_loop (α := α × β) (fun x => H x.1 x.2) (fun x => R x.1 x.2) (fun x => μ x.1 x.2) (x0, y0) hs hR fun x w h =>
    (round x.1 x.2 w h).mono fun e L w q => by cases e <;> first | exact q | (obtain ⟨x', y', h⟩ := q; exact ⟨(x', y'), h⟩)
theorem FW_loop3 {α β γ : Type} {c : Code} (H : α → β → γ → Lst) (R : α → β → γ → World → Prop) (μ : α → β → γ → Nat) (x0 : α) (y0 : β) (z0 : γ) (hs : Sub (H x0 y0 z0) L) (hR : R x0 y0 z0 w)
    (round : ∀ x y z w, R x y z w → FW P n c (thn (fun L' w' => ∃ x' y' z', Sub (H x' y' z') L' ∧ R x' y' z' w' ∧ μ x' y' z' < μ x y z) Q) (H x y z) w) : FW P n (.loop c) Q L w :=
  FW_loop (α := α × β × γ) (fun x => H x.1 x.2.1 x.2.2) (fun x => R x.1 x.2.1 x.2.2) (fun x => μ x.1 x.2.1 x.2.2) (x0, y0, z0) hs hR fun x w h =>
    (round x.1 x.2.1 x.2.2 w h).mono fun e L w q => by cases e <;> first | exact q | (obtain ⟨x', y', z', h⟩ := q; exact ⟨(x', y', z'), h⟩)
end

/-! ### One operation -/
/-- What an operation yields under a valuation in a world. -/
def opw (P : Program) (e : Operand → Value) (op : Op) (ty : TypeId) (w : World) (K : Value → World → Prop) : Prop :=
  match (execOp e ⟨none, op, ty, "", #[], none⟩).run P w with
  | .ok (.value v) w' => K v w'
  | .ok .skip w' => K undef w'
  | .ok (.enter f args) w' => Calls P f args w' fun | .returned v, w'' => K v w'' | _, _ => False
  | _ => False

theorem opw_mono {P : Program} {e : Operand → Value} {op : Op} {ty : TypeId} {w : World} {K K' : Value → World → Prop} (h : opw P e op ty w K) (hk : ∀ v w, K v w → K' v w) : opw P e op ty w K' := by
  unfold opw at *
  split at h
  · exact hk _ _ h
  · exact hk _ _ h
  · refine h.mono ?_
    rintro (v | ch | _) w' h'
    · exact hk _ _ h'
    · exact h'
    · exact h'
  · exact h

theorem execOp_canon (e : Operand → Value) (o : Oper) : execOp e o = execOp e ⟨none, o.op, o.type, "", #[], none⟩ := by
  obtain ⟨d, op, ty, pos, af, g⟩ := o
  cases op <;> rfl

theorem wp_of_opw {P : Program} {o : Oper} {a : Act} {w : World} {next : Act → World → Prop} {Q : Exit → Act → World → Prop}
    (h : opw P a.eval o.op o.type w fun v w' => next (a.put o.dst v) w') : o.wp P a w next Q := by
  unfold Oper.wp
  rw [execOp_canon]
  unfold opw at h
  generalize (execOp a.eval ⟨none, o.op, o.type, "", #[], none⟩).run P w = r at h ⊢
  cases r with
  | halt x w' => exact h.elim
  | ok x w' =>
    cases x <;> first | exact h | exact h.elim | skip
    refine Calls.mono h ?_
    rintro (v | ch | _) w'' h'
    · exact h'
    · exact h'.elim
    · exact h'.elim

def OP (P : Program) (L : Lst) (op : Op) (ty : TypeId) (w : World) (K : SV → World → Prop) : Prop :=
  ∀ e, Val e L → opw P e op ty w fun v w' => ∃ s : SV, s.den = v ∧ K s w'

theorem OP.mono {P : Program} {L : Lst} {op : Op} {ty : TypeId} {w : World} {K K' : SV → World → Prop} (h : OP P L op ty w K) (hk : ∀ v w, K v w → K' v w) : OP P L op ty w K' :=
  fun e he => opw_mono (h e he) fun v w ⟨s, hs, k⟩ => ⟨s, hs, hk _ _ k⟩

/-! ### A region in the order of its text -/
def RL (P : Program) (n : Nat) (ops : Array Oper) (Q : Post) (l : List Oper) (L : Lst) (w : World) : Prop :=
  ∀ a : Act, a.tmps.size = n → a.defers = [] → Agr a L → wpList P ops (lift n Q) l a w

section
variable {P : Program} {n : Nat} {Q : Post} {L : Lst} {w : World} {ops : Array Oper} {rest : List Oper}

theorem FW_region {id : Nat} {l : List Oper} (h : RL P n l.toArray Q l L w) : FW P n (.region id l.toArray false) Q L w :=
  fun a h1 h2 h3 => wp_region_lit (h a h1 h2 h3)
theorem RL_nil (h : Q .normal L w) : RL P n ops Q [] L w := fun a h1 h2 h3 => wpList_nil ⟨h1, h2, L, h3, h⟩
theorem put_size (a : Act) (d : Option Nat) (v : Value) : (a.put d v).tmps.size = a.tmps.size := by cases d <;> simp [Act.put]
theorem put_defers (a : Act) (d : Option Nat) (v : Value) : (a.put d v).defers = a.defers := by cases d <;> rfl
/-- an operation with a slot -/
theorem st {d : Nat} {op : Op} {ty : TypeId} {pos : String} {af : Array Edge} (h : OP P L op ty w fun s w' => RL P n ops Q rest ((d, s) :: L) w') (hd : Nat.blt d n = true) :
    RL P n ops Q (⟨some d, op, ty, pos, af, none⟩ :: rest) L w := by
  intro a h1 h2 h3
  refine wpList_plain rfl fun K hK => wp_of_opw ?_
  refine opw_mono (h a.eval h3.val) ?_
  rintro v w' ⟨s, rfl, hr⟩
  have hdn : d < n := by simpa [Nat.blt_eq] using hd
  exact hK _ _ (hr _ (by rw [put_size]; exact h1) (by rw [put_defers]; exact h2) (h3.put s (by omega)))
/-- an operation without a slot -/
theorem st0 {op : Op} {ty : TypeId} {pos : String} {af : Array Edge} (h : OP P L op ty w fun _ w' => RL P n ops Q rest L w') :
    RL P n ops Q (⟨none, op, ty, pos, af, none⟩ :: rest) L w := by
  intro a h1 h2 h3
  refine wpList_plain rfl fun K hK => wp_of_opw ?_
  refine opw_mono (h a.eval h3.val) ?_
  rintro v w' ⟨s, rfl, hr⟩
  exact hK _ _ (hr _ h1 h2 h3)
/-- a guarded operation: the guard's operation j has its slot d', which holds b -/
theorem stg {d d' j : Nat} {want b : Bool} {op : Op} {ty : TypeId} {pos : String} {af : Array Edge} (hj : (ops[j]?).bind (·.dst) = some d') (hb : lkp d' L = some (.v (.bool b)))
    (hy : b = want → OP P L op ty w fun s w' => RL P n ops Q rest ((d, s) :: L) w') (hno : b = !want → RL P n ops Q rest ((d, .v undef) :: L) w) (hd : Nat.blt d n = true) (hd' : Nat.blt d' n = true) :
    RL P n ops Q (⟨some d, op, ty, pos, af, some (j, want)⟩ :: rest) L w := by
  intro a h1 h2 h3
  have hdn : d < n := by simpa [Nat.blt_eq] using hd
  have hdn' : d' < n := by simpa [Nat.blt_eq] using hd'
  have hyield : yielded ops a.tmps j = some b := by
    have := h3 d' _ hb
    simp only [yielded, hj, Option.bind_some]
    rw [Array.getD_eq_getD_getElem?] at this
    have hlt : d' < a.tmps.size := by omega
    simp only [hlt, Array.getElem?_eq_getElem, Option.getD_some] at this ⊢
    rw [this]; rfl
  refine wpList_step fun K hK => ?_
  by_cases hbw : b = want
  · rw [if_pos (by simp [Region.wanted, hyield, hbw])]
    refine wp_of_opw (opw_mono (hy hbw a.eval h3.val) ?_)
    rintro v w' ⟨s, rfl, hr⟩
    exact hK _ _ (hr _ (by rw [put_size]; exact h1) (by rw [put_defers]; exact h2) (h3.put s (by omega)))
  · rw [if_neg (by simp [Region.wanted, hyield, hbw])]
    have : b = !want := by cases b <;> cases want <;> simp_all
    exact hK _ _ (hno this _ (by rw [put_size]; exact h1) (by rw [put_defers]; exact h2) (h3.put (.v undef) (by omega)))
end

/-! ### Calls -/
def Ret (R : Value → World → Prop) : Ending → World → Prop := fun e w => match e with | .returned v => R v w | _ => False

theorem Ret.mono {P : Program} {f : FuncId} {args : Array Value} {w : World} {R R' : Value → World → Prop} (h : Calls P f args w (Ret R)) (hr : ∀ v w, R v w → R' v w) : Calls P f args w (Ret R') :=
  h.mono fun e w h => by cases e <;> first | exact hr _ _ h | exact h

def look1 (L : Lst) (r : ResultVar) : Option Value := match r with | .tmp t => (lkp t L).map SV.den | .cell _ _ => none
def resOf (rs : Array ResultVar) (L : Lst) : Option Value :=
  match rs.toList with
  | [] => some (.tuple #[])
  | [r] => look1 L r
  | [r1, r2] => match look1 L r1, look1 L r2 with | some a, some b => some (.tuple #[a, b]) | _, _ => none
  | [r1, r2, r3] => match look1 L r1, look1 L r2, look1 L r3 with | some a, some b, some c => some (.tuple #[a, b, c]) | _, _, _ => none
  | _ => none

def endp (rs : Array ResultVar) (R : Value → World → Prop) : Post := fun e L w => match e with | .normal | .ret => ∃ v, resOf rs L = some v ∧ R v w | _ => False

theorem look1_res {a : Act} {L : Lst} (h : Agr a L) {r : ResultVar} {v : Value} (hv : look1 L r = some v) : ∃ t, r = .tmp t ∧ a.tmps.getD t undef = v := by
  cases r with
  | tmp t =>
    simp only [look1, Option.map_eq_some_iff] at hv
    obtain ⟨s, hs, rfl⟩ := hv
    exact ⟨t, rfl, h t s hs⟩
  | cell x y => simp [look1] at hv

theorem results_of {P : Program} {fn : Func} {a : Act} {L : Lst} {v : Value} {w : World} (h : Agr a L) (hv : resOf fn.results L = some v) : (results fn a.tmps).run P w = .ok v w := by
  have hs : fn.results = fn.results.toList.toArray := by simp
  unfold resOf at hv
  generalize fn.results.toList = rs at hs hv
  match rs, hs, hv with
  | [], hs, hv => obtain rfl := Option.some.inj hv; exact results_none hs _ _ _
  | [r], hs, hv =>
    obtain ⟨t, rfl, ht⟩ := look1_res h hv
    rw [results_tmp hs, ht]
  | [r1, r2], hs, hv =>
    simp only at hv
    split at hv
    · rename_i x y h1 h2
      obtain ⟨t, rfl, ht⟩ := look1_res h h1
      obtain ⟨u, rfl, hu⟩ := look1_res h h2
      obtain rfl := Option.some.inj hv
      rw [results_tmp2 hs, ht, hu]
    · cases hv
  | [r1, r2, r3], hs, hv =>
    simp only at hv
    split at hv
    · rename_i x y z h1 h2 h3
      obtain ⟨t, rfl, ht⟩ := look1_res h h1
      obtain ⟨u, rfl, hu⟩ := look1_res h h2
      obtain ⟨s, rfl, hs'⟩ := look1_res h h3
      obtain rfl := Option.some.inj hv
      rw [results_tmp3 hs, ht, hu, hs']
    · cases hv
  | _ :: _ :: _ :: _ :: _, hs, hv => cases hv

def argL (k : Nat) : List SV → Lst
  | [] => []
  | v :: r => (k, v) :: argL (k + 1) r

theorem argL_lkp (vs : List SV) : ∀ (k t : Nat) (s : SV), lkp t (argL k vs) = some s → k ≤ t ∧ vs[t - k]? = some s := by
  induction vs with
  | nil => intro k t s h; cases h
  | cons v r ih =>
    intro k t s h
    rw [argL, lkp_cons] at h
    by_cases e : t = k
    · rw [if_pos e] at h
      obtain rfl := Option.some.inj h
      subst e
      exact ⟨Nat.le_refl _, by simp⟩
    · rw [if_neg e] at h
      obtain ⟨h1, h2⟩ := ih _ _ _ h
      refine ⟨by omega, ?_⟩
      rw [show t - k = (t - (k + 1)) + 1 from by omega, List.getElem?_cons_succ]
      exact h2

/-- A call, by the walk of its body. -/
theorem calls_of_FW {P : Program} {f : FuncId} {fn : Func} {c : Code} {n : Nat} {rs : Array ResultVar} (ss : List SV) {w : World} {R : Value → World → Prop}
    (hf : P.funcs[f]? = some fn) (hb : fn.body = some c) (hn : fn.ntmps = n) (hrs : fn.results = rs) (hlen : Nat.ble ss.length n = true) (h : FW P n c (endp rs R) (argL 0 ss) w) : Calls P f (ss.map SV.den).toArray w (Ret R) := by
  subst hn
  subst hrs
  have hlen : ss.length ≤ fn.ntmps := by simpa using hlen
  refine calls_of_wp hf hb ?_
  have hsz : ((ss.map SV.den).toArray ++ Array.replicate (fn.ntmps - (ss.map SV.den).toArray.size) undef).size = fn.ntmps := by simp; omega
  refine wp_mono (h _ hsz rfl ?_) ?_
  · intro t s hs
    obtain ⟨_, hv⟩ := argL_lkp _ _ _ _ hs
    simp only [Nat.sub_zero] at hv
    have hlt : t < ss.length := (List.getElem?_eq_some_iff.1 hv).1
    rw [Array.getD_eq_getD_getElem?, Array.getElem?_append_left (by simpa using hlt)]
    simp [hv]
  · rintro e a w' ⟨i, j, L, k, q⟩
    cases e with
    | normal => obtain ⟨v, hv, hr⟩ := q; exact ⟨j, v, results_of k hv, hr⟩
    | ret => obtain ⟨v, hv, hr⟩ := q; exact ⟨j, v, results_of k hv, hr⟩
    | exit id => exact q.elim
    | goto l => exact q.elim
    | panic ch => exact q.elim
    | outgrown => exact q.elim

/-- the same, the result read at the end by whatever the function says -/
def endg (P : Program) (fn : Func) (R : Value → World → Prop) : Post := fun e L w => match e with | .normal | .ret => ∃ v, (∀ a : Act, Agr a L → (results fn a.tmps).run P w = .ok v w) ∧ R v w | _ => False
theorem calls_of_FWg {P : Program} {f : FuncId} {fn : Func} {c : Code} {n : Nat} (ss : List SV) {w : World} {R : Value → World → Prop}
    (hf : P.funcs[f]? = some fn) (hb : fn.body = some c) (hn : fn.ntmps = n) (hlen : Nat.ble ss.length n = true) (h : FW P n c (endg P fn R) (argL 0 ss) w) : Calls P f (ss.map SV.den).toArray w (Ret R) := by
  subst hn
  have hlen : ss.length ≤ fn.ntmps := by simpa using hlen
  refine calls_of_wp hf hb ?_
  have hsz : ((ss.map SV.den).toArray ++ Array.replicate (fn.ntmps - (ss.map SV.den).toArray.size) undef).size = fn.ntmps := by simp; omega
  refine wp_mono (h _ hsz rfl ?_) ?_
  · intro t s hs
    obtain ⟨_, hv⟩ := argL_lkp _ _ _ _ hs
    simp only [Nat.sub_zero] at hv
    have hlt : t < ss.length := (List.getElem?_eq_some_iff.1 hv).1
    rw [Array.getD_eq_getD_getElem?, Array.getElem?_append_left (by simpa using hlt)]
    simp [hv]
  · rintro e a w' ⟨i, j, L, k, q⟩
    cases e with
    | normal => obtain ⟨v, hv, hr⟩ := q; exact ⟨j, v, hv a k, hr⟩
    | ret => obtain ⟨v, hv, hr⟩ := q; exact ⟨j, v, hv a k, hr⟩
    | exit id => exact q.elim
    | goto l => exact q.elim
    | panic ch => exact q.elim
    | outgrown => exact q.elim

/-! ### Ends of pieces -/
section
variable {P : Program} {n : Nat} {Q : Post} {L : Lst} {w : World} {next : Lst → World → Prop} {id id' : Nat}
theorem E_thn_n (h : next L w) : thn next Q .normal L w := h
theorem E_thn_x (h : Q (.exit id) L w) : thn next Q (.exit id) L w := h
theorem E_thn_r (h : Q .ret L w) : thn next Q .ret L w := h
theorem E_blk_n (h : Q .normal L w) : blk id Q .normal L w := h
theorem E_blk_x (h : Q .normal L w) : blk id Q (.exit id) L w := by simp only [blk, ↓reduceIte]; exact h
theorem E_blk_o (hne : Nat.beq id' id = false) (h : Q (.exit id') L w) : blk id Q (.exit id') L w := by
  have : id' ≠ id := fun e => by subst e; simp at hne
  simp only [blk]; rw [if_neg this]; exact h
theorem E_blk_r (h : Q .ret L w) : blk id Q .ret L w := h
theorem E_end_r {rs : Array ResultVar} {R : Value → World → Prop} {v : Value} (hv : resOf rs L = some v) (h : R v w) : endp rs R .ret L w := ⟨v, hv, h⟩
theorem E_end_n {rs : Array ResultVar} {R : Value → World → Prop} {v : Value} (hv : resOf rs L = some v) (h : R v w) : endp rs R .normal L w := ⟨v, hv, h⟩
end
end Go.Eng
