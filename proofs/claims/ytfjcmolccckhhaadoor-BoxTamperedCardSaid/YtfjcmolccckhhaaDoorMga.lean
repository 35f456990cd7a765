/-
  Own texts, laid together for this claim: the rules that every walk uses, which claim nothing of any program.
-/
import Derived.WalkKit
import Derived.Deep.LoopGhost
import Derived.Still
import Derived.Laws.CopyOwn
import Derived.Orders
import Derived.Laws.IdiomStrings
import Derived.Lib.AppendStr
import Derived.Lib.AppendZerosOnto
import Derived.LoopN
set_option linter.all false

namespace Go.Eng
open Go Go.RowKit
set_option linter.unusedVariables false
inductive SV where
  | v (x : Value)
  | u8 (x : UInt8)
  | u32 (x : UInt32)
  | u64 (x : UInt64)
def byteV (b : UInt8) : Value := .int .u8 (b.toNat : Int)
def wordV (b : UInt32) : Value := .int .u32 (b.toNat : Int)
def longV (b : UInt64) : Value := .int .u64 (b.toNat : Int)
def SV.den : SV → Value
  | .v x => x
  | .u8 b => byteV b
  | .u32 b => wordV b
  | .u64 b => longV b
def SV.of : Value → SV
  | .int .u8 (.ofNat n) => bif Nat.blt n 256 then .u8 (UInt8.ofNat n) else .v (.int .u8 (.ofNat n))
  | .int .u32 (.ofNat n) => bif Nat.blt n 4294967296 then .u32 (UInt32.ofNat n) else .v (.int .u32 (.ofNat n))
  | .int .u64 (.ofNat n) => bif Nat.blt n 18446744073709551616 then .u64 (UInt64.ofNat n) else .v (.int .u64 (.ofNat n))
  | x => .v x
theorem SV.den_of (x : Value) : (SV.of x).den = x := by
  unfold SV.of
  split
  · rename_i n
    cases h : Nat.blt n 256
    · rfl
    · have hn : n < 256 := by simpa [Nat.blt_eq] using h
      simp [SV.den, byteV, Nat.mod_eq_of_lt hn]
  · rename_i n
    cases h : Nat.blt n 4294967296
    · rfl
    · have hn : n < 4294967296 := by simpa [Nat.blt_eq] using h
      simp [SV.den, wordV, Nat.mod_eq_of_lt hn]
  · rename_i n
    cases h : Nat.blt n 18446744073709551616
    · rfl
    · have hn : n < 18446744073709551616 := by simpa [Nat.blt_eq] using h
      simp [SV.den, longV, Nat.mod_eq_of_lt hn]
  · rfl
abbrev Lst := List (Nat × SV)
def lkp (t : Nat) : Lst → Option SV
  | [] => none
  | (d, v) :: L => bif Nat.beq t d then some v else lkp t L
def evo (L : Lst) : Operand → Option SV
  | .tmp t => lkp t L
  | .const c => some (SV.of c)
  | .global g => some (.v (.pointer (some ⟨g, 0, none⟩)))
  | .func g => some (.v (.func (.func g) #[] #[]))
def Agr (a : Act) (L : Lst) : Prop := ∀ t s, lkp t L = some s → a.tmps.getD t undef = s.den
def Val (e : Operand → Value) (L : Lst) : Prop := ∀ x s, evo L x = some s → e x = s.den
theorem Agr.val {a : Act} {L : Lst} (h : Agr a L) : Val a.eval L := by
  intro x s hx
  cases x with
  | tmp t => exact h t s hx
  | const c => simp only [evo, Option.some.injEq] at hx; subst hx; exact (SV.den_of c).symm
  | global g => simp only [evo, Option.some.injEq] at hx; subst hx; rfl
  | func g => simp only [evo, Option.some.injEq] at hx; subst hx; rfl
theorem lkp_cons (t d : Nat) (v : SV) (L : Lst) : lkp t ((d, v) :: L) = if t = d then some v else lkp t L := by
  simp only [lkp]
  cases h : Nat.beq t d
  · have : t ≠ d := fun e => by subst e; simp at h
    simp [this]
  · have : t = d := by simpa using h
    simp [this]
theorem getD_put_same (xs : Array Value) (d : Nat) (v : Value) (h : d < xs.size) : (xs.setIfInBounds d v).getD d undef = v := by
  simp [Array.getD, h]
theorem getD_put_ne (xs : Array Value) (d t : Nat) (v : Value) (h : t ≠ d) : (xs.setIfInBounds d v).getD t undef = xs.getD t undef := by
  simp only [Array.getD_eq_getD_getElem?, Array.getElem?_setIfInBounds]
  rw [if_neg (fun e => h e.symm)]
theorem Agr.put {a : Act} {L : Lst} (h : Agr a L) {d : Nat} (s : SV) (hd : d < a.tmps.size) : Agr (a.put (some d) s.den) ((d, s) :: L) := by
  intro t u hu
  rw [lkp_cons] at hu
  by_cases ht : t = d
  · rw [if_pos ht] at hu
    obtain rfl := Option.some.inj hu
    subst ht
    exact getD_put_same _ _ _ hd
  · rw [if_neg ht] at hu
    show (a.tmps.setIfInBounds d s.den).getD t undef = u.den
    rw [getD_put_ne _ _ _ _ ht]
    exact h t u hu
def Sub : Lst → Lst → Prop
  | [], _ => True
  | (t, v) :: r, L => lkp t L = some v ∧ Sub r L
theorem Sub.lkp {L' L : Lst} (h : Sub L' L) {t : Nat} {v : SV} (ht : lkp t L' = some v) : Go.Eng.lkp t L = some v := by
  induction L' with
  | nil => cases ht
  | cons p r ih =>
    obtain ⟨d, u⟩ := p
    rw [lkp_cons] at ht
    by_cases e : t = d
    · rw [if_pos e] at ht; obtain rfl := Option.some.inj ht; rw [e]; exact h.1
    · rw [if_neg e] at ht; exact ih h.2 ht
theorem Agr.sub {a : Act} {L L' : Lst} (h : Agr a L) (hs : Sub L' L) : Agr a L' := fun t s ht => h t s (hs.lkp ht)
def Post := Exit → Lst → World → Prop
def lift (n : Nat) (Q : Post) : Exit → Act → World → Prop := fun e a w => a.tmps.size = n ∧ a.defers = [] ∧ ∃ L, Agr a L ∧ Q e L w
def FW (P : Program) (n : Nat) (c : Code) (Q : Post) (L : Lst) (w : World) : Prop :=
  ∀ a : Act, a.tmps.size = n → a.defers = [] → Agr a L → c.wp P (lift n Q) a w
def thn (next : Lst → World → Prop) (Q : Post) : Post := fun e L w => match e with | .normal => next L w | e => Q e L w
def blk (id : Nat) (Q : Post) : Post := fun e L w => match e with | .exit id' => if id' = id then Q .normal L w else Q (.exit id') L w | e => Q e L w
section
variable {P : Program} {n : Nat} {Q : Post} {L : Lst} {w : World}
theorem FW.mono {c : Code} {Q' : Post} (h : FW P n c Q L w) (hq : ∀ e L w, Q e L w → Q' e L w) : FW P n c Q' L w :=
  fun a h1 h2 h3 => wp_mono (h a h1 h2 h3) fun e a w ⟨i, j, L, k, q⟩ => ⟨i, j, L, k, hq _ _ _ q⟩
theorem FW.sub {c : Code} {L' : Lst} (hs : Sub L' L) (h : FW P n c Q L' w) : FW P n c Q L w :=
  fun a h1 h2 h3 => h a h1 h2 (h3.sub hs)
theorem FW_seq {x y : Code} (h : FW P n x (thn (fun L w => FW P n y Q L w) Q) L w) : FW P n (.seq x y) Q L w := by
  intro a h1 h2 h3
  refine wp_seq (wp_mono (h a h1 h2 h3) ?_)
  rintro e a' w' ⟨i, j, L', k, q⟩
  cases e with
  | normal => exact q a' i j k
  | exit id => exact ⟨i, j, L', k, q⟩
  | goto l => exact ⟨i, j, L', k, q⟩
  | ret => exact ⟨i, j, L', k, q⟩
  | panic ch => exact ⟨i, j, L', k, q⟩
  | outgrown => exact ⟨i, j, L', k, q⟩
theorem FW_skip (h : Q .normal L w) : FW P n .skip Q L w := fun a h1 h2 h3 => wp_skip ⟨h1, h2, L, h3, h⟩
theorem FW_exit {id : Nat} (h : Q (.exit id) L w) : FW P n (.exit id) Q L w := fun a h1 h2 h3 => wp_exit ⟨h1, h2, L, h3, h⟩
theorem FW_ret (h : Q .ret L w) : FW P n .ret Q L w := fun a h1 h2 h3 => wp_ret ⟨h1, h2, L, h3, h⟩
theorem FW_cond {c : Operand} {x y : Code} {t : Bool} (hc : evo L c = some (.v (.bool t))) (ht : t = true → FW P n x Q L w) (hf : t = false → FW P n y Q L w) :
    FW P n (.cond c x y) Q L w := by
  intro a h1 h2 h3
  refine wp_cond_split (t := t) (h3.val c _ hc) (fun h => ht h a h1 h2 h3) (fun h => hf h a h1 h2 h3)
theorem FW_block {id : Nat} {c : Code} (h : FW P n c (blk id Q) L w) : FW P n (.block id c) Q L w := by
  intro a h1 h2 h3
  refine wp_block (wp_mono (h a h1 h2 h3) ?_)
  rintro e a' w' ⟨i, j, L', k, q⟩
  cases e with
  | exit id' =>
    simp only [Exit.inBlock, blk] at q ⊢
    split
    · rename_i hid; rw [if_pos hid] at q; exact ⟨i, j, L', k, q⟩
    · rename_i hid; rw [if_neg hid] at q; exact ⟨i, j, L', k, q⟩
  | normal => exact ⟨i, j, L', k, q⟩
  | goto l => exact ⟨i, j, L', k, q⟩
  | ret => exact ⟨i, j, L', k, q⟩
  | panic ch => exact ⟨i, j, L', k, q⟩
  | outgrown => exact ⟨i, j, L', k, q⟩
theorem FW_loop {α : Type} {c : Code} (H : α → Lst) (R : α → World → Prop) (μ : α → Nat) (x0 : α) (hs : Sub (H x0) L) (hR : R x0 w)
    (round : ∀ x w, R x w → FW P n c (thn (fun L' w' => ∃ x', Sub (H x') L' ∧ R x' w' ∧ μ x' < μ x) Q) (H x) w) : FW P n (.loop c) Q L w := by
  intro a h1 h2 h3
  refine wp_loop_ghost (fun m a w => a.tmps.size = n ∧ a.defers = [] ∧ ∃ x, Agr a (H x) ∧ R x w ∧ μ x = m) (μ x0) ⟨h1, h2, x0, h3.sub hs, hR, rfl⟩ ?_
  rintro m a w ⟨i, j, x, hA, hR, rfl⟩
  refine wp_mono (round x w hR a i j hA) ?_
  rintro e a' w' ⟨i, j, L', k, q⟩
  cases e with
  | normal => obtain ⟨x', hs', hR', hlt⟩ := q; exact ⟨μ x', hlt, i, j, x', k.sub hs', hR', rfl⟩
  | exit id => exact ⟨i, j, L', k, q⟩
  | goto l => exact ⟨i, j, L', k, q⟩
  | ret => exact ⟨i, j, L', k, q⟩
  | panic ch => exact ⟨i, j, L', k, q⟩
  | outgrown => exact ⟨i, j, L', k, q⟩
theorem FW_cut {β : Type} {x c : Code} (H : β → Lst) (R : β → World → Prop) (h1 : FW P n x (thn (fun L' w' => ∃ y, Sub (H y) L' ∧ R y w') Q) L w) (h2 : ∀ y w', R y w' → FW P n c Q (H y) w') : FW P n (.seq x c) Q L w :=
  FW_seq (h1.mono fun e L' w' q => by cases e <;> first | exact q | (obtain ⟨y, hs, hr⟩ := q; exact (h2 y w' hr).sub hs))
theorem FW_loop2 {α β : Type} {c : Code} (H : α → β → Lst) (R : α → β → World → Prop) (μ : α → β → Nat) (x0 : α) (y0 : β) (hs : Sub (H x0 y0) L) (hR : R x0 y0 w)
    (round : ∀ x y w, R x y w → FW P n c (thn (fun L' w' => ∃ x' y', Sub (H x' y') L' ∧ R x' y' w' ∧ μ x' y' < μ x y) Q) (H x y) w) : FW P n (.loop c) Q L w :=
  FW_loop (α := α × β) (fun x => H x.1 x.2) (fun x => R x.1 x.2) (fun x => μ x.1 x.2) (x0, y0) hs hR fun x w h =>
    (round x.1 x.2 w h).mono fun e L w q => by cases e <;> first | exact q | (obtain ⟨x', y', h⟩ := q; exact ⟨(x', y'), h⟩)
theorem FW_loop3 {α β γ : Type} {c : Code} (H : α → β → γ → Lst) (R : α → β → γ → World → Prop) (μ : α → β → γ → Nat) (x0 : α) (y0 : β) (z0 : γ) (hs : Sub (H x0 y0 z0) L) (hR : R x0 y0 z0 w)
    (round : ∀ x y z w, R x y z w → FW P n c (thn (fun L' w' => ∃ x' y' z', Sub (H x' y' z') L' ∧ R x' y' z' w' ∧ μ x' y' z' < μ x y z) Q) (H x y z) w) : FW P n (.loop c) Q L w :=
  FW_loop (α := α × β × γ) (fun x => H x.1 x.2.1 x.2.2) (fun x => R x.1 x.2.1 x.2.2) (fun x => μ x.1 x.2.1 x.2.2) (x0, y0, z0) hs hR fun x w h =>
    (round x.1 x.2.1 x.2.2 w h).mono fun e L w q => by cases e <;> first | exact q | (obtain ⟨x', y', z', h⟩ := q; exact ⟨(x', y', z'), h⟩)
end
def opw (P : Program) (e : Operand → Value) (op : Op) (ty : TypeId) (w : World) (K : Value → World → Prop) : Prop :=
  match (execOp e ⟨none, op, ty, "", #[], none⟩).run P w with
  | .ok (.value v) w' => K v w'
  | .ok .skip w' => K undef w'
  | .ok (.enter f args) w' => Calls P f args w' fun | .returned v, w'' => K v w'' | _, _ => False
  | _ => False
theorem opw_mono {P : Program} {e : Operand → Value} {op : Op} {ty : TypeId} {w : World} {K K' : Value → World → Prop} (h : opw P e op ty w K) (hk : ∀ v w, K v w → K' v w) : opw P e op ty w K' := by
  unfold opw at *
  split at h
  · exact hk _ _ h
  · exact hk _ _ h
  · refine h.mono ?_
    rintro (v | ch | _) w' h'
    · exact hk _ _ h'
    · exact h'
    · exact h'
  · exact h
theorem execOp_canon (e : Operand → Value) (o : Oper) : execOp e o = execOp e ⟨none, o.op, o.type, "", #[], none⟩ := by
  obtain ⟨d, op, ty, pos, af, g⟩ := o
  cases op <;> rfl
theorem wp_of_opw {P : Program} {o : Oper} {a : Act} {w : World} {next : Act → World → Prop} {Q : Exit → Act → World → Prop}
    (h : opw P a.eval o.op o.type w fun v w' => next (a.put o.dst v) w') : o.wp P a w next Q := by
  unfold Oper.wp
  rw [execOp_canon]
  unfold opw at h
  generalize (execOp a.eval ⟨none, o.op, o.type, "", #[], none⟩).run P w = r at h ⊢
  cases r with
  | halt x w' => exact h.elim
  | ok x w' =>
    cases x <;> first | exact h | exact h.elim | skip
    refine Calls.mono h ?_
    rintro (v | ch | _) w'' h'
    · exact h'
    · exact h'.elim
    · exact h'.elim
def OP (P : Program) (L : Lst) (op : Op) (ty : TypeId) (w : World) (K : SV → World → Prop) : Prop :=
  ∀ e, Val e L → opw P e op ty w fun v w' => ∃ s : SV, s.den = v ∧ K s w'
theorem OP.mono {P : Program} {L : Lst} {op : Op} {ty : TypeId} {w : World} {K K' : SV → World → Prop} (h : OP P L op ty w K) (hk : ∀ v w, K v w → K' v w) : OP P L op ty w K' :=
  fun e he => opw_mono (h e he) fun v w ⟨s, hs, k⟩ => ⟨s, hs, hk _ _ k⟩
def RL (P : Program) (n : Nat) (ops : Array Oper) (Q : Post) (l : List Oper) (L : Lst) (w : World) : Prop :=
  ∀ a : Act, a.tmps.size = n → a.defers = [] → Agr a L → wpList P ops (lift n Q) l a w
section
variable {P : Program} {n : Nat} {Q : Post} {L : Lst} {w : World} {ops : Array Oper} {rest : List Oper}
theorem FW_region {id : Nat} {l : List Oper} (h : RL P n l.toArray Q l L w) : FW P n (.region id l.toArray false) Q L w :=
  fun a h1 h2 h3 => wp_region_lit (h a h1 h2 h3)
theorem RL_nil (h : Q .normal L w) : RL P n ops Q [] L w := fun a h1 h2 h3 => wpList_nil ⟨h1, h2, L, h3, h⟩
theorem put_size (a : Act) (d : Option Nat) (v : Value) : (a.put d v).tmps.size = a.tmps.size := by cases d <;> simp [Act.put]
theorem put_defers (a : Act) (d : Option Nat) (v : Value) : (a.put d v).defers = a.defers := by cases d <;> rfl
theorem st {d : Nat} {op : Op} {ty : TypeId} {pos : String} {af : Array Edge} (h : OP P L op ty w fun s w' => RL P n ops Q rest ((d, s) :: L) w') (hd : Nat.blt d n = true) :
    RL P n ops Q (⟨some d, op, ty, pos, af, none⟩ :: rest) L w := by
  intro a h1 h2 h3
  refine wpList_plain rfl fun K hK => wp_of_opw ?_
  refine opw_mono (h a.eval h3.val) ?_
  rintro v w' ⟨s, rfl, hr⟩
  have hdn : d < n := by simpa [Nat.blt_eq] using hd
  exact hK _ _ (hr _ (by rw [put_size]; exact h1) (by rw [put_defers]; exact h2) (h3.put s (by omega)))
theorem st0 {op : Op} {ty : TypeId} {pos : String} {af : Array Edge} (h : OP P L op ty w fun _ w' => RL P n ops Q rest L w') :
    RL P n ops Q (⟨none, op, ty, pos, af, none⟩ :: rest) L w := by
  intro a h1 h2 h3
  refine wpList_plain rfl fun K hK => wp_of_opw ?_
  refine opw_mono (h a.eval h3.val) ?_
  rintro v w' ⟨s, rfl, hr⟩
  exact hK _ _ (hr _ h1 h2 h3)
end
def Ret (R : Value → World → Prop) : Ending → World → Prop := fun e w => match e with | .returned v => R v w | _ => False
theorem Ret.mono {P : Program} {f : FuncId} {args : Array Value} {w : World} {R R' : Value → World → Prop} (h : Calls P f args w (Ret R)) (hr : ∀ v w, R v w → R' v w) : Calls P f args w (Ret R') :=
  h.mono fun e w h => by cases e <;> first | exact hr _ _ h | exact h
def look1 (L : Lst) (r : ResultVar) : Option Value := match r with | .tmp t => (lkp t L).map SV.den | .cell _ _ => none
def resOf (rs : Array ResultVar) (L : Lst) : Option Value :=
  match rs.toList with
  | [] => some (.tuple #[])
  | [r] => look1 L r
  | [r1, r2] => match look1 L r1, look1 L r2 with | some a, some b => some (.tuple #[a, b]) | _, _ => none
  | [r1, r2, r3] => match look1 L r1, look1 L r2, look1 L r3 with | some a, some b, some c => some (.tuple #[a, b, c]) | _, _, _ => none
  | _ => none
def endp (rs : Array ResultVar) (R : Value → World → Prop) : Post := fun e L w => match e with | .normal | .ret => ∃ v, resOf rs L = some v ∧ R v w | _ => False
theorem look1_res {a : Act} {L : Lst} (h : Agr a L) {r : ResultVar} {v : Value} (hv : look1 L r = some v) : ∃ t, r = .tmp t ∧ a.tmps.getD t undef = v := by
  cases r with
  | tmp t =>
    simp only [look1, Option.map_eq_some_iff] at hv
    obtain ⟨s, hs, rfl⟩ := hv
    exact ⟨t, rfl, h t s hs⟩
  | cell x y => simp [look1] at hv
theorem results_of {P : Program} {fn : Func} {a : Act} {L : Lst} {v : Value} {w : World} (h : Agr a L) (hv : resOf fn.results L = some v) : (results fn a.tmps).run P w = .ok v w := by
  have hs : fn.results = fn.results.toList.toArray := by simp
  unfold resOf at hv
  generalize fn.results.toList = rs at hs hv
  match rs, hs, hv with
  | [], hs, hv => obtain rfl := Option.some.inj hv; exact results_none hs _ _ _
  | [r], hs, hv =>
    obtain ⟨t, rfl, ht⟩ := look1_res h hv
    rw [results_tmp hs, ht]
  | [r1, r2], hs, hv =>
    simp only at hv
    split at hv
    · rename_i x y h1 h2
      obtain ⟨t, rfl, ht⟩ := look1_res h h1
      obtain ⟨u, rfl, hu⟩ := look1_res h h2
      obtain rfl := Option.some.inj hv
      rw [results_tmp2 hs, ht, hu]
    · cases hv
  | [r1, r2, r3], hs, hv =>
    simp only at hv
    split at hv
    · rename_i x y z h1 h2 h3
      obtain ⟨t, rfl, ht⟩ := look1_res h h1
      obtain ⟨u, rfl, hu⟩ := look1_res h h2
      obtain ⟨s, rfl, hs'⟩ := look1_res h h3
      obtain rfl := Option.some.inj hv
      rw [results_tmp3 hs, ht, hu, hs']
    · cases hv
  | _ :: _ :: _ :: _ :: _, hs, hv => cases hv
def argL (k : Nat) : List SV → Lst
  | [] => []
  | v :: r => (k, v) :: argL (k + 1) r
theorem argL_lkp (vs : List SV) : ∀ (k t : Nat) (s : SV), lkp t (argL k vs) = some s → k ≤ t ∧ vs[t - k]? = some s := by
  induction vs with
  | nil => intro k t s h; cases h
  | cons v r ih =>
    intro k t s h
    rw [argL, lkp_cons] at h
    by_cases e : t = k
    · rw [if_pos e] at h
      obtain rfl := Option.some.inj h
      subst e
      exact ⟨Nat.le_refl _, by simp⟩
    · rw [if_neg e] at h
      obtain ⟨h1, h2⟩ := ih _ _ _ h
      refine ⟨by omega, ?_⟩
      rw [show t - k = (t - (k + 1)) + 1 from by omega, List.getElem?_cons_succ]
      exact h2
theorem calls_of_FW {P : Program} {f : FuncId} {fn : Func} {c : Code} {n : Nat} {rs : Array ResultVar} (ss : List SV) {w : World} {R : Value → World → Prop}
    (hf : P.funcs[f]? = some fn) (hb : fn.body = some c) (hn : fn.ntmps = n) (hrs : fn.results = rs) (hlen : Nat.ble ss.length n = true) (h : FW P n c (endp rs R) (argL 0 ss) w) : Calls P f (ss.map SV.den).toArray w (Ret R) := by
  subst hn
  subst hrs
  have hlen : ss.length ≤ fn.ntmps := by simpa using hlen
  refine calls_of_wp hf hb ?_
  have hsz : ((ss.map SV.den).toArray ++ Array.replicate (fn.ntmps - (ss.map SV.den).toArray.size) undef).size = fn.ntmps := by simp; omega
  refine wp_mono (h _ hsz rfl ?_) ?_
  · intro t s hs
    obtain ⟨_, hv⟩ := argL_lkp _ _ _ _ hs
    simp only [Nat.sub_zero] at hv
    have hlt : t < ss.length := (List.getElem?_eq_some_iff.1 hv).1
    rw [Array.getD_eq_getD_getElem?, Array.getElem?_append_left (by simpa using hlt)]
    simp [hv]
  · rintro e a w' ⟨i, j, L, k, q⟩
    cases e with
    | normal => obtain ⟨v, hv, hr⟩ := q; exact ⟨j, v, results_of k hv, hr⟩
    | ret => obtain ⟨v, hv, hr⟩ := q; exact ⟨j, v, results_of k hv, hr⟩
    | exit id => exact q.elim
    | goto l => exact q.elim
    | panic ch => exact q.elim
    | outgrown => exact q.elim
def endg (P : Program) (fn : Func) (R : Value → World → Prop) : Post := fun e L w => match e with | .normal | .ret => ∃ v, (∀ a : Act, Agr a L → (results fn a.tmps).run P w = .ok v w) ∧ R v w | _ => False
theorem calls_of_FWg {P : Program} {f : FuncId} {fn : Func} {c : Code} {n : Nat} (ss : List SV) {w : World} {R : Value → World → Prop}
    (hf : P.funcs[f]? = some fn) (hb : fn.body = some c) (hn : fn.ntmps = n) (hlen : Nat.ble ss.length n = true) (h : FW P n c (endg P fn R) (argL 0 ss) w) : Calls P f (ss.map SV.den).toArray w (Ret R) := by
  subst hn
  have hlen : ss.length ≤ fn.ntmps := by simpa using hlen
  refine calls_of_wp hf hb ?_
  have hsz : ((ss.map SV.den).toArray ++ Array.replicate (fn.ntmps - (ss.map SV.den).toArray.size) undef).size = fn.ntmps := by simp; omega
  refine wp_mono (h _ hsz rfl ?_) ?_
  · intro t s hs
    obtain ⟨_, hv⟩ := argL_lkp _ _ _ _ hs
    simp only [Nat.sub_zero] at hv
    have hlt : t < ss.length := (List.getElem?_eq_some_iff.1 hv).1
    rw [Array.getD_eq_getD_getElem?, Array.getElem?_append_left (by simpa using hlt)]
    simp [hv]
  · rintro e a w' ⟨i, j, L, k, q⟩
    cases e with
    | normal => obtain ⟨v, hv, hr⟩ := q; exact ⟨j, v, hv a k, hr⟩
    | ret => obtain ⟨v, hv, hr⟩ := q; exact ⟨j, v, hv a k, hr⟩
    | exit id => exact q.elim
    | goto l => exact q.elim
    | panic ch => exact q.elim
    | outgrown => exact q.elim
section
variable {P : Program} {n : Nat} {Q : Post} {L : Lst} {w : World} {next : Lst → World → Prop} {id id' : Nat}
theorem E_thn_n (h : next L w) : thn next Q .normal L w := h
theorem E_thn_x (h : Q (.exit id) L w) : thn next Q (.exit id) L w := h
theorem E_thn_r (h : Q .ret L w) : thn next Q .ret L w := h
theorem E_blk_n (h : Q .normal L w) : blk id Q .normal L w := h
theorem E_blk_x (h : Q .normal L w) : blk id Q (.exit id) L w := by simp only [blk, ↓reduceIte]; exact h
theorem E_blk_o (hne : Nat.beq id' id = false) (h : Q (.exit id') L w) : blk id Q (.exit id') L w := by
  have : id' ≠ id := fun e => by subst e; simp at hne
  simp only [blk]; rw [if_neg this]; exact h
theorem E_blk_r (h : Q .ret L w) : blk id Q .ret L w := h
theorem E_end_r {rs : Array ResultVar} {R : Value → World → Prop} {v : Value} (hv : resOf rs L = some v) (h : R v w) : endp rs R .ret L w := ⟨v, hv, h⟩
theorem E_end_n {rs : Array ResultVar} {R : Value → World → Prop} {v : Value} (hv : resOf rs L = some v) (h : R v w) : endp rs R .normal L w := ⟨v, hv, h⟩
end
end Go.Eng

namespace Go.Eng
open Go Go.RowKit
set_option linter.unusedVariables false
section
variable {P : Program} {L : Lst} {w : World} {ty : TypeId} {K : SV → World → Prop}
theorem OP_run {op : Op} {s : SV} {w' : World} (h : ∀ e, Val e L → (execOp e ⟨none, op, ty, "", #[], none⟩).run P w = .ok (.value s.den) w') (k : K s w') : OP P L op ty w K := by
  intro e he
  unfold opw
  rw [h e he]
  exact ⟨s, rfl, k⟩
theorem OP_move {x : Operand} {s : SV} (hx : evo L x = some s) (k : K s w) : OP P L (.move x) ty w K :=
  OP_run (fun e he => by simp [execOp, he x s hx]) k
theorem OP_assign {x : Operand} {s : SV} (hx : evo L x = some s) (k : K s w) : OP P L (.assign x) ty w K :=
  OP_run (fun e he => by simp [execOp, he x s hx]) k
theorem run_bin_int (op : BinOp) (t : TypeId) (x y : Operand) (yt : TypeId) (e : Operand → Value) {k k' : IntKind} {a b : Int} (ha : e x = .int k a) (hb : e y = .int k' b) :
    (execOp e ⟨none, .binOp op t x y yt, ty, "", #[], none⟩).run P w = ((binOp op t (.int k a) (.int k' b)).run P w).andThen fun v w' => .ok (.value v) w' := by
  have hg : (eqGuard op t x y (.int k a) (.int k' b)).run P w = .ok () w := by
    unfold eqGuard
    split <;> simp
  simp only [execOp, ha, hb, Sem.run_bind, hg, Result.andThen_ok]
  cases (binOp op t (.int k a) (.int k' b)).run P w <;> rfl
theorem OP_int {op : BinOp} {t yt : TypeId} {x y : Operand} {k k' : IntKind} {a b : Int} {s sx sy : SV} (hx : evo L x = some sx) (hy : evo L y = some sy) (ex : sx.den = .int k a) (ey : sy.den = .int k' b)
    (h : (binOp op t (.int k a) (.int k' b)).run P w = .ok s.den w) (hk : K s w) : OP P L (.binOp op t x y yt) ty w K :=
  OP_run (fun e he => by rw [run_bin_int op t x y yt e ((he x _ hx).trans ex) ((he y _ hy).trans ey), h]; rfl) hk
section i64
variable {t yt : TypeId} {x y : Operand} {a b : Int} (hx : evo L x = some (.v (.int .i64 a))) (hy : evo L y = some (.v (.int .i64 b)))
include hx hy
theorem OP_add (hb : -9223372036854775808 ≤ a + b ∧ a + b ≤ 9223372036854775807) (hk : K (.v (.int .i64 (a + b))) w) : OP P L (.binOp .add t x y yt) ty w K :=
  OP_int hx hy rfl rfl (by simp [binOp, Op.intArith, IntWalk.i64_in _ hb, SV.den]) hk
theorem OP_sub (hb : -9223372036854775808 ≤ a - b ∧ a - b ≤ 9223372036854775807) (hk : K (.v (.int .i64 (a - b))) w) : OP P L (.binOp .sub t x y yt) ty w K :=
  OP_int hx hy rfl rfl (by simp [binOp, Op.intArith, IntWalk.i64_in _ hb, SV.den]) hk
theorem OP_mul (hb : -9223372036854775808 ≤ a * b ∧ a * b ≤ 9223372036854775807) (hk : K (.v (.int .i64 (a * b))) w) : OP P L (.binOp .mul t x y yt) ty w K :=
  OP_int hx hy rfl rfl (by simp [binOp, Op.intArith, IntWalk.i64_in _ hb, SV.den]) hk
theorem OP_quo (hb : 0 ≤ a ∧ a ≤ 9223372036854775807 ∧ 1 ≤ b) (hk : K (.v (.int .i64 (a / b))) w) : OP P L (.binOp .quo t x y yt) ty w K :=
  OP_int hx hy rfl rfl (by simp [binOp, Op.intDiv, show ¬ b = 0 from by omega, IntWalk.i64_quo _ _ hb, SV.den]) hk
theorem OP_rem (hb : 0 ≤ a ∧ 1 ≤ b) (hk : K (.v (.int .i64 (a % b))) w) : OP P L (.binOp .rem t x y yt) ty w K :=
  OP_int hx hy rfl rfl (by simp [binOp, Op.intDiv, show ¬ b = 0 from by omega, IntWalk.rem_in _ _ hb.1, SV.den]) hk
end i64
theorem bits_i64_or (a b : Nat) (ha : a < 9223372036854775808) (hb : b < 9223372036854775808) : bits .or .i64 (a : Int) (b : Int) = ((a ||| b : Nat) : Int) := by
  have h : a ||| b < 2 ^ 63 := Nat.or_lt_two_pow (by omega) (by omega)
  show IntKind.i64.wrap (((BitVec.ofInt 64 (a : Int) ||| BitVec.ofInt 64 (b : Int)).toNat : Nat) : Int) = _
  have e : (BitVec.ofInt 64 (a : Int) ||| BitVec.ofInt 64 (b : Int)).toNat = a ||| b := by
    simp only [BitVec.ofInt_natCast, BitVec.toNat_or, BitVec.toNat_ofNat]
    rw [Nat.mod_eq_of_lt (by omega), Nat.mod_eq_of_lt (by omega)]
  rw [e]
  exact IntWalk.i64_in _ ⟨by omega, by omega⟩
def cmpB (op : BinOp) (a b : Int) : Bool := match op with
  | .eql => a == b
  | .neq => a != b
  | .lss => decide (a < b)
  | .leq => decide (a ≤ b)
  | .gtr => decide (a > b)
  | _ => decide (a ≥ b)
def isCmp : BinOp → Bool | .eql | .neq | .lss | .leq | .gtr | .geq => true | _ => false
def SV.num : SV → Option (IntKind × Int)
  | .v (.int k n) => some (k, n)
  | .u8 b => some (.u8, (b.toNat : Int))
  | .u32 b => some (.u32, (b.toNat : Int))
  | .u64 b => some (.u64, (b.toNat : Int))
  | _ => none
theorem SV.num_den {s : SV} {k : IntKind} {n : Int} (h : s.num = some (k, n)) : s.den = .int k n := by
  cases s with
  | v x => cases x <;> simp_all [SV.num, SV.den]
  | u8 b => simp only [SV.num, Option.some.injEq, Prod.mk.injEq] at h; obtain ⟨rfl, rfl⟩ := h; rfl
  | u32 b => simp only [SV.num, Option.some.injEq, Prod.mk.injEq] at h; obtain ⟨rfl, rfl⟩ := h; rfl
  | u64 b => simp only [SV.num, Option.some.injEq, Prod.mk.injEq] at h; obtain ⟨rfl, rfl⟩ := h; rfl
theorem run_cmp {op : BinOp} (ho : isCmp op = true) (t : TypeId) (k : IntKind) (a b : Int) : (binOp op t (.int k a) (.int k b)).run P w = .ok (SV.v (.bool (cmpB op a b))).den w := by
  cases op <;> first | (cases ho; done) | (simp [binOp, Op.intCmp, cmpB, SV.den]; done) | (simp only [binOp, ne_eq, not_true_eq_false, if_false, Op.intCmp, cmpB, SV.den]; rfl)
theorem OP_cmp {op : BinOp} {t yt : TypeId} {x y : Operand} {sx sy : SV} {k : IntKind} {a b : Int} (ho : isCmp op = true) (hx : evo L x = some sx) (hy : evo L y = some sy) (ex : sx.num = some (k, a)) (ey : sy.num = some (k, b))
    (hk : K (.v (.bool (cmpB op a b))) w) : OP P L (.binOp op t x y yt) ty w K :=
  OP_int hx hy (SV.num_den ex) (SV.num_den ey) (run_cmp ho t k a b) hk
theorem wrap_u8 (n : Nat) : IntKind.u8.wrap (n : Int) = ((UInt8.ofNat n).toNat : Int) := by
  simp [IntKind.wrap_u8]
theorem wrap_u32 (n : Nat) : IntKind.u32.wrap (n : Int) = ((UInt32.ofNat n).toNat : Int) := by
  simp [IntKind.wrap_u32]
theorem wrap_u64 (n : Nat) : IntKind.u64.wrap (n : Int) = ((UInt64.ofNat n).toNat : Int) := by
  simp [IntKind.wrap, IntKind.bits, IntKind.signed]
def bop8 : BinOp → UInt8 → UInt8 → UInt8
  | .add, a, b => a + b | .sub, a, b => a - b | .mul, a, b => a * b | .and, a, b => a &&& b | .or, a, b => a ||| b | .xor, a, b => a ^^^ b | _, a, _ => a
def bop32 : BinOp → UInt32 → UInt32 → UInt32
  | .add, a, b => a + b | .sub, a, b => a - b | .mul, a, b => a * b | .and, a, b => a &&& b | .or, a, b => a ||| b | .xor, a, b => a ^^^ b | _, a, _ => a
def bop64 : BinOp → UInt64 → UInt64 → UInt64
  | .add, a, b => a + b | .sub, a, b => a - b | .mul, a, b => a * b | .and, a, b => a &&& b | .or, a, b => a ||| b | .xor, a, b => a ^^^ b | _, a, _ => a
def isBop : BinOp → Bool | .add | .sub | .mul | .and | .or | .xor => true | _ => false
theorem sub_wrap (m a b : Nat) (hb : b ≤ m) (hm : 0 < m) : ((a : Int) - b) % m = ((m - b + a) % m : Nat) := by
  rw [Int.natCast_emod, Int.natCast_add, Int.natCast_sub hb, show ((m : Int) - b + a) = (a - b) + m from by omega, Int.add_emod_right]
theorem run_bop8 {op : BinOp} (ho : isBop op = true) (t : TypeId) (a b : UInt8) : (binOp op t (byteV a) (byteV b)).run P w = .ok (byteV (bop8 op a b)) w := by
  have ha := a.toNat_lt
  have hb := b.toNat_lt
  cases op <;> first | cases ho | skip
  · simp only [byteV, binOp, Op.intArith, bop8, ne_eq, not_true_eq_false, if_false, Sem.run_pure]
    rw [← Int.natCast_add, wrap_u8, ← UInt8.ofNat_toNat (x := a + b), UInt8.toNat_add]; simp
  · simp only [byteV, binOp, Op.intArith, bop8, ne_eq, not_true_eq_false, if_false, Sem.run_pure]
    rw [IntKind.wrap_u8, UInt8.toNat_sub, ← sub_wrap 256 _ _ (by omega) (by omega)]; rfl
  · simp only [byteV, binOp, Op.intArith, bop8, ne_eq, not_true_eq_false, if_false, Sem.run_pure]
    rw [← Int.natCast_mul, wrap_u8, UInt8.toNat_mul]; simp
  · show Result.ok (Value.int .u8 (IntKind.u8.wrap (((BitVec.ofInt 8 (a.toNat : Int) &&& BitVec.ofInt 8 (b.toNat : Int)).toNat : Nat) : Int))) w = .ok (.int .u8 ((a &&& b).toNat : Int)) w
    rw [wrap_u8]; simp
  · show Result.ok (Value.int .u8 (IntKind.u8.wrap (((BitVec.ofInt 8 (a.toNat : Int) ||| BitVec.ofInt 8 (b.toNat : Int)).toNat : Nat) : Int))) w = .ok (.int .u8 ((a ||| b).toNat : Int)) w
    rw [wrap_u8]; simp
  · show Result.ok (Value.int .u8 (IntKind.u8.wrap (((BitVec.ofInt 8 (a.toNat : Int) ^^^ BitVec.ofInt 8 (b.toNat : Int)).toNat : Nat) : Int))) w = .ok (.int .u8 ((a ^^^ b).toNat : Int)) w
    rw [wrap_u8]; simp
theorem run_bop32 {op : BinOp} (ho : isBop op = true) (t : TypeId) (a b : UInt32) : (binOp op t (wordV a) (wordV b)).run P w = .ok (wordV (bop32 op a b)) w := by
  have ha := a.toNat_lt
  have hb := b.toNat_lt
  cases op <;> first | cases ho | skip
  · simp only [wordV, binOp, Op.intArith, bop32, ne_eq, not_true_eq_false, if_false, Sem.run_pure]
    rw [← Int.natCast_add, wrap_u32, UInt32.toNat_add]; simp
  · simp only [wordV, binOp, Op.intArith, bop32, ne_eq, not_true_eq_false, if_false, Sem.run_pure]
    rw [IntKind.wrap_u32, UInt32.toNat_sub, ← sub_wrap 4294967296 _ _ (by omega) (by omega)]; rfl
  · simp only [wordV, binOp, Op.intArith, bop32, ne_eq, not_true_eq_false, if_false, Sem.run_pure]
    rw [← Int.natCast_mul, wrap_u32, UInt32.toNat_mul]; simp
  · show Result.ok (Value.int .u32 (IntKind.u32.wrap (((BitVec.ofInt 32 (a.toNat : Int) &&& BitVec.ofInt 32 (b.toNat : Int)).toNat : Nat) : Int))) w = .ok (.int .u32 ((a &&& b).toNat : Int)) w
    rw [wrap_u32]; simp
  · show Result.ok (Value.int .u32 (IntKind.u32.wrap (((BitVec.ofInt 32 (a.toNat : Int) ||| BitVec.ofInt 32 (b.toNat : Int)).toNat : Nat) : Int))) w = .ok (.int .u32 ((a ||| b).toNat : Int)) w
    rw [wrap_u32]; simp
  · show Result.ok (Value.int .u32 (IntKind.u32.wrap (((BitVec.ofInt 32 (a.toNat : Int) ^^^ BitVec.ofInt 32 (b.toNat : Int)).toNat : Nat) : Int))) w = .ok (.int .u32 ((a ^^^ b).toNat : Int)) w
    rw [wrap_u32]; simp
theorem run_bop64 {op : BinOp} (ho : isBop op = true) (t : TypeId) (a b : UInt64) : (binOp op t (longV a) (longV b)).run P w = .ok (longV (bop64 op a b)) w := by
  have ha := a.toNat_lt
  have hb := b.toNat_lt
  cases op <;> first | cases ho | skip
  · simp only [longV, binOp, Op.intArith, bop64, ne_eq, not_true_eq_false, if_false, Sem.run_pure]
    rw [← Int.natCast_add, wrap_u64, UInt64.toNat_add]; simp
  · simp only [longV, binOp, Op.intArith, bop64, ne_eq, not_true_eq_false, if_false, Sem.run_pure]
    rw [show IntKind.u64.wrap ((a.toNat : Int) - b.toNat) = ((a.toNat : Int) - b.toNat) % (18446744073709551616 : Nat) from by simp [IntKind.wrap, IntKind.bits, IntKind.signed], UInt64.toNat_sub, ← sub_wrap 18446744073709551616 _ _ (by omega) (by omega)]
  · simp only [longV, binOp, Op.intArith, bop64, ne_eq, not_true_eq_false, if_false, Sem.run_pure]
    rw [← Int.natCast_mul, wrap_u64, UInt64.toNat_mul]; simp
  · show Result.ok (Value.int .u64 (IntKind.u64.wrap (((BitVec.ofInt 64 (a.toNat : Int) &&& BitVec.ofInt 64 (b.toNat : Int)).toNat : Nat) : Int))) w = .ok (.int .u64 ((a &&& b).toNat : Int)) w
    rw [wrap_u64]; simp
  · show Result.ok (Value.int .u64 (IntKind.u64.wrap (((BitVec.ofInt 64 (a.toNat : Int) ||| BitVec.ofInt 64 (b.toNat : Int)).toNat : Nat) : Int))) w = .ok (.int .u64 ((a ||| b).toNat : Int)) w
    rw [wrap_u64]; simp
  · show Result.ok (Value.int .u64 (IntKind.u64.wrap (((BitVec.ofInt 64 (a.toNat : Int) ^^^ BitVec.ofInt 64 (b.toNat : Int)).toNat : Nat) : Int))) w = .ok (.int .u64 ((a ^^^ b).toNat : Int)) w
    rw [wrap_u64]; simp
theorem OP_b32 {op : BinOp} {t yt : TypeId} {x y : Operand} {a b : UInt32} (ho : isBop op = true) (hx : evo L x = some (.u32 a)) (hy : evo L y = some (.u32 b)) (hk : K (.u32 (bop32 op a b)) w) : OP P L (.binOp op t x y yt) ty w K :=
  OP_int hx hy rfl rfl (run_bop32 ho t a b) hk
theorem OP_b64 {op : BinOp} {t yt : TypeId} {x y : Operand} {a b : UInt64} (ho : isBop op = true) (hx : evo L x = some (.u64 a)) (hy : evo L y = some (.u64 b)) (hk : K (.u64 (bop64 op a b)) w) : OP P L (.binOp op t x y yt) ty w K :=
  OP_int hx hy rfl rfl (run_bop64 ho t a b) hk
theorem OP_xor32 {t : TypeId} {x : Operand} {a : UInt32} (hx : evo L x = some (.u32 a)) (hk : K (.u32 (~~~a)) w) : OP P L (.unOp .xor t x) ty w K :=
  OP_run (fun e he => by
    rw [show execOp e ⟨none, .unOp .xor t x, ty, "", #[], none⟩ = (do pure (.value (← Op.unary .xor (e x)))) from rfl, he x _ hx]
    have h1 : Op.unary .xor (SV.u32 a).den = pure (.int .u32 (IntKind.u32.wrap (((BitVec.ofInt 32 4294967295 ^^^ BitVec.ofInt 32 (a.toNat : Int)).toNat : Nat) : Int))) := rfl
    rw [h1, wrap_u32, show BitVec.ofInt 32 4294967295 = BitVec.allOnes 32 from by decide, BitVec.allOnes_xor]
    have := a.toNat_lt
    simp [SV.den, wordV]
    omega) hk
theorem run_sh32r (t : TypeId) (a : UInt32) (yk : IntKind) (c : Nat) (hc : c < 32) : (binOp .shr t (wordV a) (.int yk (c : Int))).run P w = .ok (wordV (a >>> UInt32.ofNat c)) w := by
  have h1 : (binOp .shr t (wordV a) (.int yk (c : Int))) = Op.shift .shr .u32 (a.toNat : Int) yk (c : Int) := rfl
  rw [h1, shift_shr _ _ _ _ (by omega) (by simp [IntKind.bits]; omega)]
  simp only [Sem.run_pure, wordV, Int.toNat_natCast]
  congr 2
  rw [UInt32.toNat_shiftRight, UInt32.toNat_ofNat', Nat.shiftRight_eq_div_pow, Nat.mod_eq_of_lt (show c < 2 ^ 32 by omega), Nat.mod_eq_of_lt hc]
  simp
theorem run_sh32l (t : TypeId) (a : UInt32) (yk : IntKind) (c : Nat) (hc : c < 32) : (binOp .shl t (wordV a) (.int yk (c : Int))).run P w = .ok (wordV (a <<< UInt32.ofNat c)) w := by
  have h1 : (binOp .shl t (wordV a) (.int yk (c : Int))) = Op.shift .shl .u32 (a.toNat : Int) yk (c : Int) := rfl
  rw [h1, shift_shl _ _ _ _ (by omega) (by simp [IntKind.bits]; omega)]
  simp only [Sem.run_pure, wordV, Int.toNat_natCast]
  congr 2
  rw [UInt32.toNat_shiftLeft, UInt32.toNat_ofNat', Nat.shiftLeft_eq, Nat.mod_eq_of_lt (show c < 2 ^ 32 by omega), Nat.mod_eq_of_lt hc]
  rw [show ((a.toNat : Int) * 2 ^ c) = ((a.toNat * 2 ^ c : Nat) : Int) from by simp, wrap_u32]
  simp
theorem run_sh64r (t : TypeId) (a : UInt64) (yk : IntKind) (c : Nat) (hc : c < 64) : (binOp .shr t (longV a) (.int yk (c : Int))).run P w = .ok (longV (a >>> UInt64.ofNat c)) w := by
  have h1 : (binOp .shr t (longV a) (.int yk (c : Int))) = Op.shift .shr .u64 (a.toNat : Int) yk (c : Int) := rfl
  rw [h1, shift_shr _ _ _ _ (by omega) (by simp [IntKind.bits]; omega)]
  simp only [Sem.run_pure, longV, Int.toNat_natCast]
  congr 2
  rw [UInt64.toNat_shiftRight, UInt64.toNat_ofNat', Nat.shiftRight_eq_div_pow, Nat.mod_eq_of_lt (show c < 2 ^ 64 by omega), Nat.mod_eq_of_lt hc]
  simp
section shifts
variable {t yt : TypeId} {x y : Operand}
theorem OP_shr32 {a : UInt32} {yk : IntKind} {c : Nat} {sy : SV} (hx : evo L x = some (.u32 a)) (hy : evo L y = some sy) (ey : sy.num = some (yk, (c : Int))) (hc : c < 32) (hk : K (.u32 (a >>> UInt32.ofNat c)) w) : OP P L (.binOp .shr t x y yt) ty w K :=
  OP_int hx hy rfl (SV.num_den ey) (run_sh32r t a yk c hc) hk
theorem OP_shl32 {a : UInt32} {yk : IntKind} {c : Nat} {sy : SV} (hx : evo L x = some (.u32 a)) (hy : evo L y = some sy) (ey : sy.num = some (yk, (c : Int))) (hc : c < 32) (hk : K (.u32 (a <<< UInt32.ofNat c)) w) : OP P L (.binOp .shl t x y yt) ty w K :=
  OP_int hx hy rfl (SV.num_den ey) (run_sh32l t a yk c hc) hk
theorem OP_shr64 {a : UInt64} {yk : IntKind} {c : Nat} {sy : SV} (hx : evo L x = some (.u64 a)) (hy : evo L y = some sy) (ey : sy.num = some (yk, (c : Int))) (hc : c < 64) (hk : K (.u64 (a >>> UInt64.ofNat c)) w) : OP P L (.binOp .shr t x y yt) ty w K :=
  OP_int hx hy rfl (SV.num_den ey) (run_sh64r t a yk c hc) hk
theorem OP_shr64i {a : UInt64} {yk : IntKind} {c : Int} {sy : SV} (hx : evo L x = some (.u64 a)) (hy : evo L y = some sy) (ey : sy.num = some (yk, c)) (hc : 0 ≤ c ∧ c < 64) (hk : K (.u64 (a >>> UInt64.ofNat c.toNat)) w) : OP P L (.binOp .shr t x y yt) ty w K :=
  OP_shr64 (c := c.toNat) hx hy (by rw [ey]; congr 2; omega) (by omega) hk
end shifts
theorem OP_umul {t yt : TypeId} {x y : Operand} {sx sy : SV} {a b : Int} (hx : evo L x = some sx) (hy : evo L y = some sy) (ex : sx.num = some (.u64, a)) (ey : sy.num = some (.u64, b)) (hb : 0 ≤ a * b ∧ a * b ≤ 18446744073709551615)
    (hk : K (.v (.int .u64 (a * b))) w) : OP P L (.binOp .mul t x y yt) ty w K :=
  OP_int hx hy (SV.num_den ex) (SV.num_den ey) (by simp [binOp, Op.intArith, IntWalk.u64_in _ hb, SV.den]) hk
theorem run_conv (src dst : TypeId) (k k' : IntKind) (a : Int) {d : TypeDesc} (hs : P.underlying src = some d) (hd : P.underlying dst = some (.int k')) :
    (convert src dst (.int k a)).run P w = .ok (.int k' (k'.wrap a)) w := by
  unfold convert
  simp only [Sem.run_bind, run_underlying hs, run_underlying hd, Result.andThen_ok]
  rfl
section conv
variable {src dst : TypeId} {x : Operand} {d : TypeDesc}
theorem OP_conv {k k' : IntKind} {a : Int} {sx s : SV} (hs : P.underlying src = some d) (hd : P.underlying dst = some (.int k')) (hx : evo L x = some sx) (ex : sx.num = some (k, a)) (es : s.den = .int k' (k'.wrap a)) (hk : K s w) : OP P L (.convert src dst x) ty w K :=
  OP_run (fun e he => by
    have h1 : execOp e ⟨none, .convert src dst x, ty, "", #[], none⟩ = (do pure (.value (← convert src dst (e x)))) := rfl
    rw [h1, he x _ hx, SV.num_den ex, es]
    simp only [Sem.run_bind, run_conv src dst k k' a hs hd, Result.andThen_ok, Sem.run_pure]) hk
theorem wrap_u8_int (a : Int) : IntKind.u8.wrap a = ((UInt8.ofInt a).toNat : Int) := by
  rw [IntKind.wrap_u8]; simp [UInt8.ofInt]; omega
theorem wrap_u32_int (a : Int) : IntKind.u32.wrap a = ((UInt32.ofInt a).toNat : Int) := by
  rw [IntKind.wrap_u32]; simp [UInt32.ofInt]; omega
theorem wrap_u64_int (a : Int) : IntKind.u64.wrap a = ((UInt64.ofInt a).toNat : Int) := by
  simp [IntKind.wrap, IntKind.bits, IntKind.signed, UInt64.ofInt]; omega
theorem OP_c64 {a : Int} (hs : P.underlying src = some d) (hd : P.underlying dst = some (.int .u64)) (hx : evo L x = some (.v (.int .i64 a))) (hk : K (.u64 (UInt64.ofInt a)) w) : OP P L (.convert src dst x) ty w K :=
  OP_conv hs hd hx rfl (by rw [wrap_u64_int]; rfl) hk
theorem OP_cnt {a : Int} (hs : P.underlying src = some d) (hd : P.underlying dst = some (.int .u64)) (hx : evo L x = some (.v (.int .i64 a))) (hb : 0 ≤ a ∧ a ≤ 9223372036854775807) (hk : K (.v (.int .u64 a)) w) : OP P L (.convert src dst x) ty w K :=
  OP_conv hs hd hx rfl (by rw [IntWalk.u64_in _ (by omega)]; rfl) hk
theorem OP_c8_32 {b : UInt8} (hs : P.underlying src = some d) (hd : P.underlying dst = some (.int .u32)) (hx : evo L x = some (.u8 b)) (hk : K (.u32 b.toUInt32) w) : OP P L (.convert src dst x) ty w K :=
  OP_conv hs hd hx rfl (by have := b.toNat_lt; rw [IntWalk.u32_in _ (by omega)]; simp [SV.den, wordV]) hk
theorem OP_c32_8 {b : UInt32} (hs : P.underlying src = some d) (hd : P.underlying dst = some (.int .u8)) (hx : evo L x = some (.u32 b)) (hk : K (.u8 b.toUInt8) w) : OP P L (.convert src dst x) ty w K :=
  OP_conv hs hd hx rfl (by rw [IntKind.wrap_u8]; simp [SV.den, byteV]) hk
theorem OP_c64_8 {b : UInt64} (hs : P.underlying src = some d) (hd : P.underlying dst = some (.int .u8)) (hx : evo L x = some (.u64 b)) (hk : K (.u8 b.toUInt8) w) : OP P L (.convert src dst x) ty w K :=
  OP_conv hs hd hx rfl (by rw [IntKind.wrap_u8]; simp [SV.den, byteV]) hk
end conv
end
end Go.Eng

namespace Go.Eng
open Go Go.RowKit
set_option linter.unusedVariables false
abbrev Ext (w w' : World) : Prop := Below w.heap.size w w'
theorem Ext.refl (w : World) : Ext w w := Below.refl _ _
theorem Ext.trans {a b c : World} (h : Ext a b) (k : Ext b c) : Ext a c := Below.trans h (Below.mono k h.size)
theorem Ext.alloc (w : World) (o : Obj) : Ext w (w.alloc o) := (Below.refl _ _).alloc (Nat.le_refl _) o
theorem Ext.drew (w : World) : Ext w w.drew := (Below.refl _ _).drew
theorem Ext.grown {w0 w w' : World} {r : Option Nat} (h : Ext w0 w) (hg : w.grownBy w' r) (hr : ∀ k, r = some k → w0.heap.size ≤ k) : Ext w0 w' := Below.grown h hg h.size hr
theorem Ext.below {w0 w w' : World} {B : Nat} (h : Ext w0 w) (hg : Below B w w') (hB : w0.heap.size ≤ B) : Ext w0 w' := Below.trans h (hg.mono hB)
theorem grownBy.trans {a b c : World} {r : Option Nat} (h : a.grownBy b r) (k : b.grownBy c r) : a.grownBy c r :=
  ⟨k.os.trans h.os, k.tape.trans h.tape, k.output.trans h.output, Nat.le_trans h.size k.size, fun i hi hr => (k.block i (Nat.lt_of_lt_of_le hi h.size) hr).trans (h.block i hi hr)⟩
theorem grownBy.ext {a b c : World} {r : Option Nat} (h : a.grownBy b r) (k : Ext b c) : a.grownBy c r :=
  ⟨k.os.trans h.os, k.tape.trans h.tape, k.output.trans h.output, Nat.le_trans h.size k.size, fun i hi hr => (k.block i (Nat.lt_of_lt_of_le hi h.size)).trans (h.block i hi hr)⟩
theorem grownBy.of_ext {a b : World} (k : Ext a b) (r : Option Nat) : a.grownBy b r :=
  ⟨k.os, k.tape, k.output, k.size, fun i hi _ => k.block i hi⟩
theorem add_add (p : Addr) (i j : Nat) : (p.add i).add j = p.add (i + j) := by
  unfold Addr.add
  by_cases hi : i = 0
  · subst hi; simp
  · by_cases hj : j = 0
    · subst hj; simp
    · simp [hi, hj]; omega
theorem add_block (p : Addr) (i : Nat) : (p.add i).block = p.block := by unfold Addr.add; split <;> rfl
def Cs (w : World) (p : Addr) (cells : List Value) : Prop := ∀ j u, cells[j]? = some u → w.cell? (p.add j) = some u
theorem cell_ext {w w' : World} {p : Addr} {u : Value} (h : w.cell? p = some u) (he : Ext w w') : w'.cell? p = some u :=
  (he.cell (World.block_lt_of_cell? w p h)).trans h
theorem cell_grown {w w' : World} {p : Addr} {u : Value} {r : Option Nat} (h : w.cell? p = some u) (hg : w.grownBy w' r) (hne : r ≠ some p.block) : w'.cell? p = some u :=
  hg.cell h (fun e => hne e.symm)
theorem Cs.ext {w w' : World} {p : Addr} {c : List Value} (h : Cs w p c) (he : Ext w w') : Cs w' p c := fun j u hu => cell_ext (h j u hu) he
theorem Cs.grown {w w' : World} {p : Addr} {c : List Value} {r : Option Nat} (h : Cs w p c) (hg : w.grownBy w' r) (hne : r ≠ some p.block) : Cs w' p c :=
  fun j u hu => cell_grown (h j u hu) hg (by rw [add_block]; exact hne)
theorem Cs.drop {w : World} {p : Addr} {c : List Value} (h : Cs w p c) (k : Nat) : Cs w (p.add k) (c.drop k) := fun j u hu => by
  rw [add_add]; exact h _ u (by rw [← hu, List.getElem?_drop])
theorem Cs.take {w : World} {p : Addr} {c : List Value} (h : Cs w p c) (k : Nat) : Cs w p (c.take k) := fun j u hu => by
  rw [List.getElem?_take] at hu
  split at hu
  · exact h j u hu
  · cases hu
def Sl (w : World) (sz : Nat) (v : Value) (cells : List Value) (n : Nat) : Prop :=
  ∃ a cap, v = .slice a n cap ∧ cells.length = n * sz ∧ n ≤ cap ∧ cap ≤ maxLen ∧ (a = none → n = 0 ∧ cap = 0) ∧ ∀ p, a = some p → Cs w p cells
def Tight (v : Value) : Prop := ∃ a n, v = .slice a n n
def Under (B : Nat) (v : Value) : Prop := ∀ g, v.ownBlock = some g → g < B
theorem Sl.ext {w w' : World} {sz n : Nat} {v : Value} {c : List Value} (h : Sl w sz v c n) (he : Ext w w') : Sl w' sz v c n := by
  obtain ⟨a, cap, h1, h2, h3, h4, h5, h6⟩ := h
  exact ⟨a, cap, h1, h2, h3, h4, h5, fun p hp => (h6 p hp).ext he⟩
theorem Sl.grown {w w' : World} {sz n : Nat} {v : Value} {c : List Value} {r : Option Nat} (h : Sl w sz v c n) (hg : w.grownBy w' r) (hne : ∀ g, v.ownBlock = some g → r ≠ some g) : Sl w' sz v c n := by
  obtain ⟨a, cap, h1, h2, h3, h4, h5, h6⟩ := h
  refine ⟨a, cap, h1, h2, h3, h4, h5, fun p hp => (h6 p hp).grown hg ?_⟩
  subst hp; subst h1
  exact hne p.block rfl
theorem Sl.len {w : World} {sz n : Nat} {v : Value} {c : List Value} (h : Sl w sz v c n) : c.length = n * sz := by obtain ⟨_, _, _, h, _⟩ := h; exact h
theorem Sl.max {w : World} {sz n : Nat} {v : Value} {c : List Value} (h : Sl w sz v c n) : n ≤ maxLen := by obtain ⟨_, _, _, _, h, h', _⟩ := h; exact Nat.le_trans h h'
theorem Sl.nil (w : World) (sz : Nat) : Sl w sz (.slice none 0 0) [] 0 := ⟨none, 0, rfl, by simp, Nat.le_refl _, by simp [maxLen], fun _ => ⟨rfl, rfl⟩, fun p hp => by cases hp⟩
theorem Sl.of_own {w : World} {base e sz n : Nat} {v : Value} {c : List Value} (h : w.ownsRow base e sz v n c) : Sl w sz v c n := by
  have hl := h.1
  rcases h.2 with ⟨rfl, rfl⟩ | ⟨g, cap, cur, rfl, hb, hh, hn, hm, hs, ht⟩
  · have : c = [] := List.eq_nil_of_length_eq_zero (by simpa using hl)
    subst this; exact Sl.nil w sz
  · exact ⟨some ⟨g, 0, none⟩, cap, rfl, hl, hn, hm, (fun h => by cases h), fun p hp => by obtain rfl := Option.some.inj hp; exact fun j u hu => h.cells rfl j u hu⟩
abbrev Bytes (w : World) (v : Value) (l : List UInt8) : Prop := Sl w 1 v (l.map byteV) l.length
abbrev Words (w : World) (v : Value) (l : List UInt32) : Prop := Sl w 1 v (l.map wordV) l.length
def intV (n : Int) : Value := .int .i64 n
abbrev Ints (w : World) (v : Value) (l : List Int) : Prop := Sl w 1 v (l.map intV) l.length
structure SliceT (P : Program) (t e : TypeId) (z : Value) (sz bytes : Nat) : Prop where
  ht : P.underlying t = some (.slice e)
  hi : (P.info? e).map (fun i => (i.zero, i.size, i.bytes)) = some (some z, sz, bytes)
  hzs : z.cells.size = sz
  hsz : 0 < sz
section
variable {P : Program} {L : Lst} {w : World} {ty : TypeId} {K : SV → World → Prop} {t e sz bytes : Nat} {z : Value}
theorem SliceT.run_size (T : SliceT P t e z sz bytes) (w : World) : (sizeOf e).run P w = .ok sz w := by
  obtain ⟨i, h1, h2, h3, h4⟩ := info_parts T.hi
  simp [sizeOf, typeInfo, h1, h3]
theorem run_builtin (ρ : Operand → Value) (b : Builtin) (args : Array Operand) (ats : Array TypeId) {v : Value} {w' : World}
    (h : (builtin b ats ty (args.map fun | .const _ => true | _ => false) (args.map ρ)).run P w = .ok (.value v) w') :
    (execOp ρ ⟨none, .call { callee := .builtin b, args := args, argTypes := ats }, ty, "", #[], none⟩).run P w = .ok (.value v) w' := by
  have h1 : execOp ρ ⟨none, .call { callee := .builtin b, args := args, argTypes := ats }, ty, "", #[], none⟩ = (do let d ← resolve ρ { callee := .builtin b, args := args, argTypes := ats } ty; invoke d.target d.args) := rfl
  rw [h1]
  simp only [resolve, Sem.run_bind, Sem.run_pure, Result.andThen_ok, invoke]
  exact h
theorem OP_len {x : Operand} {v : Value} {c : List Value} {n : Nat} (ht : P.underlying t = some (.slice e)) (hx : evo L x = some (.v v)) (hv : Sl w sz v c n) (hk : K (.v (.int .i64 (n : Int))) w) :
    OP P L (.call { callee := .builtin .len, args := #[x], argTypes := #[t] }) ty w K :=
  OP_run (fun ρ he => run_builtin ρ _ _ _ (by
    obtain ⟨a, cap, rfl, _⟩ := hv
    have h1 : ρ x = .slice a n cap := he x _ hx
    simp [builtin, Builtin.len_, h1, run_underlying ht, goInt, SV.den])) hk
theorem OP_append {s x : Operand} {v u : Value} {n m base : Nat} {xs news : List Value} (T : SliceT P t e z sz bytes) (hs : evo L s = some (.v v)) (hx : evo L x = some (.v u)) (hown : w.ownsRow base e sz v n xs) (hsl : Sl w sz u news m)
    (h1 : ∀ c ∈ news, c.oneCell' = true) (hb : n + m ≤ maxLen ∧ (n + m) * bytes ≤ 140737488355328) (hbase : base ≤ w.heap.size)
    (hk : ∀ v' w', w'.ownsRow base e sz v' (n + m) (xs ++ news) → Below base w w' → w.grownBy w' v.ownBlock → K (.v v') w') :
    OP P L (.call { callee := .builtin .append, args := #[s, x], argTypes := #[t, t] }) ty w K := by
  obtain ⟨i, hi, hz, hsize, hby⟩ := info_parts T.hi
  obtain ⟨a, cap, rfl, hl, _, _, hnone, hcs⟩ := hsl
  have fin : ∀ v' w', (Builtin.append_ #[t, t] ty #[v, .slice a m cap]).run P w = .ok v' w' → K (.v v') w' → OP P L (.call { callee := .builtin .append, args := #[s, x], argTypes := #[t, t] }) ty w K := by
    intro v' w' hr hk
    refine OP_run (s := .v v') (fun ρ he => run_builtin ρ _ _ _ ?_) hk
    have e1 : ρ s = v := he s _ hs
    have e2 : ρ x = .slice a m cap := he x _ hx
    simp only [builtin, List.map_toArray, List.map_cons, List.map_nil, e1, e2, Sem.run_bind, hr, Result.andThen_ok, Sem.run_pure, SV.den]
  have bel : ∀ w', w.grownBy w' v.ownBlock → Below base w w' := fun w' hg => (Below.refl base w).grown hg hbase (fun k hk => (hown.lt k hk).1)
  cases a with
  | none =>
    obtain ⟨rfl, rfl⟩ := hnone rfl
    have hn0 : news = [] := List.eq_nil_of_length_eq_zero (by simpa using hl)
    subst hn0
    have hr := run_append_owned_none (P := P) w base t ty e i sz T.ht hi v n xs hown
    exact fin _ _ hr (hk v w (by simpa using hown) (Below.refl _ _) (World.grownBy.refl _ _))
  | some p =>
    obtain ⟨v', w', hr, h2, h3, h4⟩ := run_append_own (P := P) w base t ty e i z sz bytes T.ht hi hz hsize hby T.hzs T.hsz v n xs hown p m cap news hl (hcs p rfl) h1 hb.1 hb.2 hbase
    exact fin _ _ hr (hk v' w' h2 (bel _ h3) h3)
end
end Go.Eng

namespace Go.Eng
open Go Go.RowKit
set_option linter.unusedVariables false
section
variable {P : Program} {L : Lst} {w : World} {ty : TypeId} {K : SV → World → Prop} {t e sz bytes : Nat} {z : Value}
theorem cut_sl {a : Option Addr} {n cap lo hi mx sz : Nat} {c : List Value} (hl : c.length = n * sz) (h3 : n ≤ cap) (h4 : cap ≤ maxLen) (h5 : a = none → n = 0 ∧ cap = 0) (h6 : ∀ p, a = some p → Cs w p c)
    (b1 : lo ≤ hi) (b2 : hi ≤ n) (b3 : hi ≤ mx) (b4 : mx ≤ cap) :
    Sl w sz (.slice (if mx = lo then a else a.map (·.add (lo * sz))) (hi - lo) (mx - lo)) ((c.drop (lo * sz)).take ((hi - lo) * sz)) (hi - lo) := by
  refine ⟨_, _, rfl, ?_, by omega, by omega, ?_, ?_⟩
  · rw [List.length_take, List.length_drop, hl]
    have h1 : hi * sz ≤ n * sz := Nat.mul_le_mul_right _ b2
    rw [Nat.sub_mul]; omega
  · intro h
    split at h
    · have := h5 h; omega
    · cases a with
      | none => have := h5 rfl; omega
      | some p => simp at h
  · intro p hp
    split at hp
    · have : hi - lo = 0 := by omega
      rw [this]; simp [Cs]
    · cases a with
      | none => simp at hp
      | some q =>
        simp only [Option.map_some, Option.some.injEq] at hp
        subst hp
        exact ((h6 q rfl).drop _).take _
theorem ownBlock_cut (a : Option Addr) (m l k n c n' c' : Nat) : (Value.slice (if m = l then a else a.map (·.add k)) n c).ownBlock = (Value.slice a n' c').ownBlock := by
  by_cases h : m = l
  · rw [if_pos h]; cases a <;> rfl
  · rw [if_neg h]
    cases a with
    | none => rfl
    | some p => simp [Value.ownBlock, add_block]
theorem run_slice_op (T : SliceT P t e z sz bytes) {a : Option Addr} {n cap : Nat} (lo hi mx : Option Value) (l h m : Nat)
    (hb : (Instr.sliceBounds true n cap lo hi mx).run P w = .ok (l, h, m) w) :
    (Instr.sliceAt t (.slice a n cap) lo hi mx).run P w = .ok (.slice (if m = l then a else a.map (·.add (l * sz))) (h - l) (m - l)) w := by
  simp only [Instr.sliceAt, Sem.run_bind, run_underlying T.ht, Result.andThen_ok, Instr.slice, hb, T.run_size, Sem.run_pure]
theorem bound_ok (k : IntKind) (i : Int) (y : Nat) (code : BoundsCode) (h0 : 0 ≤ i) (h1 : i ≤ y) : (Instr.sliceBound (.int k i) y code).run P w = .ok i.toNat w := by
  simp [Instr.sliceBound, asIntOf, h0, h1]
theorem OP_slice_core {x : Operand} {v : Value} {n lo hi mx : Nat} {c : List Value} {olo ohi omx : Option Operand} (T : SliceT P t e z sz bytes) (hx : evo L x = some (.v v)) (hv : Sl w sz v c n)
    (hbd : ∀ ρ : Operand → Value, Val ρ L → ∀ cap, n ≤ cap → (Instr.sliceBounds true n cap (olo.map ρ) (ohi.map ρ) (omx.map ρ)).run P w = .ok (lo, hi, if omx.isSome then mx else cap) w)
    (b1 : lo ≤ hi) (b2 : hi ≤ n) (b3 : omx.isSome → hi ≤ mx ∧ mx ≤ n)
    (hk : ∀ v', Sl w sz v' ((c.drop (lo * sz)).take ((hi - lo) * sz)) (hi - lo) → v'.ownBlock = v.ownBlock → (omx.isSome → hi = mx → Tight v') → K (.v v') w) :
    OP P L (.slice t x olo ohi omx) ty w K := by
  obtain ⟨a, cap, rfl, hl, h3, h4, h5, h6⟩ := hv
  have hmc : hi ≤ (if omx.isSome then mx else cap) ∧ (if omx.isSome then mx else cap) ≤ cap := by
    split
    · rename_i h; have := b3 h; omega
    · omega
  refine OP_run (s := .v _) (fun ρ he => ?_) (hk _ (cut_sl hl h3 h4 h5 h6 b1 b2 hmc.1 hmc.2) (ownBlock_cut _ _ _ _ _ _ _ _) ?_)
  · have h1 : execOp ρ ⟨none, .slice t x olo ohi omx, ty, "", #[], none⟩ = (do pure (.value (← Instr.sliceAt t (ρ x) (olo.map ρ) (ohi.map ρ) (omx.map ρ)))) := rfl
    rw [h1, he x _ hx]
    simp only [Sem.run_bind, SV.den, run_slice_op T _ _ _ _ _ _ (hbd ρ he cap h3), Result.andThen_ok, Sem.run_pure]
  · intro h e
    exact ⟨_, hi - lo, by rw [if_pos h, ← e]⟩
section
variable {x l h m : Operand} {v : Value} {n : Nat} {c : List Value} {il ih im : Int}
theorem OP_slice_lh (T : SliceT P t e z sz bytes) (hx : evo L x = some (.v v)) (hv : Sl w sz v c n) (hl : evo L l = some (.v (.int .i64 il))) (hh : evo L h = some (.v (.int .i64 ih))) (b : 0 ≤ il ∧ il ≤ ih ∧ ih ≤ n)
    (hk : ∀ v', Sl w sz v' ((c.drop (il.toNat * sz)).take ((ih.toNat - il.toNat) * sz)) (ih.toNat - il.toNat) → v'.ownBlock = v.ownBlock → K (.v v') w) : OP P L (.slice t x (some l) (some h) none) ty w K :=
  OP_slice_core (mx := 0) (lo := il.toNat) (hi := ih.toNat) T hx hv (fun ρ he cap hc => by
    have e1 := he l _ hl; have e2 := he h _ hh
    simp only [Instr.sliceBounds, Option.map_some, Option.map_none, e1, e2, SV.den, Sem.run_bind, Sem.run_pure, Result.andThen_ok, Option.isSome_none, Bool.false_eq_true, if_false, if_true, bound_ok _ _ _ _ (show (0:Int) ≤ ih by omega) (show ih ≤ (cap:Int) by omega), bound_ok _ _ _ _ b.1 (show il ≤ ((ih.toNat : Nat) : Int) by omega)]) (by omega) (by omega) (by intro h; cases h) (fun v' h1 ho _ => hk v' h1 ho)
theorem OP_slice_h (T : SliceT P t e z sz bytes) (hx : evo L x = some (.v v)) (hv : Sl w sz v c n) (hh : evo L h = some (.v (.int .i64 ih))) (b : 0 ≤ ih ∧ ih ≤ n)
    (hk : ∀ v', Sl w sz v' (c.take (ih.toNat * sz)) ih.toNat → v'.ownBlock = v.ownBlock → K (.v v') w) : OP P L (.slice t x none (some h) none) ty w K :=
  OP_slice_core (mx := 0) (lo := 0) (hi := ih.toNat) T hx hv (fun ρ he cap hc => by
    have e2 := he h _ hh
    simp only [Instr.sliceBounds, Option.map_some, Option.map_none, e2, SV.den, Sem.run_bind, Sem.run_pure, Result.andThen_ok, Option.isSome_none, Bool.false_eq_true, if_false, if_true, bound_ok _ _ _ _ b.1 (show ih ≤ (cap:Int) by omega)]) (by omega) (by omega) (by intro h; cases h) (fun v' h1 ho _ => hk v' (by simpa using h1) ho)
theorem OP_slice_l (T : SliceT P t e z sz bytes) (hx : evo L x = some (.v v)) (hv : Sl w sz v c n) (hl : evo L l = some (.v (.int .i64 il))) (b : 0 ≤ il ∧ il ≤ n)
    (hk : ∀ v', Sl w sz v' (c.drop (il.toNat * sz)) (n - il.toNat) → v'.ownBlock = v.ownBlock → K (.v v') w) : OP P L (.slice t x (some l) none none) ty w K :=
  OP_slice_core (mx := 0) (lo := il.toNat) (hi := n) T hx hv (fun ρ he cap hc => by
    have e1 := he l _ hl
    simp only [Instr.sliceBounds, Option.map_some, Option.map_none, e1, SV.den, Sem.run_bind, Sem.run_pure, Result.andThen_ok, Option.isSome_none, Bool.false_eq_true, if_false, bound_ok _ _ _ _ b.1 b.2]) (by omega) (by omega) (by intro h; cases h) (fun v' h1 ho _ => hk v' (by
      have hl := hv.len
      rwa [List.take_of_length_le (by rw [List.length_drop, hl, Nat.sub_mul]; omega)] at h1) ho)
end
theorem OP_ix {x j : Operand} {v : Value} {n : Nat} {c : List Value} {i : Int} {k : IntKind} {sj : SV} (T : SliceT P t e z sz bytes) (hx : evo L x = some (.v v)) (hv : Sl w sz v c n) (hj : evo L j = some sj) (ej : sj.num = some (k, i)) (b : 0 ≤ i ∧ i < n)
    (hk : ∀ p, Cs w p ((c.drop (i.toNat * sz)).take sz) → K (.v (.pointer (some p))) w) : OP P L (.indexAddr t x j) ty w K := by
  obtain ⟨a, cap, rfl, hl, h3, h4, h5, h6⟩ := hv
  cases a with
  | none => have := h5 rfl; omega
  | some q =>
    refine OP_run (s := .v _) (fun ρ he => ?_) (hk (q.add (i.toNat * sz)) (((h6 q rfl).drop _).take _))
    have h1 : execOp ρ ⟨none, .indexAddr t x j, ty, "", #[], none⟩ = (do pure (.value (← Instr.indexAt t (ρ x) (ρ j)))) := rfl
    rw [h1, he x _ hx, (he j _ hj).trans (SV.num_den ej)]
    simp only [Instr.indexAt, asIntOf, Sem.run_bind, Sem.run_pure, Result.andThen_ok, run_underlying T.ht, SV.den]
    rw [if_pos b]
    simp [T.run_size]
theorem OP_ix1 {x j : Operand} {v : Value} {n : Nat} {c : List Value} {i : Int} {k : IntKind} {sj : SV} {z : Value} (T : SliceT P t e z 1 bytes) (hx : evo L x = some (.v v)) (hv : Sl w 1 v c n) (hj : evo L j = some sj) (ej : sj.num = some (k, i)) (b : 0 ≤ i ∧ i < n)
    (hk : ∀ p u, c[i.toNat]? = some u → w.cell? p = some u → K (.v (.pointer (some p))) w) : OP P L (.indexAddr t x j) ty w K :=
  OP_ix T hx hv hj ej b fun p hp => by
    have hl := hv.len
    have hlt : i.toNat < c.length := by omega
    refine hk p _ (List.getElem?_eq_getElem hlt) ?_
    have := hp 0 c[i.toNat] (by rw [Nat.mul_one, List.getElem?_take_of_lt (by omega), List.getElem?_drop]; simp)
    simpa [Addr.add] using this
def plainT (d : TypeDesc) : Bool := match d with | .struct _ | .array _ _ => false | _ => true
theorem run_loadVar_one {d : TypeDesc} (ht : P.underlying t = some d) (hd : plainT d = true) {p : Addr} {u : Value} (hc : w.cell? p = some u) : (loadVar t p).run P w = .ok u w := by
  have h1 : (isAgg t).run P w = .ok false w := by
    simp only [isAgg, Sem.run_bind, run_underlying ht, Result.andThen_ok]
    cases d <;> first | (cases hd; done) | rfl
  simp [loadVar, h1, hc]
theorem OP_load {x : Operand} {p : Addr} {u : Value} {s : SV} {d : TypeDesc} (ht : P.underlying t = some d) (hd : plainT d = true) (hx : evo L x = some (.v (.pointer (some p)))) (hc : w.cell? p = some u) (es : s.den = u) (hk : K s w) : OP P L (.load t x) ty w K :=
  OP_run (fun ρ he => by
    have h1 : execOp ρ ⟨none, .load t x, ty, "", #[], none⟩ = (do pure (.value (← Instr.loadAt t (ρ x)))) := rfl
    rw [h1, he x _ hx, es, show (SV.v (.pointer (some p))).den = .pointer (some p) from rfl]
    simp [Instr.loadAt, Instr.sureAddr, run_loadVar_one ht hd hc]) hk
theorem OP_nilCheck {x : Operand} {p : Addr} (hx : evo L x = some (.v (.pointer (some p)))) (hk : K (.v (.pointer (some p))) w) : OP P L (.nilCheck x) ty w K :=
  OP_run (fun ρ he => by
    have h1 := he x _ hx
    simp [execOp, h1, SV.den]) hk
theorem OP_make0 {l c : Operand} {base n : Nat} (T : SliceT P t e z sz bytes) (hl : evo L l = some (.v (.int .i64 0))) (hc : evo L c = some (.v (.int .i64 (n : Int)))) (hb : bytes * n ≤ 281474976710656 ∧ n ≤ maxLen) (hbase : base ≤ w.heap.size)
    (hk : ∀ v' w', w'.ownsRow base e sz v' 0 [] → Ext w w' → K (.v v') w') : OP P L (.makeSlice t l c) ty w K := by
  obtain ⟨i, hi, hz, hsize, hby⟩ := info_parts T.hi
  obtain ⟨w', hrun, r1, r2⟩ := run_make_own (P := P) w base t e i z sz T.ht hi hz hsize .i64 .i64 n (by rw [hby]; exact hb.1) hb.2 hbase
  refine OP_run (s := .v _) (fun ρ he => ?_) (hk _ w' r1 ((Below.refl _ _).grown r2 (Nat.le_refl _) (fun k hk => by cases hk)))
  have h1 : execOp ρ ⟨none, .makeSlice t l c, ty, "", #[], none⟩ = (do pure (.value (← Instr.makeSlice t (ρ l) (ρ c)))) := rfl
  rw [h1, he l _ hl, he c _ hc]
  simp only [SV.den, Sem.run_bind, hrun, Result.andThen_ok, Sem.run_pure]
def evparts (L : Lst) (k : Nat) : List (Nat × Operand) → Option (List SV)
  | [] => some []
  | (i, x) :: r => bif Nat.beq i k then (match evo L x, evparts L (k + 1) r with | some s, some ss => some (s :: ss) | _, _ => none) else none
theorem evparts_val {ρ : Operand → Value} (he : Val ρ L) : ∀ (ps : List (Nat × Operand)) (k : Nat) (ss : List SV), evparts L k ps = some ss → (ps.map fun (i, x) => (i, ρ x)) = (((ss.map SV.den).zipIdx k).map fun (v, i) => (i, v)) := by
  intro ps
  induction ps with
  | nil => intro k ss h; simp only [evparts, Option.some.injEq] at h; subst h; rfl
  | cons p r ih =>
    intro k ss h
    obtain ⟨i, x⟩ := p
    simp only [evparts] at h
    cases hb : Nat.beq i k with
    | false => rw [hb] at h; cases h
    | true =>
      rw [hb] at h
      have hik : i = k := by simpa using hb
      subst hik
      simp only [cond_true] at h
      split at h
      · rename_i s ss' h1 h2
        obtain rfl := Option.some.inj h
        simp only [List.map_cons, List.zipIdx_cons, ih _ _ h2, he x s h1]
      · cases h
theorem fill_ones (vs : List Value) (h1 : ∀ v ∈ vs, v.oneCell' = true) : ∀ (k : Nat) (cells : Array Value), cells.size = k + vs.length →
    Instr.fill (fun i => some (i * 1, 1)) cells ((vs.zipIdx k).map fun (v, i) => (i, v)) = some (cells.toList.take k ++ vs).toArray := by
  induction vs with
  | nil =>
    intro k cells hs
    simp only [List.length_nil, Nat.add_zero] at hs
    simp only [List.zipIdx_nil, List.map_nil, Instr.fill, List.append_nil]
    rw [List.take_of_length_le (by simp [hs])]
  | cons v r ih =>
    intro k cells hs
    have hv : v.cells = #[v] := by
      have := h1 v (by simp)
      cases v <;> first | rfl | (simp [Value.oneCell'] at this)
    simp only [List.length_cons] at hs
    simp only [List.zipIdx_cons, List.map_cons, Instr.fill, hv, Nat.mul_one]
    rw [if_neg (by simp; omega)]
    have hz : (#[v].zipIdx.foldl (fun cs (x : Value × Nat) => match x with | (c, j) => cs.setIfInBounds (k + j) c) cells) = cells.setIfInBounds k v := rfl
    have := ih (fun v hv => h1 v (by simp [hv])) (k + 1) (cells.setIfInBounds k v) (by simp; omega)
    simp only [Nat.mul_one] at this
    refine Eq.trans (b := _) ?_ (this.trans ?_)
    · rfl
    · congr 2
      rw [Array.toList_setIfInBounds, List.take_succ_eq_append_getElem (by simp; omega)]
      simp [List.take_set_of_le (Nat.le_refl k)]
theorem OP_lit {parts : Array (Nat × Operand)} {len base : Nat} {ss : List SV} {z : Value} (T : SliceT P t e z 1 bytes) (hp : evparts L 0 parts.toList = some ss) (hlen : Nat.beq ss.length len = true) (h1 : ∀ s ∈ ss, s.den.oneCell' = true) (hmax : Nat.ble len 16777216 = true) (hbase : base ≤ w.heap.size)
    (hk : ∀ v' w', w'.ownsRow base e 1 v' len (ss.map SV.den) → Tight v' → v'.ownBlock = some w.heap.size → Ext w w' → K (.v v') w') : OP P L (.buildSlice t len parts) ty w K := by
  have hlen : ss.length = len := by simpa using hlen
  have hmax : len ≤ 16777216 := by simpa using hmax
  obtain ⟨i, hi, hz, hsize, hby⟩ := info_parts T.hi
  have hown : (w.alloc (.cells (ss.map SV.den).toArray e)).ownsRow base e 1 (.slice (some ⟨w.heap.size, 0, none⟩) len len) len (ss.map SV.den) := by
    refine ⟨by simp [hlen], .inr ⟨w.heap.size, len, _, rfl, hbase, heap_alloc_new w _, Nat.le_refl _, by simp [maxLen]; omega, by simp [hlen], ?_⟩⟩
    rw [List.take_of_length_le (by simp [hlen])]
  refine OP_run (s := .v _) (fun ρ he => ?_) (hk _ _ hown ⟨_, _, rfl⟩ rfl (Ext.alloc w _))
  have h2 : execOp ρ ⟨none, .buildSlice t len parts, ty, "", #[], none⟩ = (do pure (.value (← Instr.buildSlice t len (parts.map fun (i, x) => (i, ρ x))))) := rfl
  have hps : (parts.map fun (i, x) => (i, ρ x)).toList = ((ss.map SV.den).zipIdx 0).map fun (v, i) => (i, v) := by
    rw [Array.toList_map]; exact evparts_val he _ _ _ hp
  have hzc : z.cells.size = 1 := T.hzs
  have hfill : ∀ cells : Array Value, cells.size = len → Instr.fill (fun i => some (i * 1, 1)) cells (((ss.map SV.den).zipIdx 0).map fun (v, i) => (i, v)) = some (ss.map SV.den).toArray := by
    intro cells hs
    have := fill_ones (ss.map SV.den) (by intro v hv; obtain ⟨s, hs, rfl⟩ := List.mem_map.1 hv; exact h1 s hs) 0 cells (by simp [hlen, hs])
    simpa using this
  rw [h2]
  simp only [Instr.buildSlice, Sem.run_bind, run_underlying T.ht, Result.andThen_ok, T.run_size, Nat.mul_one]
  rw [if_neg (by omega)]
  have hf := hfill ((Array.range len).map (z.cells[· % z.cells.size]!)) (by simp)
  simp only [Nat.mul_one] at hf
  by_cases h0 : len = 0
  · have hf0 := hfill #[] (by simp [h0])
    have hr0 : (Array.range len) = #[] := by rw [h0]; rfl
    simp only [Nat.mul_one] at hf0
    simp only [if_pos h0, Sem.run_bind, Sem.run_pure, Result.andThen_ok, hps, hr0, List.map_toArray, List.map_nil]
    rw [hf0]
    simp [newRow, SV.den]
  · simp only [if_neg h0, Sem.run_bind, zeroValue, typeInfo, run_program, hi, Result.andThen_ok, hz, Sem.run_pure, hps]
    rw [hf]
    simp [newRow, SV.den]
theorem OP_str {x : Operand} {v : Value} {l : List UInt8} {src dst : TypeId} (hs : P.underlying src = some (.slice e)) (he : P.underlying e = some (.int .u8)) (hd : P.underlying dst = some .string) (hx : evo L x = some (.v v)) (hv : Bytes w v l)
    (hk : K (.v (.string ⟨l.toArray⟩)) w) : OP P L (.convert src dst x) ty w K := by
  obtain ⟨a, cap, rfl, hl, h3, h4, h5, h6⟩ := hv
  refine OP_run (fun ρ hρ => ?_) hk
  have h1 : execOp ρ ⟨none, .convert src dst x, ty, "", #[], none⟩ = (do pure (.value (← convert src dst (ρ x)))) := rfl
  rw [h1, hρ x _ hx]
  have hconv : (Conv.bytesToString (.slice a l.length cap)).run P w = .ok (.string ⟨l.toArray⟩) w := by
    cases a with
    | none =>
      have : l = [] := List.eq_nil_of_length_eq_zero (h5 rfl).1
      subst this
      rfl
    | some p =>
      have hcs := h6 p rfl
      have hload : (loadCells p l.length).run P w = .ok (l.map byteV).toArray w := by
        have := run_loadCells_list (P := P) (w := w) p (l.map byteV) hcs
        simpa using this
      have hm : (l.map byteV) = (l.map fun b => (b.toNat : Int)).map (Value.int .u8) := by simp [byteV]
      rw [hm] at hload
      rw [run_bytesToString w p _ cap _ hload, foldl_push_bytes]
      congr 2
      have : (List.map (fun n : Int => UInt8.ofNat n.toNat) (l.map fun b => (b.toNat : Int))) = l := by
        rw [List.map_map]; refine (List.map_congr_left (g := id) ?_).trans (List.map_id l); intro b _; simp
      rw [this]
      show (⟨ByteArray.empty.data ++ l.toArray⟩ : ByteArray) = _
      congr 1
      show #[] ++ l.toArray = _
      simp
  simp only [Sem.run_bind, convert, run_underlying hs, run_underlying hd, run_underlying he, Result.andThen_ok, SV.den, hconv, Sem.run_pure]
end
end Go.Eng

namespace Go.Eng
open Go Go.RowKit
set_option linter.unusedVariables false
inductive Sp where
  | rig (s : SV)
  | flx (R : Value → World → Prop)
def Sp.ok : Sp → Value → World → Prop
  | .rig s, v, _ => v = s.den
  | .flx R, v, w => R v w
def Sp.stable (R : Sp) : Prop := ∀ v w w', R.ok v w → Ext w w' → R.ok v w'
theorem Sp.stable_rig (s : SV) : (Sp.rig s).stable := fun _ _ _ h _ => h
def maskOf (acc : List Nat) (o : Oper) : Nat := o.after.foldl (fun s e => if Region.binds .any e then s ||| 2 ^ e.on ||| acc.getD (acc.length - 1 - e.on) 0 else s) 0
def masks : List Oper → List Nat → List Nat
  | [], acc => acc
  | o :: r, acc => masks r (maskOf acc o :: acc)
inductive Anc (ops : Array Oper) : Nat → Nat → Prop
  | step {j i : Nat} {o : Oper} {e : Edge} : ops[j]? = some o → e ∈ o.after → Region.binds .any e = true → e.on = i → Anc ops j i
  | more {j i : Nat} {o : Oper} {e : Edge} : ops[j]? = some o → e ∈ o.after → Region.binds .any e = true → Anc ops e.on i → Anc ops j i
theorem bits_fold (f : Nat → Edge → Nat) (S : Edge → Nat → Prop) (hf : ∀ s e i, (f s e).testBit i = true → s.testBit i = true ∨ S e i) :
    ∀ (l : List Edge) (s i : Nat), (l.foldl f s).testBit i = true → s.testBit i = true ∨ ∃ e ∈ l, S e i := by
  intro l
  induction l with
  | nil => intro s i h; exact .inl h
  | cons e r ih =>
    intro s i h
    rw [List.foldl_cons] at h
    rcases ih _ _ h with h | ⟨e', he', h⟩
    · rcases hf _ _ _ h with h | h
      · exact .inl h
      · exact .inr ⟨e, by simp, h⟩
    · exact .inr ⟨e', by simp [he'], h⟩
def MaskOK (ops : Array Oper) (acc : List Nat) : Prop := ∀ j i, j < acc.length → (acc.getD (acc.length - 1 - j) 0).testBit i = true → Anc ops j i
theorem masks_ok (ops : Array Oper) : ∀ (l : List Oper) (acc : List Nat), (∀ k, l[k]? = ops[acc.length + k]?) → (∀ j (o : Oper), ops[j]? = some o → ∀ e ∈ o.after, Region.binds .any e = true → e.on < j) → MaskOK ops acc → MaskOK ops (masks l acc) := by
  intro l
  induction l with
  | nil => intro acc _ _ h; exact h
  | cons o r ih =>
    intro acc hl hon h
    refine ih (maskOf acc o :: acc) (fun k => ?_) hon ?_
    · have := hl (k + 1)
      simp only [List.getElem?_cons_succ, List.length_cons] at this ⊢
      rw [this]; congr 1; omega
    · intro j i hj hb
      have ho : ops[acc.length]? = some o := by have := hl 0; simpa using this.symm
      simp only [List.length_cons] at hj hb
      by_cases hja : j = acc.length
      · subst hja
        have hb' : (maskOf acc o).testBit i = true := by simpa using hb
        unfold maskOf at hb'
        rw [← Array.foldl_toList] at hb'
        have := bits_fold (fun s e => if Region.binds .any e then s ||| 2 ^ e.on ||| acc.getD (acc.length - 1 - e.on) 0 else s)
          (fun e i => Region.binds .any e = true ∧ (e.on = i ∨ (acc.getD (acc.length - 1 - e.on) 0).testBit i = true)) (by
            intro s e i hs
            split at hs
            · rename_i hbd
              simp only [Nat.testBit_or, Bool.or_eq_true] at hs
              rcases hs with (hs | hs) | hs
              · exact .inl hs
              · exact .inr ⟨hbd, .inl (by rw [Nat.testBit_two_pow] at hs; simpa using hs)⟩
              · exact .inr ⟨hbd, .inr hs⟩
            · exact .inl hs) o.after.toList 0 i hb'
        rcases this with hz | ⟨e, he, hbd, h1 | h1⟩
        · simp at hz
        · exact .step ho (Array.mem_toList_iff.1 he) hbd h1
        · have hlt := hon _ o ho e (Array.mem_toList_iff.1 he) hbd
          exact .more ho (Array.mem_toList_iff.1 he) hbd (h e.on i hlt h1)
      · refine h j i (by omega) ?_
        have e1 : acc.length + 1 - 1 - j = (acc.length - 1 - j) + 1 := by omega
        rw [e1] at hb
        simpa using hb
def ancB (ms : List Nat) (j i : Nat) : Bool := (ms.getD (ms.length - 1 - j) 0).testBit i
def allB (n : Nat) (f : Nat → Bool) : Bool := Nat.rec true (fun k ih => f k && ih) n
theorem allB_spec {n : Nat} {f : Nat → Bool} (h : allB n f = true) : ∀ i, i < n → f i = true := by
  induction n with
  | zero => intro i hi; omega
  | succ k ih =>
    have h' : (f k && allB k f) = true := h
    simp only [Bool.and_eq_true] at h'
    intro i hi
    by_cases e : i = k
    · subst e; exact h'.1
    · exact ih h'.2 i (by omega)
def dstOf (ops : Array Oper) (i : Nat) : Option Nat := (ops[i]?).bind (·.dst)
def drawOK (n k : Nat) (ops : Array Oper) : Bool :=
  let ms := masks ops.toList []
  (Nat.ble k ops.size && allB ops.size fun j => match ops[j]? with
    | none => false
    | some o => o.after.toList.all (fun e => !Region.binds .any e || Nat.blt e.on j) && (match o.dst with | some d => Nat.blt d n | none => Nat.ble k j) && (match o.op with | .select .. => false | _ => true)) &&
  allB ops.size fun j => match ops[j]? with
    | none => false
    | some o =>
      (if Nat.ble k j then allB j fun i => ancB ms j i else true) &&
      (allB ops.size fun i => Nat.beq i j || (match dstOf ops i with
        | none => true
        | some d => (Nat.ble k i || Nat.ble k j || dstOf ops j != some d) && (!(o.looksAt ops).contains d || (bif Nat.blt i j then ancB ms j i else ancB ms i j))))
section
variable {P : Program} {n k : Nat} {ops : Array Oper} {w0 : World}
structure DrawOK (n k : Nat) (ops : Array Oper) : Prop where
  hk : k ≤ ops.size
  edge : ∀ (j : Nat) (o : Oper), ops[j]? = some o → ∀ e ∈ o.after, Region.binds .any e = true → e.on < j
  dstn : ∀ (j : Nat) (o : Oper) (d : Nat), ops[j]? = some o → o.dst = some d → d < n
  dsts : ∀ (j : Nat) (o : Oper), ops[j]? = some o → j < k → ∃ d, o.dst = some d
  sel : ∀ (j : Nat) (o : Oper), ops[j]? = some o → ∀ cs b, o.op ≠ .select cs b
  late : ∀ j i : Nat, k ≤ j → j < ops.size → i < j → Anc ops j i
  uniq : ∀ i j d : Nat, i ≠ j → i < k → j < k → dstOf ops i = some d → dstOf ops j ≠ some d
  look : ∀ (i j d : Nat) (o : Oper), i ≠ j → ops[j]? = some o → dstOf ops i = some d → d ∈ o.looksAt ops → i < ops.size → (i < j ∧ Anc ops j i) ∨ (j < i ∧ Anc ops i j)
theorem drawOK_spec (h : drawOK n k ops = true) : DrawOK n k ops := by
  simp only [drawOK, Bool.and_eq_true] at h
  obtain ⟨⟨hk, h1⟩, h2⟩ := h
  have h1 := allB_spec h1
  have h2 := allB_spec h2
  have hk : k ≤ ops.size := by simpa using hk
  have hlt : ∀ j (o : Oper), ops[j]? = some o → j < ops.size := fun j o ho => (Array.getElem?_eq_some_iff.1 ho).1
  have edge : ∀ j (o : Oper), ops[j]? = some o → ∀ e ∈ o.after, Region.binds .any e = true → e.on < j := by
    intro j o ho e he hbd
    have := h1 j (hlt j o ho)
    rw [ho] at this
    simp only [Bool.and_eq_true, List.all_eq_true] at this
    have h3 := this.1.1 e (Array.mem_toList_iff.2 he)
    rw [hbd] at h3
    simpa using h3
  have hm : MaskOK ops (masks ops.toList []) := masks_ok ops _ _ (by simp) edge (fun j i hj => by simp at hj)
  have hml : (masks ops.toList []).length = ops.size := by
    have : ∀ (l : List Oper) acc, (masks l acc).length = l.length + acc.length := by
      intro l
      induction l with
      | nil => intro acc; simp [masks]
      | cons o r ih => intro acc; simp [masks, ih]; omega
    rw [this]; simp
  have hanc : ∀ j i, j < ops.size → ancB (masks ops.toList []) j i = true → Anc ops j i := fun j i hj hb => hm j i (by omega) hb
  refine ⟨hk, edge, ?_, ?_, ?_, ?_, ?_, ?_⟩
  · intro j o d ho hd
    have := h1 j (hlt j o ho)
    rw [ho] at this
    simp only [Bool.and_eq_true, hd] at this
    simpa using this.1.2
  · intro j o ho hj
    have := h1 j (hlt j o ho)
    rw [ho] at this
    simp only [Bool.and_eq_true] at this
    cases hd : o.dst with
    | some d => exact ⟨d, rfl⟩
    | none => have h3 := this.1.2; rw [hd] at h3; simp at h3; omega
  · intro j o ho cs b hop
    have := h1 j (hlt j o ho)
    rw [ho] at this
    simp only [Bool.and_eq_true, hop] at this
    exact absurd this.2 (by simp)
  · intro j i hkj hj hij
    have := h2 j hj
    have ho : ops[j]? = some ops[j] := Array.getElem?_eq_getElem hj
    rw [ho] at this
    simp only [Bool.and_eq_true] at this
    have h3 := this.1
    rw [if_pos (by simpa using hkj)] at h3
    exact hanc j i hj (allB_spec h3 i hij)
  · intro i j d hij hi hj hdi hdj
    have := h2 j (by omega)
    have ho : ops[j]? = some ops[j] := Array.getElem?_eq_getElem (by omega)
    rw [ho] at this
    simp only [Bool.and_eq_true] at this
    have h3 := allB_spec this.2 i (by omega)
    simp only [Bool.or_eq_true, hdi, Bool.and_eq_true] at h3
    rcases h3 with h3 | h3
    · simp at h3; exact hij h3
    · rcases h3.1 with (h4 | h4) | h4
      · simp at h4; omega
      · simp at h4; omega
      · simp [hdj] at h4
  · intro i j d o hij ho hdi hd hi
    have := h2 j (hlt j o ho)
    rw [ho] at this
    simp only [Bool.and_eq_true] at this
    have h3 := allB_spec this.2 i hi
    simp only [Bool.or_eq_true, hdi, Bool.and_eq_true] at h3
    rcases h3 with h3 | h3
    · simp at h3; exact absurd h3 hij
    · rcases h3.2 with h4 | h4
      · simp at h4; exact absurd hd h4
      · cases hb : Nat.blt i j with
        | true => rw [hb] at h4; exact .inl ⟨by simpa [Nat.blt_eq] using hb, hanc j i (hlt j o ho) h4⟩
        | false =>
          rw [hb] at h4
          have : ¬ i < j := by intro h; rw [show Nat.blt i j = true from by simpa [Nat.blt_eq] using h] at hb; cases hb
          exact .inr ⟨by omega, hanc i j hi h4⟩
def LookOK (ops : Array Oper) (L : Lst) (Rs : Nat → Sp) (j : Nat) (lk : List Nat) (a : Act) (w : World) : Prop :=
  ∀ t ∈ lk, (∀ i, i < j → dstOf ops i = some t → (Rs i).ok (a.tmps.getD t undef) w) ∧ ((∀ i, i < j → dstOf ops i ≠ some t) → ∀ s, lkp t L = some s → a.tmps.getD t undef = s.den)
def OpObl (P : Program) (n : Nat) (ops : Array Oper) (L : Lst) (w0 : World) (Rs : Nat → Sp) (j : Nat) : Prop :=
  ∀ o, ops[j]? = some o → ∀ (a : Act) (w : World), a.tmps.size = n → Ext w0 w → LookOK ops L Rs j (o.looksAt ops) a w →
    (Region.wanted o (yielded ops a.tmps) = true → opw P a.eval o.op o.type w fun v w' => Ext w w' ∧ (Rs j).ok v w') ∧
    (Region.wanted o (yielded ops a.tmps) = false → (Rs j).ok undef w)
def Lstd (listed : Array Bool) (i : Nat) : Prop := listed.getD i false = true
structure Inv (n k : Nat) (ops : Array Oper) (L : Lst) (w0 : World) (Rs : Nat → Sp) (listed : Array Bool) (a : Act) (w : World) : Prop where
  len : listed.size = ops.size
  size : a.tmps.size = n
  defers : a.defers = []
  ext : Ext w0 w
  early : ∀ j, k ≤ j → ¬ Lstd listed j
  closed : ∀ j (o : Oper), ops[j]? = some o → Lstd listed j → ∀ e ∈ o.after, Region.binds .any e = true → Lstd listed e.on
  res : ∀ i d, Lstd listed i → dstOf ops i = some d → (Rs i).ok (a.tmps.getD d undef) w
  old : ∀ t s, lkp t L = some s → (∀ i, Lstd listed i → dstOf ops i ≠ some t) → a.tmps.getD t undef = s.den
theorem Anc.listed {listed : Array Bool} (hc : ∀ j (o : Oper), ops[j]? = some o → Lstd listed j → ∀ e ∈ o.after, Region.binds .any e = true → Lstd listed e.on)
    {j i : Nat} (h : Anc ops j i) (hj : Lstd listed j) : Lstd listed i := by
  induction h with
  | step ho he hb hi => exact hi ▸ hc _ _ ho hj _ he hb
  | more ho he hb _ ih => exact ih (hc _ _ ho hj _ he hb)
theorem Anc.ready {listed : Array Bool} (hc : ∀ j (o : Oper), ops[j]? = some o → Lstd listed j → ∀ e ∈ o.after, Region.binds .any e = true → Lstd listed e.on)
    {j i : Nat} (h : Anc ops j i) (hj : ∀ o, ops[j]? = some o → ∀ e ∈ o.after, Region.binds .any e = true → Lstd listed e.on) : Lstd listed i := by
  cases h with
  | step ho he hb hi => exact hi ▸ hj _ ho _ he hb
  | more ho he hb h => exact h.listed hc (hj _ ho _ he hb)
theorem Lstd_set {listed : Array Bool} {i j : Nat} (hi : i < listed.size) : Lstd (listed.setIfInBounds i true) j ↔ j = i ∨ Lstd listed j := by
  unfold Lstd
  by_cases h : i = j
  · subst h; simp [hi]
  · rw [getD_set_ne false h]; simp [Ne.symm h]
theorem wpAny_tail (hd : DrawOK n k ops) {Q : Exit → Act → World → Prop} : ∀ (fuel m : Nat) (listed : Array Bool) (a : Act) (w : World), k ≤ m → m + fuel = ops.size → listed.size = ops.size → (∀ i, i < ops.size → (Lstd listed i ↔ i < m)) →
    wpList P ops Q (ops.toList.drop m) a w → wpAny P .any ops Q fuel listed a w := by
  intro fuel
  induction fuel with
  | zero =>
    intro m listed a w hkm hm hl hL h
    have hr : Region.ready .any ops listed = [] := by
      cases hr : Region.ready .any ops listed with
      | nil => rfl
      | cons i r =>
        have := mem_ready.1 (show i ∈ Region.ready .any ops listed by rw [hr]; simp)
        obtain ⟨h0, o, ho, _⟩ := this
        have hlt := (Array.getElem?_eq_some_iff.1 ho).1
        have : Lstd listed i := (hL i hlt).2 (by omega)
        unfold Lstd at this
        simp only [Array.getD_eq_getD_getElem?] at this h0
        rw [Array.getElem?_eq_getElem (by omega)] at this h0
        simp at this h0
        rw [this] at h0; cases h0
    refine ⟨hr, ?_⟩
    rw [List.drop_of_length_le (by simp; omega)] at h
    exact h
  | succ fuel ih =>
    intro m listed a w hkm hm hl hL h
    have hmlt : m < ops.size := by omega
    have ho : ops[m]? = some ops[m] := Array.getElem?_eq_getElem hmlt
    have hunl : ∀ i, i < ops.size → (listed.getD i true = false ↔ ¬ Lstd listed i) := by
      intro i hi
      unfold Lstd
      simp only [Array.getD_eq_getD_getElem?]
      rw [Array.getElem?_eq_getElem (by omega)]
      simp
    have hmr : m ∈ Region.ready .any ops listed := by
      rw [mem_ready]
      refine ⟨(hunl m hmlt).2 (by rw [hL m hmlt]; omega), _, ho, fun e he hb => ?_⟩
      have := hd.edge m _ ho e he hb
      exact (hL e.on (by omega)).2 this
    refine ⟨fun h0 => (by rw [h0] at hmr; cases hmr), fun i hi => ?_⟩
    have hi' := mem_ready.1 hi
    obtain ⟨h0, o, hoi, hall⟩ := hi'
    have hilt := (Array.getElem?_eq_some_iff.1 hoi).1
    have him : ¬ i < m := by rw [← hL i hilt]; exact (hunl i hilt).1 h0
    have hc : ∀ j (o : Oper), ops[j]? = some o → Lstd listed j → ∀ e ∈ o.after, Region.binds .any e = true → Lstd listed e.on := by
      intro j o hj hjl e he hb
      have h1 := hd.edge j o hj e he hb
      have h2 := (hL j (Array.getElem?_eq_some_iff.1 hj).1).1 hjl
      exact (hL e.on (by omega)).2 (by omega)
    have hiem : i = m := by
      by_cases e : i = m
      · exact e
      · have ha := hd.late i m (by omega) hilt (by omega)
        have := ha.ready hc (fun o' ho' e he hb => by rw [hoi] at ho'; obtain rfl := Option.some.inj ho'; exact hall e he hb)
        have := (hL m hmlt).1 this
        omega
    subst hiem
    have hdrop : ops.toList.drop i = ops[i] :: ops.toList.drop (i + 1) := by
      rw [List.drop_eq_getElem_cons (by simpa using hilt)]; simp
    rw [hdrop] at h
    unfold wpOp
    rw [ho]
    simp only [wpList] at h
    have hnext : ∀ a w, wpList P ops Q (ops.toList.drop (i + 1)) a w → wpAny P .any ops Q fuel (listed.setIfInBounds i true) a w := fun a w h =>
      ih (i + 1) _ a w (by omega) (by omega) (by simp [hl]) (fun j hj => by rw [Lstd_set (by omega), hL j hj]; omega) h
    show if _ then _ else _
    split
    · rename_i hw
      rw [if_pos hw] at h
      exact h.imp (Oper.wp_mono hnext) id
    · rename_i hw
      rw [if_neg hw] at h
      exact hnext _ _ h
def unl (listed : Array Bool) (N : Nat) : Nat := ((List.range N).filter fun i => !listed.getD i false).length
theorem unl_set {listed : Array Bool} {N i : Nat} (hi : i < listed.size) (hN : i < N) (h : ¬ Lstd listed i) : unl (listed.setIfInBounds i true) N + 1 = unl listed N := by
  unfold unl
  induction N with
  | zero => omega
  | succ N ih =>
    rw [List.range_succ, List.filter_append, List.filter_append, List.length_append, List.length_append]
    by_cases e : i = N
    · subst e
      have h1 : ((List.range i).filter fun j => !(listed.setIfInBounds i true).getD j false) = ((List.range i).filter fun j => !listed.getD j false) := by
        apply List.filter_congr
        intro j hj
        have : j < i := by simpa using hj
        rw [getD_set_ne false (by omega)]
      rw [h1]
      have h2 : listed.getD i false = false := by simpa only [Lstd, Bool.not_eq_true] using h
      have h3 : (listed.setIfInBounds i true).getD i false = true := by simp [hi]
      simp only [List.filter_cons, h2, h3, List.filter_nil]
      simp
    · have := ih (by omega)
      have h1 : (listed.setIfInBounds i true).getD N false = listed.getD N false := getD_set_ne false e
      rw [List.filter_cons, List.filter_cons, h1]
      simp only [List.filter_nil]
      omega
theorem unl_zero {listed : Array Bool} {N : Nat} : unl listed N = 0 ↔ ∀ i, i < N → Lstd listed i := by
  unfold unl Lstd
  rw [List.length_eq_zero_iff, List.filter_eq_nil_iff]
  simp
theorem unl_first {listed : Array Bool} {m : Nat} (N : Nat) (h : ∀ i, i < N → (Lstd listed i ↔ i < m)) : unl listed N = N - m := by
  unfold unl
  induction N with
  | zero => simp
  | succ N ih =>
    rw [List.range_succ, List.filter_append, List.length_append, ih fun i hi => h i (by omega)]
    have := h N (by omega)
    by_cases hN : N < m
    · have : listed.getD N false = true := this.2 hN
      simp only [List.filter_cons, this, List.filter_nil]
      simp; omega
    · have : listed.getD N false = false := (Bool.not_eq_true _).mp fun e => hN (this.1 e)
      simp only [List.filter_cons, this, List.filter_nil]
      simp; omega
theorem wpAny_draw (hd : DrawOK n k ops) {L : Lst} {Rs : Nat → Sp} (hst : ∀ i, i < k → (Rs i).stable) (hob : ∀ j, j < k → OpObl P n ops L w0 Rs j) {Q : Exit → Act → World → Prop}
    (hfin : ∀ (a : Act) (w : World), a.tmps.size = n → a.defers = [] → Ext w0 w → (∀ i d, i < k → dstOf ops i = some d → (Rs i).ok (a.tmps.getD d undef) w) → (∀ t s, lkp t L = some s → (∀ i, i < k → dstOf ops i ≠ some t) → a.tmps.getD t undef = s.den) →
      wpList P ops Q (ops.toList.drop k) a w) :
    ∀ (fuel : Nat) (listed : Array Bool) (a : Act) (w : World), Inv n k ops L w0 Rs listed a w → unl listed ops.size = fuel → wpAny P .any ops Q fuel listed a w := by
  intro fuel
  induction fuel with
  | zero =>
    intro listed a w hI hf
    have hall := unl_zero.1 hf
    refine wpAny_tail hd 0 ops.size listed a w hd.hk (by omega) hI.len (fun i hi => ⟨fun _ => hi, fun _ => hall i hi⟩) ?_
    have : k = ops.size := by
      have := hd.hk
      rcases Nat.lt_or_ge k ops.size with h | h
      · exact absurd (hall k h) (hI.early k (Nat.le_refl _))
      · omega
    rw [← this]
    exact hfin a w hI.size hI.defers hI.ext (fun i d hi hdi => hI.res i d (hall i (by omega)) hdi) (fun t s hs hno => hI.old t s hs fun i hi => by
      rcases Nat.lt_or_ge i k with h | h
      · exact hno i h
      · exact absurd hi (hI.early i h))
  | succ fuel ih =>
    intro listed a w hI hf
    by_cases hall : ∀ i, i < k → Lstd listed i
    · have hL : ∀ i, i < ops.size → (Lstd listed i ↔ i < k) := fun i hi => ⟨fun h => by
        rcases Nat.lt_or_ge i k with h' | h'
        · exact h'
        · exact absurd h (hI.early i h'), hall i⟩
      have := unl_first ops.size hL
      refine wpAny_tail hd (fuel + 1) k listed a w (Nat.le_refl _) (by have := hd.hk; omega) hI.len hL ?_
      exact hfin a w hI.size hI.defers hI.ext (fun i d hi hdi => hI.res i d (hall i hi) hdi) (fun t s hs hno => hI.old t s hs fun i hi => by
        rcases Nat.lt_or_ge i k with h | h
        · exact hno i h
        · exact absurd hi (hI.early i h))
    · have hunl : ∀ i, i < ops.size → (listed.getD i true = false ↔ ¬ Lstd listed i) := by
        intro i hi
        have := hI.len
        unfold Lstd
        simp only [Array.getD_eq_getD_getElem?]
        rw [Array.getElem?_eq_getElem (by omega)]
        simp
      refine ⟨fun h0 => ?_, fun i hi => ?_⟩
      · exfalso
        have hex : ∃ i, i < k ∧ ¬ Lstd listed i := by
          rcases Classical.em (∃ i, i < k ∧ ¬ Lstd listed i) with h | h
          · exact h
          · exact absurd (fun i hi => Classical.byContradiction fun hn => h ⟨i, hi, hn⟩) hall
        obtain ⟨i, ⟨hik, hin⟩, hmin⟩ := exists_least (p := fun i => i < k ∧ ¬ Lstd listed i) hex
        have hil : i < ops.size := Nat.lt_of_lt_of_le hik hd.hk
        have ho : ops[i]? = some ops[i] := Array.getElem?_eq_getElem hil
        have : i ∈ Region.ready .any ops listed := by
          rw [mem_ready]
          refine ⟨(hunl i hil).2 hin, _, ho, fun e he hb => ?_⟩
          have hlt := hd.edge i _ ho e he hb
          refine Classical.byContradiction fun hn => ?_
          have := hmin e.on ⟨by omega, hn⟩
          omega
        rw [h0] at this; cases this
      · have hi' := mem_ready.1 hi
        obtain ⟨h0, o, ho, hedge⟩ := hi'
        have hilt := (Array.getElem?_eq_some_iff.1 ho).1
        have hin : ¬ Lstd listed i := (hunl i hilt).1 h0
        have hrd : ∀ o', ops[i]? = some o' → ∀ e ∈ o'.after, Region.binds .any e = true → Lstd listed e.on := fun o' ho' e he hb => by
          rw [ho] at ho'; obtain rfl := Option.some.inj ho'; exact hedge e he hb
        have hik : i < k := by
          refine Classical.byContradiction fun hn => hall fun j hj => ?_
          exact (hd.late i j (by omega) hilt (by omega)).ready hI.closed hrd
        have hlook : LookOK ops L Rs i (o.looksAt ops) a w := by
          intro t ht
          refine ⟨fun j hj hdj => ?_, fun hno s hs => hI.old t s hs fun j hj hdj => ?_⟩
          · have hjl : j < ops.size := by omega
            rcases hd.look j i t o (by omega) ho hdj ht hjl with ⟨_, ha⟩ | ⟨h, _⟩
            · exact hI.res j t (ha.ready hI.closed hrd) hdj
            · omega
          · have hjl : j < ops.size := by
              unfold dstOf at hdj
              cases hoj : ops[j]? with
              | none => rw [hoj] at hdj; cases hdj
              | some oj => exact (Array.getElem?_eq_some_iff.1 hoj).1
            have hne : j ≠ i := fun e => hin (e ▸ hj)
            rcases hd.look j i t o hne ho hdj ht hjl with ⟨h, _⟩ | ⟨_, ha⟩
            · exact hno j h hdj
            · exact hin (ha.listed hI.closed hj)
        obtain ⟨hyes, hnot⟩ := hob i hik o ho a w hI.size hI.ext hlook
        obtain ⟨d, hdst⟩ := hd.dsts i o ho hik
        have hdo : dstOf ops i = some d := by simp [dstOf, ho, hdst]
        have hdn := hd.dstn i o d ho hdst
        have next : ∀ (v : Value) (w' : World), Ext w w' → (Rs i).ok v w' → wpAny P .any ops Q fuel (listed.setIfInBounds i true) (a.put o.dst v) w' := by
          intro v w' hx hv
          have hls : ∀ j, Lstd (listed.setIfInBounds i true) j ↔ j = i ∨ Lstd listed j := fun j => Lstd_set (by rw [hI.len]; exact hilt)
          have hgo : ∀ t, t ≠ d → (a.put o.dst v).tmps.getD t undef = a.tmps.getD t undef := fun t ht => by rw [hdst]; exact getD_put_ne _ _ _ _ ht
          have hgs : (a.put o.dst v).tmps.getD d undef = v := by rw [hdst]; exact getD_put_same _ _ _ (by rw [hI.size]; exact hdn)
          refine ih _ _ _ ⟨by simp [hI.len], by rw [put_size]; exact hI.size, by rw [put_defers]; exact hI.defers, hI.ext.trans hx, ?_, ?_, ?_, ?_⟩ (by have := unl_set (by rw [hI.len]; exact hilt) hilt hin; omega)
          · intro j hj h
            rcases (hls j).1 h with rfl | h
            · omega
            · exact hI.early j hj h
          · intro j o' ho' h e he hb
            refine (hls _).2 ?_
            rcases (hls j).1 h with rfl | h
            · exact .inr (hrd o' ho' e he hb)
            · exact .inr (hI.closed j o' ho' h e he hb)
          · intro j d' h hdj
            rcases (hls j).1 h with rfl | h
            · rw [hdo] at hdj
              obtain rfl := Option.some.inj hdj
              rw [hgs]; exact hv
            · have hjk : j < k := by
                rcases Nat.lt_or_ge j k with h' | h'
                · exact h'
                · exact absurd h (hI.early j h')
              have hne : j ≠ i := fun e => hin (e ▸ h)
              have : d' ≠ d := fun e => hd.uniq j i d' hne hjk hik hdj (e ▸ hdo)
              rw [hgo d' this]
              exact hst j hjk _ _ _ (hI.res j d' h hdj) hx
          · intro t s hs hno
            have h1 : t ≠ d := fun e => hno i ((hls i).2 (.inl rfl)) (e ▸ hdo)
            rw [hgo t h1]
            exact hI.old t s hs fun j hj => hno j ((hls j).2 (.inr hj))
        unfold wpOp
        rw [ho]
        show if _ then _ else _
        split
        · rename_i hw
          exact .inl (wp_of_opw (opw_mono (hyes hw) fun v w' ⟨h1, h2⟩ => next v w' h1 h2))
        · rename_i hw
          exact next undef w (Ext.refl _) (hnot (by simpa using hw))
abbrev Flx := List (Nat × (Value → World → Prop))
def InstF (lk : List Nat) (w : World) (kk : Lst → Prop) : Flx → Lst → Prop
  | [], L => kk L
  | (t, R) :: r, L => bif lk.contains t then ∀ v, R v w → InstF lk w kk r ((t, .v v) :: L) else InstF lk w kk r L
def InstAll (w : World) (kk : Lst → Prop) : Flx → Lst → Prop
  | [], L => kk L
  | (t, R) :: r, L => ∀ v, R v w → InstAll w kk r ((t, .v v) :: L)
def OPd (P : Program) (ops : Array Oper) (o : Oper) (w : World) (R : Sp) (L : Lst) : Prop :=
  match o.guard with
  | none => OP P L o.op o.type w fun s w' => Ext w w' ∧ R.ok s.den w'
  | some (j, want) => ∃ d b, dstOf ops j = some d ∧ lkp d L = some (.v (.bool b)) ∧ (b = want → OP P L o.op o.type w fun s w' => Ext w w' ∧ R.ok s.den w') ∧ (b = !want → R.ok undef w)
def DR (P : Program) (ops : Array Oper) (w0 : World) (fin : Lst → World → Prop) : List Oper → Lst → Flx → Prop
  | [], L, F => ∀ w, Ext w0 w → InstAll w (fun L' => fin L' w) F L
  | o :: r, L, F => ∃ R : Sp, R.stable ∧ (∀ w, Ext w0 w → InstF (o.looksAt ops) w (OPd P ops o w R) F L) ∧
      (match o.dst, R with
        | some d, .rig s => DR P ops w0 fin r ((d, s) :: L) F
        | some d, .flx R => DR P ops w0 fin r L ((d, R) :: F)
        | none, _ => False)
def SlotOK (L : Lst) (F : Flx) (t : Nat) (v : Value) (w : World) : Prop :=
  (∀ R, (t, R) ∈ F → R v w) ∧ ((∀ R, (t, R) ∉ F) → ∀ s, lkp t L = some s → v = s.den)
theorem InstF_inst {lk : List Nat} {w : World} {kk : Lst → Prop} (val : Nat → Value) : ∀ (F : Flx) (L : Lst), InstF lk w kk F L → (∀ t R, (t, R) ∈ F → t ∈ lk → R (val t) w) →
    ∃ L', kk L' ∧ ∀ t, t ∈ lk → ((∀ s, lkp t L' = some s → s.den = val t) ∨ ((∀ R, (t, R) ∉ F) ∧ lkp t L' = lkp t L)) := by
  intro F
  induction F with
  | nil => intro L h _; exact ⟨L, h, fun t _ => .inr ⟨fun R => by simp, rfl⟩⟩
  | cons p r ih =>
    intro L h hv
    obtain ⟨t, R⟩ := p
    unfold InstF at h
    cases hc : lk.contains t with
    | true =>
      rw [hc] at h
      have ht : t ∈ lk := by simpa using hc
      obtain ⟨L', hk, hL'⟩ := ih _ (h (val t) (hv t R (by simp) ht)) fun t' R' h1 h2 => hv t' R' (by simp [h1]) h2
      refine ⟨L', hk, fun u hu => ?_⟩
      rcases hL' u hu with h1 | ⟨h1, h2⟩
      · exact .inl h1
      · rw [lkp_cons] at h2
        by_cases e : u = t
        · subst e
          rw [if_pos rfl] at h2
          exact .inl fun s hs => by rw [h2] at hs; obtain rfl := Option.some.inj hs; rfl
        · rw [if_neg e] at h2
          exact .inr ⟨fun R' hm => by rcases List.mem_cons.1 hm with h3 | h3; · cases h3; exact e rfl
                                      · exact h1 R' h3, h2⟩
    | false =>
      rw [hc] at h
      have ht : t ∉ lk := by intro h; rw [show lk.contains t = true from by simpa using h] at hc; cases hc
      obtain ⟨L', hk, hL'⟩ := ih _ h fun t' R' h1 h2 => hv t' R' (by simp [h1]) h2
      refine ⟨L', hk, fun u hu => ?_⟩
      rcases hL' u hu with h1 | ⟨h1, h2⟩
      · exact .inl h1
      · exact .inr ⟨fun R' hm => by rcases List.mem_cons.1 hm with h3 | h3; · cases h3; exact ht hu
                                    · exact h1 R' h3, h2⟩
theorem InstAll_inst {w : World} {kk : Lst → Prop} (val : Nat → Value) : ∀ (F : Flx) (L : Lst), InstAll w kk F L → (∀ t R, (t, R) ∈ F → R (val t) w) →
    ∃ L', kk L' ∧ ∀ t, ((∀ s, lkp t L' = some s → s.den = val t) ∨ ((∀ R, (t, R) ∉ F) ∧ lkp t L' = lkp t L)) := by
  intro F
  induction F with
  | nil => intro L h _; exact ⟨L, h, fun t => .inr ⟨fun R => by simp, rfl⟩⟩
  | cons p r ih =>
    intro L h hv
    obtain ⟨t, R⟩ := p
    obtain ⟨L', hk, hL'⟩ := ih _ (h (val t) (hv t R (by simp))) fun t' R' h1 => hv t' R' (by simp [h1])
    refine ⟨L', hk, fun u => ?_⟩
    rcases hL' u with h1 | ⟨h1, h2⟩
    · exact .inl h1
    · rw [lkp_cons] at h2
      by_cases e : u = t
      · subst e
        rw [if_pos rfl] at h2
        exact .inl fun s hs => by rw [h2] at hs; obtain rfl := Option.some.inj hs; rfl
      · rw [if_neg e] at h2
        exact .inr ⟨fun R' hm => by rcases List.mem_cons.1 hm with h3 | h3; · cases h3; exact e rfl
                                    · exact h1 R' h3, h2⟩
theorem opw_of_OP {o : Oper} {a : Act} {w : World} {L' : Lst} {K : Value → World → Prop} (hs : ∀ cs b, o.op ≠ .select cs b) (hL : ∀ t, t ∈ o.looksAt ops → ∀ s, lkp t L' = some s → a.tmps.getD t undef = s.den)
    (h : OP P L' o.op o.type w fun s w' => K s.den w') : opw P a.eval o.op o.type w K := by
  let e : Operand → Value := fun x => match x with
    | .tmp t => if t ∈ o.looksAt ops then a.tmps.getD t undef else match lkp t L' with | some s => s.den | none => undef
    | .const v => v
    | .global g => .pointer (some ⟨g, 0, none⟩)
    | .func f => .func (.func f) #[] #[]
  have he : Val e L' := by
    intro x s hx
    cases x with
    | tmp t =>
      have hx' : lkp t L' = some s := hx
      show (if t ∈ o.looksAt ops then a.tmps.getD t undef else match lkp t L' with | some s => s.den | none => undef) = s.den
      split
      · rename_i ht; exact hL t ht s hx'
      · rw [hx']
    | const c => simp only [evo, Option.some.injEq] at hx; subst hx; exact (SV.den_of c).symm
    | global g => simp only [evo, Option.some.injEq] at hx; subst hx; rfl
    | func g => simp only [evo, Option.some.injEq] at hx; subst hx; rfl
  have hop := opw_mono (h e he) (K' := K) fun v w ⟨s, hs, k⟩ => hs ▸ k
  have hcg : execOp e ⟨none, o.op, o.type, "", #[], none⟩ = execOp a.eval ⟨none, o.op, o.type, "", #[], none⟩ := by
    refine execOp_congr ⟨none, o.op, o.type, "", #[], none⟩ hs fun x hx => ?_
    cases x with
    | tmp t =>
      have : t ∈ o.looksAt ops := List.mem_append_left _ (List.mem_filterMap.2 ⟨.tmp t, by simpa using hx, rfl⟩)
      show (if t ∈ o.looksAt ops then a.tmps.getD t undef else _) = a.tmps.getD t undef
      rw [if_pos this]
    | const c => rfl
    | global g => rfl
    | func g => rfl
  unfold opw at hop ⊢
  rw [hcg] at hop
  exact hop
theorem LookOK.congr {L : Lst} {Rs Rs' : Nat → Sp} {j : Nat} {lk : List Nat} {a : Act} {w : World} (h : ∀ i, i < j → Rs' i = Rs i) (hl : LookOK ops L Rs' j lk a w) : LookOK ops L Rs j lk a w :=
  fun t ht => ⟨fun i hi hd => h i hi ▸ (hl t ht).1 i hi hd, (hl t ht).2⟩
theorem OpObl.congr {L : Lst} {Rs Rs' : Nat → Sp} {j : Nat} (h : ∀ i, i ≤ j → Rs' i = Rs i) (ho : OpObl P n ops L w0 Rs j) : OpObl P n ops L w0 Rs' j := by
  intro o hoj a w h1 h2 h3
  rw [h j (Nat.le_refl _)]
  exact ho o hoj a w h1 h2 (h3.congr fun i hi => h i (by omega))
theorem DR_exists (hd : DrawOK n k ops) {L0 : Lst} {fin : Lst → World → Prop} : ∀ (l : List Oper) (j : Nat) (L : Lst) (F : Flx) (Rs : Nat → Sp), j + l.length = k → (∀ i, i < l.length → l[i]? = ops[j + i]?) →
    (∀ t v w, (∀ i, i < j → dstOf ops i = some t → (Rs i).ok v w) → ((∀ i, i < j → dstOf ops i ≠ some t) → ∀ s, lkp t L0 = some s → v = s.den) → SlotOK L F t v w) →
    (∀ t R, (t, R) ∈ F → ∃ i, i < j ∧ dstOf ops i = some t) →
    (∀ i, i < j → (Rs i).stable ∧ OpObl P n ops L0 w0 Rs i) → DR P ops w0 fin l L F →
    ∃ Rs' : Nat → Sp, (∀ i, i < k → (Rs' i).stable ∧ OpObl P n ops L0 w0 Rs' i) ∧
      ∀ (a : Act) (w : World), Ext w0 w → (∀ i d, i < k → dstOf ops i = some d → (Rs' i).ok (a.tmps.getD d undef) w) → (∀ t s, lkp t L0 = some s → (∀ i, i < k → dstOf ops i ≠ some t) → a.tmps.getD t undef = s.den) →
        ∃ L', fin L' w ∧ Agr a L' := by
  intro l
  induction l with
  | nil =>
    intro j L F Rs hj hl hS hF hob h
    simp only [List.length_nil, Nat.add_zero] at hj
    subst hj
    refine ⟨Rs, hob, fun a w hw hres hold => ?_⟩
    have hslot := fun t => hS t (a.tmps.getD t undef) w (fun i hi hdi => hres i t hi hdi) (fun hno s hs => hold t s hs hno)
    obtain ⟨L', hk, hL'⟩ := InstAll_inst (fun t => a.tmps.getD t undef) F L (h w hw) fun t R hm => (hslot t).1 R hm
    refine ⟨L', hk, fun t s hs => ?_⟩
    rcases hL' t with h1 | ⟨h1, h2⟩
    · exact (h1 s hs).symm
    · exact (hslot t).2 h1 s (h2 ▸ hs)
  | cons o r ih =>
    intro j L F Rs hj hl hS hF hob h
    simp only [List.length_cons] at hj
    obtain ⟨R, hR, hop, hrest⟩ := h
    have ho : ops[j]? = some o := by have := hl 0 (by simp); simpa using this.symm
    obtain ⟨d, hdst⟩ := hd.dsts j o ho (by omega)
    have hdo : dstOf ops j = some d := by simp [dstOf, ho, hdst]
    rw [hdst] at hrest
    let Rs' : Nat → Sp := fun i => if i = j then R else Rs i
    have e1 : ∀ i, i < j → Rs' i = Rs i := fun i hi => if_neg (by omega)
    have e2 : Rs' j = R := if_pos rfl
    have hnoF : ∀ R', (d, R') ∉ F := fun R' hm => by
      obtain ⟨i, hi, hdi⟩ := hF d R' hm
      exact hd.uniq i j d (by omega) (by omega) (by omega) hdi hdo
    have hnew : OpObl P n ops L0 w0 Rs' j := by
      intro o' ho' a w hsz hw hlook
      rw [ho] at ho'; obtain rfl := Option.some.inj ho'
      have hlook := hlook.congr (Rs := Rs) e1
      have hslot : ∀ t, t ∈ o.looksAt ops → SlotOK L F t (a.tmps.getD t undef) w := fun t ht => hS t _ w (hlook t ht).1 (hlook t ht).2
      obtain ⟨L', hk, hL'⟩ := InstF_inst (fun t => a.tmps.getD t undef) F L (hop w hw) fun t R' hm ht => (hslot t ht).1 R' hm
      have hval : ∀ t, t ∈ o.looksAt ops → ∀ s, lkp t L' = some s → a.tmps.getD t undef = s.den := fun t ht s hs => by
        rcases hL' t ht with h1 | ⟨h1, h2⟩
        · exact (h1 s hs).symm
        · exact (hslot t ht).2 h1 s (h2 ▸ hs)
      rw [e2]
      unfold OPd at hk
      cases hg : o.guard with
      | none =>
        rw [hg] at hk
        have hw' : Region.wanted o (yielded ops a.tmps) = true := by simp [Region.wanted, hg]
        exact ⟨fun _ => opw_of_OP (hd.sel j o ho) hval hk, fun h => by rw [hw'] at h; cases h⟩
      | some p =>
        obtain ⟨g, want⟩ := p
        rw [hg] at hk
        obtain ⟨d', b, hd', hb, hy, hn⟩ := hk
        have hlk : d' ∈ o.looksAt ops := by
          refine List.mem_append_right _ ?_
          have : (ops[g]?).bind (·.dst) = some d' := hd'
          simp [hg, this]
        have hvb := hval d' hlk _ hb
        have hgl : ∃ og, ops[g]? = some og ∧ og.dst = some d' := by
          have : (ops[g]?).bind (·.dst) = some d' := hd'
          cases hog : ops[g]? with
          | none => rw [hog] at this; cases this
          | some og => exact ⟨og, rfl, by rw [hog] at this; exact this⟩
        obtain ⟨og, hog, hogd⟩ := hgl
        have hdn' := hd.dstn g og d' hog hogd
        have hyield : yielded ops a.tmps g = some b := by
          simp only [yielded, hog, Option.bind_some, hogd]
          rw [Array.getD_eq_getD_getElem?] at hvb
          have hlt : d' < a.tmps.size := by omega
          simp only [hlt, Array.getElem?_eq_getElem, Option.getD_some] at hvb ⊢
          rw [hvb]; rfl
        have hwd : Region.wanted o (yielded ops a.tmps) = (b == want) := by
          simp only [Region.wanted, hg, hyield]
          cases b <;> cases want <;> rfl
        refine ⟨fun h => opw_of_OP (hd.sel j o ho) hval (hy (by rw [hwd] at h; simpa using h)), fun h => hn ?_⟩
        rw [hwd] at h
        cases b <;> cases want <;> simp_all
    have hob' : ∀ i, i < j + 1 → (Rs' i).stable ∧ OpObl P n ops L0 w0 Rs' i := fun i hi => by
      by_cases hij : i = j
      · subst hij; exact ⟨e2 ▸ hR, hnew⟩
      · have := hob i (by omega)
        exact ⟨e1 i (by omega) ▸ this.1, this.2.congr fun i' hi' => e1 i' (by omega)⟩
    have hl' : ∀ i, i < r.length → r[i]? = ops[j + 1 + i]? := fun i hi => by
      have := hl (i + 1) (by simp; omega)
      simp only [List.getElem?_cons_succ] at this
      rw [this]; congr 1; omega
    have hSne : ∀ t v w, t ≠ d → (∀ i, i < j + 1 → dstOf ops i = some t → (Rs' i).ok v w) → ((∀ i, i < j + 1 → dstOf ops i ≠ some t) → ∀ s, lkp t L0 = some s → v = s.den) → SlotOK L F t v w := fun t v w ht h1 h2 =>
      hS t v w (fun i hi hdi => e1 i hi ▸ h1 i (by omega) hdi) (fun hno => h2 fun i hi => by
        by_cases hij : i = j
        · subst hij; rw [hdo]; exact fun e => ht (Option.some.inj e).symm
        · exact hno i (by omega))
    cases R with
    | rig s =>
      refine ih (j + 1) ((d, s) :: L) F Rs' (by omega) hl' ?_ (fun t R' hm => by obtain ⟨i, hi, hdi⟩ := hF t R' hm; exact ⟨i, by omega, hdi⟩) hob' hrest
      intro t v w h1 h2
      by_cases ht : t = d
      · subst ht
        have hv := h1 j (by omega) hdo
        rw [e2] at hv
        refine ⟨fun R' hm => absurd hm (hnoF R'), fun _ s' hs' => ?_⟩
        rw [lkp_cons, if_pos rfl] at hs'
        obtain rfl := Option.some.inj hs'
        exact hv
      · have := hSne t v w ht h1 h2
        exact ⟨this.1, fun hn s' hs' => this.2 hn s' (by rwa [lkp_cons, if_neg ht] at hs')⟩
    | flx R =>
      refine ih (j + 1) L ((d, R) :: F) Rs' (by omega) hl' ?_ (fun t R' hm => by
        rcases List.mem_cons.1 hm with h | h
        · cases h; exact ⟨j, by omega, hdo⟩
        · obtain ⟨i, hi, hdi⟩ := hF t R' h; exact ⟨i, by omega, hdi⟩) hob' hrest
      intro t v w h1 h2
      by_cases ht : t = d
      · subst ht
        have hv := h1 j (by omega) hdo
        rw [e2] at hv
        refine ⟨fun R' hm => ?_, fun hn => absurd (List.mem_cons_self) (hn R)⟩
        rcases List.mem_cons.1 hm with h | h
        · cases h; exact hv
        · exact absurd h (hnoF R')
      · have := hSne t v w ht h1 h2
        exact ⟨fun R' hm => by
          rcases List.mem_cons.1 hm with h | h
          · cases h; exact absurd rfl ht
          · exact this.1 R' h, fun hn => this.2 fun R' hm => hn R' (by simp [hm])⟩
theorem FW_draw {id : Nat} {l : List Oper} {Q : Post} {L : Lst} {w : World} (hm : P.follows .mixedOrders = true) (k : Nat) (hd : drawOK n k l.toArray = true)
    (h : DR P l.toArray w (fun L' w' => RL P n l.toArray Q (l.drop k) L' w') (l.take k) L []) : FW P n (.region id l.toArray true) Q L w := by
  intro a h1 h2 h3
  have hdk := drawOK_spec hd
  have hlen : (l.take k).length = k := by have := hdk.hk; simp at this; simp; omega
  obtain ⟨Rs, hob, hfin⟩ := DR_exists (n := n) (w0 := w) hdk (L0 := L) (l.take k) 0 L [] (fun _ => .rig (.v undef)) (by omega) (fun i hi => by rw [List.getElem?_take_of_lt (by omega)]; simp) (fun t v w _ h2 => ⟨(fun R hm => by cases hm), fun _ => h2 fun i hi => by omega⟩)
    (fun t R hm => by cases hm) (fun i hi => by omega) h
  refine wp_region_any hm ?_
  have hI : Inv n k l.toArray L w Rs (Array.replicate l.toArray.size false) a { w with drawn := w.drawn + 1 } := by
    have hno : ∀ j, ¬ Lstd (Array.replicate l.toArray.size false) j := fun j h => by
      unfold Lstd at h
      simp only [Array.getD_eq_getD_getElem?, Array.getElem?_replicate] at h
      split at h <;> simp at h
    exact ⟨by simp, h1, h2, Ext.drew w, fun j _ => hno j, fun j o _ h => absurd h (hno j), fun i d h => absurd h (hno i), fun t s hs _ => h3 t s hs⟩
  have hu : unl (Array.replicate l.toArray.size false) l.toArray.size = l.toArray.size := by
    have := unl_first (listed := Array.replicate l.toArray.size false) (m := 0) l.toArray.size (fun i hi => by
      have hi' : i < l.length := by simpa using hi
      unfold Lstd
      simp [hi'])
    simpa using this
  refine wpAny_draw hdk (fun i hi => (hob i hi).1) (fun j hj => (hob j hj).2) ?_ _ _ a _ hI hu
  intro a' w' h1' h2' hx hres hold
  obtain ⟨L', hL', hA⟩ := hfin a' w' hx hres hold
  have := hL' a' h1' h2' hA
  simpa using this
end
end Go.Eng

namespace Go.Eng
open Go Go.RowKit
set_option linter.unusedVariables false
def Blk (w : World) (b : Nat) (cells : List Value) : Prop := ∃ T, w.heap[b]? = some (.cells cells.toArray T (0, 0))
theorem Blk.lt {w : World} {b : Nat} {c : List Value} (h : Blk w b c) : b < w.heap.size := by
  obtain ⟨T, h⟩ := h; exact (Array.getElem?_eq_some_iff.1 h).1
theorem Blk.ext {w w' : World} {b : Nat} {c : List Value} (h : Blk w b c) (he : Ext w w') : Blk w' b c := by
  have hl := h.lt
  obtain ⟨T, h⟩ := h; exact ⟨T, by rw [he.block b hl]; exact h⟩
theorem Blk.grown {w w' : World} {b : Nat} {c : List Value} {r : Option Nat} (h : Blk w b c) (hg : w.grownBy w' r) (hne : r ≠ some b) : Blk w' b c := by
  have hl := h.lt
  obtain ⟨T, h⟩ := h; exact ⟨T, by rw [hg.block b hl (fun e => hne e.symm)]; exact h⟩
theorem Blk.cell {w : World} {b : Nat} {c : List Value} (h : Blk w b c) {j : Nat} {u : Value} (hu : c[j]? = some u) : w.cell? ⟨b, j, none⟩ = some u := by
  obtain ⟨T, h⟩ := h; simp [World.cell?, h, hu]
theorem Blk.frozen {w : World} {b : Nat} {c : List Value} (h : Blk w b c) (j : Nat) : w.frozen? ⟨b, j, none⟩ = false := by
  obtain ⟨T, h⟩ := h; simp [World.frozen?, h]
theorem Blk.cs {w : World} {b : Nat} {c : List Value} (h : Blk w b c) (j : Nat) : Cs w ⟨b, j, none⟩ (c.drop j) := fun i u hu => by
  rw [Addr.add_lit]; exact h.cell (by rw [← hu, List.getElem?_drop])
theorem Blk.set {w : World} {b : Nat} {c : List Value} (h : Blk w b c) (j : Nat) (u : Value) : Blk (w.setCell ⟨b, j, none⟩ u) b (c.set j u) := by
  obtain ⟨T, h⟩ := h
  refine ⟨T, ?_⟩
  simp only [World.setCell, Array.getElem?_modify, ↓reduceIte, h, Option.map_some]
  simp
theorem grownBy_setCell (w : World) (b j : Nat) (u : Value) : w.grownBy (w.setCell ⟨b, j, none⟩ u) (some b) :=
  ⟨rfl, rfl, rfl, by simp, fun k hk hne => Below.heap_setCell w _ _ k (fun e => hne (by rw [e]))⟩
theorem Blk.setRow {w : World} {b : Nat} {c c' : List Value} (h : Blk w b c) : Blk (w.setRow b c'.toArray) b c' := by
  obtain ⟨T, h⟩ := h; exact ⟨T, setRow_heap w b _ _ T _ h⟩
theorem grownBy_setRow (w : World) (b : Nat) (c : Array Value) : w.grownBy (w.setRow b c) (some b) := by
  refine ⟨rfl, rfl, rfl, by simp [World.setRow], fun k hk hne => ?_⟩
  simp only [World.setRow, Array.getElem?_modify]
  rw [if_neg (fun e => hne (by rw [e]))]
theorem Blk.sl {w : World} {b : Nat} {c : List Value} {sz n : Nat} (h : Blk w b c) (hl : c.length = n * sz) (hm : n ≤ maxLen) : Sl w sz (.slice (some ⟨b, 0, none⟩) n n) c n :=
  ⟨_, n, rfl, hl, Nat.le_refl _, hm, (fun h => by cases h), fun p hp => by obtain rfl := Option.some.inj hp; have := h.cs 0; simpa using this⟩
section
variable {P : Program} {L : Lst} {w : World} {ty : TypeId} {K : SV → World → Prop} {t e : Nat}
theorem OP_alloc {z : Value} (hz : (P.info? t).map (·.zero) = some (some z)) (hk : ∀ b w', Blk w' b z.cells.toList → w.heap.size ≤ b → Ext w w' → K (.v (.pointer (some ⟨b, 0, none⟩))) w') : OP P L (.alloc t) ty w K := by
  obtain ⟨i, hi, hzi⟩ := Option.map_eq_some_iff.1 hz
  refine OP_run (s := .v _) (fun ρ he => ?_) (hk w.heap.size (w.alloc (.cells z.cells t)) ⟨t, by rw [heap_alloc_new]⟩ (Nat.le_refl _) (Ext.alloc w _))
  have h1 : execOp ρ ⟨none, .alloc t, ty, "", #[], none⟩ = (do pure (.value (← Instr.alloc t true (.tuple #[])))) := rfl
  rw [h1]
  simp [Instr.alloc, zeroValue, typeInfo, hi, hzi, newVar, newRow, SV.den]
structure ArrT (P : Program) (t n e : Nat) : Prop where
  ht : P.underlying t = some (.array n e)
  h1 : (P.info? e).map (·.size) = some 1
theorem run_size_one (h : (P.info? e).map (·.size) = some 1) (w : World) : (sizeOf e).run P w = .ok 1 w := by
  obtain ⟨i, hi, hs⟩ := Option.map_eq_some_iff.1 h
  simp [sizeOf, typeInfo, hi, hs]
theorem OP_ixa {x j : Operand} {b o n : Nat} {i : Int} {k : IntKind} {sj : SV} (T : ArrT P t n e) (hx : evo L x = some (.v (.pointer (some ⟨b, o, none⟩)))) (hj : evo L j = some sj) (ej : sj.num = some (k, i)) (hb : 0 ≤ i ∧ i < n)
    (hk : K (.v (.pointer (some ⟨b, o + i.toNat, none⟩))) w) : OP P L (.indexAddr t x j) ty w K := by
  refine OP_run (fun ρ he => ?_) hk
  have h1 : execOp ρ ⟨none, .indexAddr t x j, ty, "", #[], none⟩ = (do pure (.value (← Instr.indexAt t (ρ x) (ρ j)))) := rfl
  rw [h1, he x _ hx, (he j _ hj).trans (SV.num_den ej)]
  simp only [Instr.indexAt, asIntOf, Sem.run_bind, Sem.run_pure, Result.andThen_ok, run_underlying T.ht, SV.den, Instr.sureAddr]
  rw [if_pos hb]
  simp [run_size_one T.h1, Addr.add_lit]
theorem OP_store {x y : Operand} {b j : Nat} {c : List Value} {s : SV} {d : TypeDesc} (hsz : (P.info? t).map (·.size) = some 1) (hx : evo L x = some (.v (.pointer (some ⟨b, j, none⟩)))) (hy : evo L y = some s) (h1 : s.den.oneCell' = true) (hb : Blk w b c) (hj : j < c.length)
    (hk : ∀ s' w', Blk w' b (c.set j s.den) → w.grownBy w' (some b) → K s' w') : OP P L (.store t x y) ty w K := by
  intro ρ he
  unfold opw
  have h2 : execOp ρ ⟨none, .store t x y, ty, "", #[], none⟩ = (do Instr.storeAt t (ρ x) (ρ y); pure .skip) := rfl
  have hcells : s.den.cells = #[s.den] := by
    cases hd : s.den <;> first | rfl | (rw [hd] at h1; cases h1)
  rw [h2, he x _ hx, he y _ hy]
  generalize s.den = u at h1 hk hcells
  have hst : (store (⟨b, j, none⟩ : Addr) u).run P w = .ok () (w.setCell ⟨b, j, none⟩ u) := by
    rw [run_store P w _ _ _ h1, hb.cell (List.getElem?_eq_getElem hj), hb.frozen]
    simp
  have hrun : (Instr.storeAt t (SV.v (.pointer (some ⟨b, j, none⟩))).den u).run P w = .ok () (w.setCell ⟨b, j, none⟩ u) := by
    simp only [Instr.storeAt, SV.den, Instr.sureAddr, Sem.run_bind, Sem.run_pure, Result.andThen_ok, storeVar, hcells, run_size_one hsz]
    simp [storeCells, hst, Addr.add]
  simp only [Sem.run_bind, hrun, Result.andThen_ok, Sem.run_pure]
  exact ⟨.v undef, rfl, hk _ _ (hb.set j _) (grownBy_setCell w b j _)⟩
theorem OP_loada {x : Operand} {b n : Nat} {c : List Value} {d : TypeDesc} (ht : P.underlying t = some d) (hd : plainT d = false) (hsz : (P.info? t).map (·.size) = some n) (hx : evo L x = some (.v (.pointer (some ⟨b, 0, none⟩)))) (hb : Blk w b c) (hn : c.length = n)
    (hk : K (.v (.agg c.toArray)) w) : OP P L (.load t x) ty w K := by
  refine OP_run (fun ρ he => ?_) hk
  obtain ⟨i, hi, hs⟩ := Option.map_eq_some_iff.1 hsz
  have h1 : execOp ρ ⟨none, .load t x, ty, "", #[], none⟩ = (do pure (.value (← Instr.loadAt t (ρ x)))) := rfl
  have hagg : (isAgg t).run P w = .ok true w := by
    simp only [isAgg, Sem.run_bind, run_underlying ht, Result.andThen_ok]
    cases d <;> first | (cases hd; done) | rfl
  have hl : (loadCells ⟨b, 0, none⟩ n).run P w = .ok c.toArray w := by
    have := run_loadCells_list (P := P) (w := w) ⟨b, 0, none⟩ c (by have := hb.cs 0; rw [List.drop_zero] at this; exact this)
    rw [hn] at this; exact this
  rw [h1, he x _ hx]
  simp [Instr.loadAt, Instr.sureAddr, SV.den, loadVar, hagg, sizeOf, typeInfo, hi, hs, hl]
theorem OP_storea {x y : Operand} {b n : Nat} {c c' : List Value} {d : TypeDesc} (hsz : (P.info? t).map (·.size) = some n) (hx : evo L x = some (.v (.pointer (some ⟨b, 0, none⟩)))) (hy : evo L y = some (.v (.agg c'.toArray))) (h1 : ∀ u ∈ c', u.oneCell' = true) (hb : Blk w b c) (hn : c.length = n) (hn' : c'.length = n)
    (hk : ∀ s' w', Blk w' b c' → w.grownBy w' (some b) → K s' w') : OP P L (.store t x y) ty w K := by
  intro ρ he
  unfold opw
  obtain ⟨i, hi, hs⟩ := Option.map_eq_some_iff.1 hsz
  have h2 : execOp ρ ⟨none, .store t x y, ty, "", #[], none⟩ = (do Instr.storeAt t (ρ x) (ρ y); pure .skip) := rfl
  rw [h2, he x _ hx, he y _ hy]
  obtain ⟨T, hT⟩ := id hb
  have hst := run_storeCells_at P b 0 T c' 0 c.toArray w hT (by simp; omega) h1
  simp only [Nat.add_zero, Nat.zero_add, List.take_zero, List.nil_append] at hst
  have hdrop : c.toArray.toList.drop c'.length = [] := List.drop_of_length_le (by simp; omega)
  rw [hdrop, List.append_nil] at hst
  have hrun : (Instr.storeAt t (SV.v (.pointer (some ⟨b, 0, none⟩))).den (SV.v (.agg c'.toArray)).den).run P w = .ok () (w.setRow b c'.toArray) := by
    simp only [Instr.storeAt, SV.den, Instr.sureAddr, Sem.run_bind, Sem.run_pure, Result.andThen_ok, storeVar, sizeOf, typeInfo, run_program, hi, hs, Value.cells]
    simp [hn', hst]
  simp only [Sem.run_bind, hrun, Result.andThen_ok, Sem.run_pure]
  exact ⟨.v undef, rfl, hk _ _ hb.setRow (grownBy_setRow w b _)⟩
theorem OP_builda {parts : Array (Nat × Operand)} {n : Nat} {ss : List SV} {z : Value} (T : ArrT P t n e) (hz : (P.info? t).map (·.zero) = some (some z)) (hzn : z.cells.size = n) (hp : evparts L 0 parts.toList = some ss) (hlen : ss.length = n) (h1 : ∀ s ∈ ss, s.den.oneCell' = true)
    (hk : K (.v (.agg (ss.map SV.den).toArray)) w) : OP P L (.build t parts) ty w K := by
  refine OP_run (fun ρ he => ?_) hk
  obtain ⟨i, hi, hzi⟩ := Option.map_eq_some_iff.1 hz
  have h2 : execOp ρ ⟨none, .build t parts, ty, "", #[], none⟩ = (do pure (.value (← Instr.build t (parts.map fun (i, x) => (i, ρ x))))) := rfl
  have hps : (parts.map fun (i, x) => (i, ρ x)).toList = ((ss.map SV.den).zipIdx 0).map fun (v, i) => (i, v) := by
    rw [Array.toList_map]; exact evparts_val he _ _ _ hp
  have hf := fill_ones (ss.map SV.den) (by intro v hv; obtain ⟨s, hs, rfl⟩ := List.mem_map.1 hv; exact h1 s hs) 0 z.cells (by simp [hlen, hzn])
  simp only [Nat.mul_one, List.take_zero, List.nil_append] at hf
  rw [h2]
  simp only [Instr.build, Sem.run_bind, zeroValue, typeInfo, run_program, hi, Result.andThen_ok, hzi, Sem.run_pure, run_underlying T.ht, run_size_one T.h1, hps, Nat.mul_one, hf, SV.den]
theorem OP_slicea {x : Operand} {b n : Nat} (T : ArrT P t n e) (hx : evo L x = some (.v (.pointer (some ⟨b, 0, none⟩)))) (hk : K (.v (.slice (some ⟨b, 0, none⟩) n n)) w) : OP P L (.slice t x none none none) ty w K := by
  refine OP_run (fun ρ he => ?_) hk
  have h1 : execOp ρ ⟨none, .slice t x none none none, ty, "", #[], none⟩ = (do pure (.value (← Instr.sliceAt t (ρ x) none none none))) := rfl
  rw [h1, he x _ hx]
  simp only [Instr.sliceAt, SV.den, Sem.run_bind, run_underlying T.ht, Result.andThen_ok, Instr.sureAddr, Sem.run_pure, Instr.sliceBounds, run_size_one T.h1]
  simp [Addr.add]
theorem OP_ixk {x j : Operand} {p : Addr} {n cap sz bytes : Nat} {i : Int} {k : IntKind} {sj : SV} {z : Value} (T : SliceT P t e z sz bytes) (hx : evo L x = some (.v (.slice (some p) n cap))) (hj : evo L j = some sj) (ej : sj.num = some (k, i)) (b : 0 ≤ i ∧ i < n)
    (hk : K (.v (.pointer (some (p.add (i.toNat * sz))))) w) : OP P L (.indexAddr t x j) ty w K := by
  refine OP_run (fun ρ he => ?_) hk
  have h1 : execOp ρ ⟨none, .indexAddr t x j, ty, "", #[], none⟩ = (do pure (.value (← Instr.indexAt t (ρ x) (ρ j)))) := rfl
  rw [h1, he x _ hx, (he j _ hj).trans (SV.num_den ej)]
  simp only [Instr.indexAt, asIntOf, Sem.run_bind, Sem.run_pure, Result.andThen_ok, run_underlying T.ht, SV.den]
  rw [if_pos b]
  simp [T.run_size]
def evs (L : Lst) : List Operand → Option (List SV)
  | [] => some []
  | x :: r => match evo L x, evs L r with | some s, some ss => some (s :: ss) | _, _ => none
theorem evs_val {ρ : Operand → Value} (he : Val ρ L) : ∀ (xs : List Operand) (ss : List SV), evs L xs = some ss → xs.map ρ = ss.map SV.den := by
  intro xs
  induction xs with
  | nil => intro ss h; simp only [evs, Option.some.injEq] at h; subst h; rfl
  | cons x r ih =>
    intro ss h
    simp only [evs] at h
    split at h
    · rename_i s ss' h1 h2
      obtain rfl := Option.some.inj h
      rw [List.map_cons, List.map_cons, ih _ h2, he x s h1]
    · cases h
def Ent (P : Program) (f : FuncId) : Prop := ∀ args w, (callFunc f args).run P w = .ok (.enter f args) w
theorem Ent.mk {f : FuncId} {fn : Func} {c : Code} (hf : P.funcs[f]? = some fn) (hn : (fn.name == "runtime.NumGoroutine") = false) (hb : fn.body = some c) : Ent P f := by
  intro args w
  have hn' : fn.name ≠ "runtime.NumGoroutine" := by simpa using hn
  simp [callFunc, hf, hn', hb]
theorem OP_callv {fx : Operand} {xs : Array Operand} {ats : Array TypeId} {f : FuncId} {first cap : Array Value} {ss : List SV} {R : Value → World → Prop} (hen : Ent P f) (hf : evo L fx = some (.v (.func (.func f) first cap))) (ha : evs L xs.toList = some ss)
    (hc : Calls P f (first ++ (ss.map SV.den).toArray ++ cap) w (Ret R)) (hk : ∀ v w', R v w' → K (.v v) w') : OP P L (.call { callee := .value fx, args := xs, argTypes := ats }) ty w K := by
  intro ρ he
  unfold opw
  have h1 : execOp ρ ⟨none, .call { callee := .value fx, args := xs, argTypes := ats }, ty, "", #[], none⟩ = (do let d ← resolve ρ { callee := .value fx, args := xs, argTypes := ats } ty; invoke d.target d.args) := rfl
  have hargs : xs.map ρ = (ss.map SV.den).toArray := by
    have := evs_val he _ _ ha
    apply Array.ext'
    rw [Array.toList_map]; exact this
  have hr : (execOp ρ ⟨none, .call { callee := .value fx, args := xs, argTypes := ats }, ty, "", #[], none⟩).run P w = .ok (.enter f (first ++ (ss.map SV.den).toArray ++ cap)) w := by
    rw [h1]
    simp only [resolve, he fx _ hf, SV.den, Deferred.ofValue, Sem.run_bind, Sem.run_pure, Result.andThen_ok, invoke, hargs, hen _ w]
  rw [hr]
  refine hc.mono fun e w' h => ?_
  cases e with
  | returned v => exact ⟨.v v, rfl, hk v w' h⟩
  | panicked ch => exact h
  | outgrown => exact h
theorem OP_call {xs : Array Operand} {ats : Array TypeId} {f : FuncId} {ss : List SV} {R : Value → World → Prop} (hen : Ent P f) (ha : evs L xs.toList = some ss)
    (hc : Calls P f (ss.map SV.den).toArray w (Ret R)) (hk : ∀ v w', R v w' → K (.v v) w') : OP P L (.call { callee := .value (.func f), args := xs, argTypes := ats }) ty w K :=
  OP_callv hen rfl ha (by simpa using hc) hk
theorem OP_call32 {xs : Array Operand} {ats : Array TypeId} {f : FuncId} {ss : List SV} {y : UInt32} {R : World → Prop} (hen : Ent P f) (ha : evs L xs.toList = some ss)
    (hc : Calls P f (ss.map SV.den).toArray w (Ret fun v w' => v = wordV y ∧ R w')) (hk : ∀ w', R w' → K (.u32 y) w') : OP P L (.call { callee := .value (.func f), args := xs, argTypes := ats }) ty w K := by
  intro ρ he
  refine opw_mono (OP_call (K := fun s w' => s.den = wordV y ∧ R w') hen ha hc (fun v w' h => h) ρ he) ?_
  rintro v w' ⟨s, rfl, h1, h2⟩
  exact ⟨.u32 y, h1.symm, hk w' h2⟩
theorem OP_call32s {xs : Array Operand} {ats : Array TypeId} {f : FuncId} {ss : List SV} {y : UInt32} (hen : Ent P f) (ha : evs L xs.toList = some ss)
    (hc : Calls P f (ss.map SV.den).toArray w (Ret fun v w' => v = wordV y ∧ w = w')) (hk : K (.u32 y) w) : OP P L (.call { callee := .value (.func f), args := xs, argTypes := ats }) ty w K :=
  OP_call32 hen ha hc fun w' h => h ▸ hk
end
section
variable {P : Program} {ops : Array Oper} {w0 : World} {fin : Lst → World → Prop} {d : Nat} {op : Op} {ty : TypeId} {pos : String} {af : Array Edge} {r : List Oper} {L : Lst} {F : Flx}
def freeF (lk : List Nat) : Flx → Bool
  | [] => true
  | (t, _) :: r => !lk.contains t && freeF lk r
theorem InstF_free {lk : List Nat} {w : World} {kk : Lst → Prop} : ∀ {F : Flx} {L : Lst}, freeF lk F = true → kk L → InstF lk w kk F L := by
  intro F
  induction F with
  | nil => intro L _ h; exact h
  | cons p r ih =>
    intro L hf h
    obtain ⟨t, R⟩ := p
    simp only [freeF, Bool.and_eq_true, Bool.not_eq_true'] at hf
    unfold InstF
    rw [hf.1]
    exact ih hf.2 h
def lks (op : Op) : List Nat := (op.operands.toList.filterMap fun | .tmp t => some t | _ => none) ++ []
theorem dr {s : SV} (hf : freeF (lks op) F = true) (h : ∀ w, Ext w0 w → OP P L op ty w fun s' w' => Ext w w' ∧ s'.den = s.den) (hr : DR P ops w0 fin r ((d, s) :: L) F) : DR P ops w0 fin (⟨some d, op, ty, pos, af, none⟩ :: r) L F :=
  ⟨.rig s, Sp.stable_rig s, fun w he => InstF_free hf (h w he), hr⟩
theorem drR (R : Value → World → Prop) (hst : ∀ v w w', R v w → Ext w w' → R v w') (hf : freeF (lks op) F = true) (h : ∀ w, Ext w0 w → OP P L op ty w fun s' w' => Ext w w' ∧ R s'.den w') (hr : DR P ops w0 fin r L ((d, R) :: F)) : DR P ops w0 fin (⟨some d, op, ty, pos, af, none⟩ :: r) L F :=
  ⟨.flx R, hst, fun w he => InstF_free hf (h w he), hr⟩
theorem dr_end (h : ∀ w, Ext w0 w → fin L w) : DR P ops w0 fin [] L [] := h
theorem dr_end1 {t : Nat} {R : Value → World → Prop} (h : ∀ w, Ext w0 w → ∀ v, R v w → fin ((t, .v v) :: L) w) : DR P ops w0 fin [] L [(t, R)] := h
end
end Go.Eng

namespace Go.Eng
open Go Go.RowKit
set_option linter.unusedVariables false
abbrev Own {α : Type} (f : α → Value) (e base : Nat) (w : World) (v : Value) (l : List α) : Prop := w.ownsRow base e 1 v l.length (l.map f)
abbrev Hold {α : Type} (f : α → Value) (w : World) (v : Value) (l : List α) : Prop := Sl w 1 v (l.map f) l.length
theorem Own.hold {α : Type} {f : α → Value} {e base : Nat} {w : World} {v : Value} {l : List α} (h : Own f e base w v l) : Hold f w v l := Sl.of_own h
theorem Own.ext {α : Type} {f : α → Value} {e base : Nat} {w w' : World} {v : Value} {l : List α} (h : Own f e base w v l) (he : Ext w w') : Own f e base w' v l :=
  h.kept (grownBy.of_ext he none) (by cases hv : v.ownBlock <;> simp)
theorem Own.grown {α : Type} {f : α → Value} {e base : Nat} {w w' : World} {v : Value} {l : List α} {r : Option Nat} (h : Own f e base w v l) (hg : w.grownBy w' r) (hne : ∀ g, v.ownBlock = some g → r ≠ some g) : Own f e base w' v l :=
  h.kept hg (by
    cases hv : v.ownBlock with
    | none => exact .inl rfl
    | some g => exact .inr (fun e => hne g hv e.symm))
theorem Own.base_le {α : Type} {f : α → Value} {e base base' : Nat} {w : World} {v : Value} {l : List α} (h : Own f e base w v l) (hb : base' ≤ base) : Own f e base' w v l := by
  refine ⟨h.1, ?_⟩
  rcases h.2 with h2 | ⟨g, cap, cur, h1, h2, h3⟩
  · exact .inl h2
  · exact .inr ⟨g, cap, cur, h1, Nat.le_trans hb h2, h3⟩
theorem Own.nil {α : Type} (f : α → Value) (e base : Nat) (w : World) : Own f e base w (.slice none 0 0) ([] : List α) := World.ownsRow_nil w base e 1
theorem Own.lt {α : Type} {f : α → Value} {e base : Nat} {w : World} {v : Value} {l : List α} (h : Own f e base w v l) {g : Nat} (hg : v.ownBlock = some g) : base ≤ g ∧ g < w.heap.size := World.ownsRow.lt h g hg
theorem Hold.nil {α : Type} (f : α → Value) (w : World) : Hold f w (.slice none 0 0) ([] : List α) := Sl.nil w 1
theorem Hold.one {α : Type} {f : α → Value} (h1 : ∀ a, (f a).oneCell' = true) (l : List α) : ∀ c ∈ l.map f, c.oneCell' = true := by
  intro c hc; obtain ⟨b, _, rfl⟩ := List.mem_map.1 hc; exact h1 b
def evF {α : Type} (g : SV → Option α) (L : Lst) (k : Nat) : List (Nat × Operand) → Option (List α)
  | [] => some []
  | (i, x) :: r => bif Nat.beq i k then (match evo L x with | some s => (match g s, evF g L (k + 1) r with | some a, some as => some (a :: as) | _, _ => none) | none => none) else none
def SV.byte? : SV → Option UInt8 | .u8 b => some b | _ => none
def SV.word? : SV → Option UInt32 | .u32 b => some b | _ => none
def SV.int? : SV → Option Int | .v (.int .i64 n) => some n | _ => none
def SV.raw? : SV → Option Value | .v x => some x | _ => none
theorem evF_parts {α : Type} {f : α → Value} {g : SV → Option α} (hg : ∀ s a, g s = some a → s.den = f a) {L : Lst} : ∀ (ps : List (Nat × Operand)) (k : Nat) (l : List α), evF g L k ps = some l → ∃ ss, evparts L k ps = some ss ∧ ss.map SV.den = l.map f := by
  intro ps
  induction ps with
  | nil => intro k l h; simp only [evF, Option.some.injEq] at h; subst h; exact ⟨[], rfl, rfl⟩
  | cons p r ih =>
    intro k l h
    obtain ⟨i, x⟩ := p
    simp only [evF] at h
    cases hb : Nat.beq i k with
    | false => rw [hb] at h; cases h
    | true =>
      rw [hb] at h
      simp only [cond_true] at h
      cases hx : evo L x with
      | none => rw [hx] at h; cases h
      | some s =>
        rw [hx] at h
        simp only at h
        split at h
        · rename_i a as h1 h2
          obtain rfl := Option.some.inj h
          obtain ⟨ss, e1, e2⟩ := ih _ _ h2
          exact ⟨s :: ss, by simp [evparts, hb, hx, e1], by simp [e2, hg s a h1]⟩
        · cases h
theorem byte_ok (s : SV) (a : UInt8) (h : s.byte? = some a) : s.den = byteV a := by cases s <;> simp_all [SV.byte?, SV.den]
theorem word_ok (s : SV) (a : UInt32) (h : s.word? = some a) : s.den = wordV a := by cases s <;> simp_all [SV.word?, SV.den]
theorem byteV_1 (b : UInt8) : (byteV b).oneCell' = true := rfl
theorem wordV_1 (b : UInt32) : (wordV b).oneCell' = true := rfl
section
variable {P : Program} {L : Lst} {w : World} {ty : TypeId} {K : SV → World → Prop} {t e bytes : Nat} {z : Value} {α : Type} {f : α → Value}
theorem OP_app {s x : Operand} {v u : Value} {base : Nat} {l m : List α} (T : SliceT P t e z 1 bytes) (h1 : ∀ a, (f a).oneCell' = true) (hs : evo L s = some (.v v)) (hx : evo L x = some (.v u)) (hown : Own f e base w v l) (hsl : Hold f w u m)
    (hb : (l.length + m.length) * bytes ≤ 140737488355328 ∧ 0 < bytes) (hbase : base ≤ w.heap.size)
    (hk : ∀ v' w', Own f e base w' v' (l ++ m) → Below base w w' → w.grownBy w' v.ownBlock → K (.v v') w') :
    OP P L (.call { callee := .builtin .append, args := #[s, x], argTypes := #[t, t] }) ty w K :=
  OP_append T hs hx hown hsl (Hold.one h1 m) ⟨by have := Nat.le_mul_of_pos_right (l.length + m.length) hb.2; unfold maxLen; omega, hb.1⟩ hbase (fun v' w' ho hbl hg => hk v' w' (by
    unfold Own; rw [List.length_append, List.map_append]; exact ho) hbl hg)
theorem OP_mk0 (α : Type) (f : α → Value) {l c : Operand} {base n : Nat} (T : SliceT P t e z 1 bytes) (hl : evo L l = some (.v (.int .i64 0))) (hc : evo L c = some (.v (.int .i64 (n : Int)))) (hb : bytes * n ≤ 281474976710656 ∧ 0 < bytes) (hbase : base ≤ w.heap.size)
    (hk : ∀ v' w', Own f e base w' v' ([] : List α) → Ext w w' → K (.v v') w') : OP P L (.makeSlice t l c) ty w K :=
  OP_make0 T hl hc ⟨hb.1, by have := Nat.le_mul_of_pos_left n hb.2; unfold maxLen; omega⟩ hbase hk
theorem OP_li {parts : Array (Nat × Operand)} {len base : Nat} {l : List α} {g : SV → Option α} (hg : ∀ s a, g s = some a → s.den = f a) (h1 : ∀ a, (f a).oneCell' = true) (T : SliceT P t e z 1 bytes) (hp : evF g L 0 parts.toList = some l) (hlen : Nat.beq l.length len = true) (hmax : Nat.ble len 16777216 = true) (hbase : base ≤ w.heap.size)
    (hk : ∀ v' w', Own f e base w' v' l → Tight v' → v'.ownBlock = some w.heap.size → Ext w w' → K (.v v') w') : OP P L (.buildSlice t len parts) ty w K := by
  obtain ⟨ss, hss, hm⟩ := evF_parts hg _ _ _ hp
  have hsl : ss.length = l.length := by have := congrArg List.length hm; simpa using this
  have hlen' : l.length = len := by simpa using hlen
  refine OP_lit T hss (by rw [hsl]; exact hlen) (fun s hs => ?_) hmax hbase (fun v' w' ho ht hbk he => hk v' w' (by unfold Own; rw [hlen', ← hm]; exact ho) ht hbk he)
  have : s.den ∈ l.map f := by rw [← hm]; exact List.mem_map.2 ⟨s, hs, rfl⟩
  obtain ⟨a, _, ha⟩ := List.mem_map.1 this
  rw [← ha]; exact h1 a
section cuts
variable {x l h m : Operand} {v : Value} {q : List α} {il ih im : Int}
theorem OP_cut_lh (T : SliceT P t e z 1 bytes) (hx : evo L x = some (.v v)) (hv : Hold f w v q) (hl : evo L l = some (.v (.int .i64 il))) (hh : evo L h = some (.v (.int .i64 ih))) (b : 0 ≤ il ∧ il ≤ ih ∧ ih ≤ q.length)
    (hk : ∀ v', Hold f w v' ((q.drop il.toNat).take (ih.toNat - il.toNat)) → v'.ownBlock = v.ownBlock → K (.v v') w) : OP P L (.slice t x (some l) (some h) none) ty w K :=
  OP_slice_lh T hx hv hl hh b fun v' hs ho => hk v' (by
    unfold Hold; rw [List.map_take, List.map_drop, List.length_take, List.length_drop, Nat.min_eq_left (by omega)]; simpa using hs) ho
theorem OP_cut_h (T : SliceT P t e z 1 bytes) (hx : evo L x = some (.v v)) (hv : Hold f w v q) (hh : evo L h = some (.v (.int .i64 ih))) (b : 0 ≤ ih ∧ ih ≤ q.length)
    (hk : ∀ v', Hold f w v' (q.take ih.toNat) → v'.ownBlock = v.ownBlock → K (.v v') w) : OP P L (.slice t x none (some h) none) ty w K :=
  OP_slice_h T hx hv hh b fun v' hs ho => hk v' (by
    unfold Hold; rw [List.map_take, List.length_take, Nat.min_eq_left (by omega)]; simpa using hs) ho
theorem OP_cut_l (T : SliceT P t e z 1 bytes) (hx : evo L x = some (.v v)) (hv : Hold f w v q) (hl : evo L l = some (.v (.int .i64 il))) (b : 0 ≤ il ∧ il ≤ q.length)
    (hk : ∀ v', Hold f w v' (q.drop il.toNat) → v'.ownBlock = v.ownBlock → K (.v v') w) : OP P L (.slice t x (some l) none none) ty w K :=
  OP_slice_l T hx hv hl b fun v' hs ho => hk v' (by
    unfold Hold; rw [List.map_drop, List.length_drop]; simpa using hs) ho
theorem OP_el {j : Operand} {i : Int} {k : IntKind} {sj : SV} (T : SliceT P t e z 1 bytes) (hx : evo L x = some (.v v)) (hv : Hold f w v q) (hj : evo L j = some sj) (ej : sj.num = some (k, i)) (b : 0 ≤ i ∧ i < q.length)
    (hk : ∀ p a, q[i.toNat]? = some a → w.cell? p = some (f a) → K (.v (.pointer (some p))) w) : OP P L (.indexAddr t x j) ty w K :=
  OP_ix1 T hx hv hj ej b fun p u hu hc => by
    rw [List.getElem?_map, Option.map_eq_some_iff] at hu
    obtain ⟨a, ha, rfl⟩ := hu
    exact hk p a ha hc
end cuts
end
abbrev BlkW (w : World) (b : Nat) (ws : List UInt32) : Prop := Blk w b (ws.map wordV)
theorem BlkW.at {w w' : World} {b : Nat} {ws : List UInt32} (h : BlkW w b ws) (he : Ext w w') (j : Nat) (hj : j < ws.length) : w'.cell? ⟨b, 0 + j, none⟩ = some (wordV (ws.getD j 0)) := by
  refine (h.ext he).cell ?_
  rw [Nat.zero_add, List.getElem?_map, List.getElem?_eq_getElem hj]
  simp [List.getD, hj]
section
variable {P : Program} {L : Lst} {w : World} {ty : TypeId} {K : SV → World → Prop} {t : Nat}
theorem OP_stw {x y : Operand} {b j : Nat} {ws : List UInt32} {a : UInt32} (hsz : (P.info? t).map (·.size) = some 1) (hx : evo L x = some (.v (.pointer (some ⟨b, 0 + j, none⟩)))) (hy : evo L y = some (.u32 a)) (hb : BlkW w b ws) (hj : j < ws.length)
    (hk : ∀ s' w', BlkW w' b (ws.set j a) → w.grownBy w' (some b) → K s' w') : OP P L (.store t x y) ty w K :=
  OP_store (d := .bool) hsz hx hy rfl hb (by simpa using hj) fun s' w' h g => hk s' w' (by
    unfold BlkW; rw [List.map_set]; simpa [SV.den] using h) g
theorem OP_bw {e : Nat} {parts : Array (Nat × Operand)} {n : Nat} {l : List UInt32} {z : Value} (T : ArrT P t n e) (hz : (P.info? t).map (·.zero) = some (some z)) (hzn : z.cells.size = n) (hp : evF SV.word? L 0 parts.toList = some l) (hlen : Nat.beq l.length n = true)
    (hk : K (.v (.agg (l.map wordV).toArray)) w) : OP P L (.build t parts) ty w K := by
  obtain ⟨ss, hss, hm⟩ := evF_parts word_ok _ _ _ hp
  have hsl : ss.length = l.length := by have := congrArg List.length hm; simpa using this
  have hlen' : l.length = n := by simpa using hlen
  refine OP_builda T hz hzn hss (by omega) (fun s hs => ?_) (by rw [hm]; exact hk)
  have : s.den ∈ l.map wordV := by rw [← hm]; exact List.mem_map.2 ⟨s, hs, rfl⟩
  obtain ⟨a, _, ha⟩ := List.mem_map.1 this
  rw [← ha]; rfl
theorem OP_stws {x y : Operand} {b n : Nat} {ws l : List UInt32} (hsz : (P.info? t).map (·.size) = some n) (hx : evo L x = some (.v (.pointer (some ⟨b, 0, none⟩)))) (hy : evo L y = some (.v (.agg (l.map wordV).toArray))) (hb : BlkW w b ws) (hn : ws.length = n) (hl : l.length = n)
    (hk : ∀ s' w', BlkW w' b l → w.grownBy w' (some b) → K s' w') : OP P L (.store t x y) ty w K :=
  OP_storea (d := .bool) hsz hx hy (Hold.one wordV_1 l) hb (by simpa using hn) (by simpa using hl) hk
end
theorem set_snoc {α : Type} (l : List α) (n : Nat) (z x : α) (h : 0 < n) : (l ++ List.replicate n z).set l.length x = (l ++ [x]) ++ List.replicate (n - 1) z := by
  rw [List.set_append_right _ _ (Nat.le_refl _), Nat.sub_self]
  obtain ⟨m, rfl⟩ : ∃ m, n = m + 1 := ⟨n - 1, by omega⟩
  simp [List.replicate_succ]
theorem getD_left {α : Type} (l r : List α) (z : α) (i : Nat) (h : i < l.length) : (l ++ r).getD i z = l.getD i z := by
  simp [List.getD, List.getElem?_append_left h]
end Go.Eng

namespace Go.Eng
set_option linter.unusedVariables false
def rol (x : UInt32) (s : Nat) : UInt32 := (x <<< UInt32.ofNat s) ||| (x >>> UInt32.ofNat (32 - s))
def ror (x : UInt32) (s : Nat) : UInt32 := (x >>> UInt32.ofNat s) ||| (x <<< UInt32.ofNat (32 - s))
theorem rol_ror (x : UInt32) (s t : Nat) (h : s + t = 32) : rol x s = ror x t := by
  have e1 : 32 - s = t := by omega
  have e2 : 32 - t = s := by omega
  simp only [rol, ror, e1, e2]
  exact UInt32.or_comm _ _
def be32 (l : List UInt8) (k : Nat) : UInt32 :=
  (l.getD k 0).toUInt32 <<< 24 ||| (l.getD (k + 1) 0).toUInt32 <<< 16 ||| (l.getD (k + 2) 0).toUInt32 <<< 8 ||| (l.getD (k + 3) 0).toUInt32
def zerosN (n : Nat) : Nat := (119 - n % 64) % 64
def be64 (n : UInt64) : List UInt8 := (List.range 8).map fun m => (n >>> UInt64.ofNat (56 - 8 * m)).toUInt8
def padB (l : List UInt8) : List UInt8 := l ++ [128] ++ List.replicate (zerosN l.length) 0 ++ be64 (UInt64.ofInt (l.length : Int) * 8)
theorem padB_len (l : List UInt8) : (padB l).length = 64 * ((l.length + 72) / 64) := by
  simp [padB, be64, zerosN]; omega
theorem be64_take (n : UInt64) (m : Nat) (h : m < 8) : (be64 n).take (m + 1) = (be64 n).take m ++ [(n >>> UInt64.ofNat (56 - 8 * m)).toUInt8] := by
  rw [List.take_succ_eq_append_getElem (by simpa [be64] using h)]
  simp [be64]
theorem be64_take8 (n : UInt64) : (be64 n).take 8 = be64 n := List.take_of_length_le (by simp [be64])
def k256 : List UInt32 := [
    0x428a2f98, 0x71374491, 0xb5c0fbcf, 0xe9b5dba5, 0x3956c25b, 0x59f111f1, 0x923f82a4, 0xab1c5ed5,
    0xd807aa98, 0x12835b01, 0x243185be, 0x550c7dc3, 0x72be5d74, 0x80deb1fe, 0x9bdc06a7, 0xc19bf174,
    0xe49b69c1, 0xefbe4786, 0x0fc19dc6, 0x240ca1cc, 0x2de92c6f, 0x4a7484aa, 0x5cb0a9dc, 0x76f988da,
    0x983e5152, 0xa831c66d, 0xb00327c8, 0xbf597fc7, 0xc6e00bf3, 0xd5a79147, 0x06ca6351, 0x14292967,
    0x27b70a85, 0x2e1b2138, 0x4d2c6dfc, 0x53380d13, 0x650a7354, 0x766a0abb, 0x81c2c92e, 0x92722c85,
    0xa2bfe8a1, 0xa81a664b, 0xc24b8b70, 0xc76c51a3, 0xd192e819, 0xd6990624, 0xf40e3585, 0x106aa070,
    0x19a4c116, 0x1e376c08, 0x2748774c, 0x34b0bcb5, 0x391c0cb3, 0x4ed8aa4a, 0x5b9cca4f, 0x682e6ff3,
    0x748f82ee, 0x78a5636f, 0x84c87814, 0x8cc70208, 0x90befffa, 0xa4506ceb, 0xbef9a3f7, 0xc67178f2]
def h256 : List UInt32 := [0x6a09e667, 0xbb67ae85, 0x3c6ef372, 0xa54ff53a, 0x510e527f, 0x9b05688c, 0x1f83d9ab, 0x5be0cd19]
def h1 : List UInt32 := [0x67452301, 0xefcdab89, 0x98badcfe, 0x10325476, 0xc3d2e1f0]
def sg0 (x : UInt32) : UInt32 := ror x 7 ^^^ ror x 18 ^^^ x >>> 3
def sg1 (x : UInt32) : UInt32 := ror x 17 ^^^ ror x 19 ^^^ x >>> 10
def next256 (b : List UInt8) (ws : List UInt32) (t : Nat) : UInt32 :=
  if t < 16 then be32 b (4 * t) else sg1 (ws.getD (t - 2) 0) + ws.getD (t - 7) 0 + sg0 (ws.getD (t - 15) 0) + ws.getD (t - 16) 0
def sch256 (b : List UInt8) : Nat → List UInt32
  | 0 => []
  | t + 1 => sch256 b t ++ [next256 b (sch256 b t) t]
theorem sch256_len (b : List UInt8) (t : Nat) : (sch256 b t).length = t := by
  induction t with
  | zero => rfl
  | succ t ih => simp [sch256, ih]
def rnd256 (k w : UInt32) (s : List UInt32) : List UInt32 :=
  let a := s.getD 0 0
  let e := s.getD 4 0
  let t1 := s.getD 7 0 + (ror e 6 ^^^ ror e 11 ^^^ ror e 25) + (e &&& s.getD 5 0 ^^^ ~~~e &&& s.getD 6 0) + k + w
  let t2 := (ror a 2 ^^^ ror a 13 ^^^ ror a 22) + (a &&& s.getD 1 0 ^^^ a &&& s.getD 2 0 ^^^ s.getD 1 0 &&& s.getD 2 0)
  [t1 + t2, s.getD 0 0, s.getD 1 0, s.getD 2 0, s.getD 3 0 + t1, s.getD 4 0, s.getD 5 0, s.getD 6 0]
def rnds256 (ws s : List UInt32) : Nat → List UInt32
  | 0 => s
  | t + 1 => rnd256 (k256.getD t 0) (ws.getD t 0) (rnds256 ws s t)
theorem rnds256_len (ws s : List UInt32) (hs : s.length = 8) (t : Nat) : (rnds256 ws s t).length = 8 := by
  cases t with
  | zero => exact hs
  | succ t => rfl
def addl (h s : List UInt32) (i : Nat) : List UInt32 := (List.zipWith (· + ·) (h.take i) (s.take i)) ++ h.drop i
theorem addl_len (h s : List UInt32) (i : Nat) (hl : h.length = s.length) (hi : i ≤ h.length) : (addl h s i).length = h.length := by
  simp [addl]; omega
theorem addl_get (h s : List UInt32) (i : Nat) (hl : h.length = s.length) (hi : i < h.length) : (addl h s i).getD i 0 = h.getD i 0 := by
  have h1 : (List.zipWith (· + ·) (h.take i) (s.take i)).length = i := by simp; omega
  simp only [List.getD, addl]
  rw [List.getElem?_append_right (by omega), h1, Nat.sub_self, List.getElem?_drop]
  simp
theorem addl_set (h s : List UInt32) (i : Nat) (hl : h.length = s.length) (hi : i < h.length) : (addl h s i).set i (h.getD i 0 + s.getD i 0) = addl h s (i + 1) := by
  have h1 : (List.zipWith (· + ·) (h.take i) (s.take i)).length = i := by simp; omega
  have hs : i < s.length := by omega
  unfold addl
  rw [List.set_append_right _ _ (by omega), h1, Nat.sub_self, List.drop_eq_getElem_cons hi, List.set_cons_zero, List.take_succ_eq_append_getElem hi, List.take_succ_eq_append_getElem hs,
    List.zipWith_append (by simp; omega)]
  simp [List.getD, hi, hs]
def comp256 (h : List UInt32) (b : List UInt8) : List UInt32 := addl h (rnds256 (sch256 b 64) h 64) 8
def next1 (b : List UInt8) (ws : List UInt32) (t : Nat) : UInt32 :=
  if t < 16 then be32 b (4 * t) else rol (ws.getD (t - 3) 0 ^^^ ws.getD (t - 8) 0 ^^^ ws.getD (t - 14) 0 ^^^ ws.getD (t - 16) 0) 1
def sch1 (b : List UInt8) : Nat → List UInt32
  | 0 => []
  | t + 1 => sch1 b t ++ [next1 b (sch1 b t) t]
theorem sch1_len (b : List UInt8) (t : Nat) : (sch1 b t).length = t := by
  induction t with
  | zero => rfl
  | succ t ih => simp [sch1, ih]
def f1 (t : Nat) (b c d : UInt32) : UInt32 :=
  if t < 20 then b &&& c ^^^ ~~~b &&& d else if t < 40 then b ^^^ c ^^^ d else if t < 60 then b &&& c ^^^ b &&& d ^^^ c &&& d else b ^^^ c ^^^ d
def k1 (t : Nat) : UInt32 := if t < 20 then 0x5a827999 else if t < 40 then 0x6ed9eba1 else if t < 60 then 0x8f1bbcdc else 0xca62c1d6
structure S5 where
  a : UInt32
  b : UInt32
  c : UInt32
  d : UInt32
  e : UInt32
def rnd1 (t : Nat) (w : UInt32) (s : S5) : S5 := ⟨rol s.a 5 + f1 t s.b s.c s.d + s.e + k1 t + w, s.a, rol s.b 30, s.c, s.d⟩
def rnds1 (ws : List UInt32) (s : S5) : Nat → S5
  | 0 => s
  | t + 1 => rnd1 t (ws.getD t 0) (rnds1 ws s t)
def comp1 (h : List UInt32) (b : List UInt8) : List UInt32 :=
  let s := rnds1 (sch1 b 80) ⟨h.getD 0 0, h.getD 1 0, h.getD 2 0, h.getD 3 0, h.getD 4 0⟩ 80
  [h.getD 0 0 + s.a, h.getD 1 0 + s.b, h.getD 2 0 + s.c, h.getD 3 0 + s.d, h.getD 4 0 + s.e]
def fold64 (f : List UInt32 → List UInt8 → List UInt32) : Nat → List UInt32 → List UInt8 → List UInt32
  | 0, h, _ => h
  | n + 1, h, p => fold64 f n (f h (p.take 64)) (p.drop 64)
def wb (w : UInt32) : List UInt8 := [(w >>> 24).toUInt8, (w >>> 16).toUInt8, (w >>> 8).toUInt8, w.toUInt8]
def spreadB (ws : List UInt32) : List UInt8 := ws.flatMap wb
def sha256 (l : List UInt8) : List UInt8 := spreadB (fold64 comp256 ((padB l).length / 64) h256 (padB l))
def sha1 (l : List UInt8) : List UInt8 := spreadB (fold64 comp1 ((padB l).length / 64) h1 (padB l))
theorem comp256_len (h : List UInt32) (b : List UInt8) (hh : h.length = 8) : (comp256 h b).length = 8 := by
  have := rnds256_len (sch256 b 64) h hh 64
  simp [comp256, addl, hh, this]
theorem fold64_len {f : List UInt32 → List UInt8 → List UInt32} {m : Nat} (hf : ∀ h b, h.length = m → (f h b).length = m) : ∀ (n : Nat) (h : List UInt32) (p : List UInt8), h.length = m → (fold64 f n h p).length = m := by
  intro n
  induction n with
  | zero => intro h p hh; exact hh
  | succ n ih => intro h p hh; exact ih _ _ (hf _ _ hh)
theorem spreadB_len (ws : List UInt32) : (spreadB ws).length = 4 * ws.length := by
  induction ws with
  | nil => rfl
  | cons w r ih => simp only [spreadB, List.flatMap_cons, List.length_append, List.length_cons] at *; rw [ih]; simp [wb]; omega
theorem sha256_len (l : List UInt8) : (sha256 l).length = 32 := by
  rw [sha256, spreadB_len, fold64_len (m := 8) comp256_len _ _ _ rfl]
def sumB (alg : Int) (l : List UInt8) : List UInt8 := if alg = 0 then sha1 l else if alg = 1 then sha256 l else []
end Go.Eng

namespace Go.Eng
open Go
set_option linter.unusedVariables false
section
variable {P : Program} {L : Lst} {w : World} {ty : TypeId} {K : SV → World → Prop} {t : TypeId}
end
section
variable {P : Program} {n : Nat} {L : Lst} {w : World} {ops : Array Oper} {Q : Post} {rest : List Oper}
end
theorem cell_freeze (w : World) (g k n : Nat) (a : Addr) : (w.freeze ⟨g, k, none⟩ n).cell? a = w.cell? a := by
  unfold World.freeze
  split
  · rfl
  · simp only [World.cell?, Array.getElem?_modify]
    by_cases h : g = a.block
    · subst h
      rw [if_pos rfl]
      cases hh : w.heap[a.block]? with
      | none => rfl
      | some o => cases o <;> rfl
    · rw [if_neg h]
theorem grownBy_freeze (w : World) (g k n : Nat) : w.grownBy (w.freeze ⟨g, k, none⟩ n) (some g) := by
  unfold World.freeze
  split
  · exact ⟨rfl, rfl, rfl, Nat.le_refl _, fun _ _ _ => rfl⟩
  · refine ⟨rfl, rfl, rfl, by simp, fun i hi hne => ?_⟩
    simp only [Array.getElem?_modify]
    rw [if_neg (fun e => hne (by rw [e]))]
abbrev BlkB (w : World) (b : Nat) (l : List UInt8) : Prop := Blk w b (l.map byteV)
end Go.Eng

namespace Go.Eng
open Go
set_option linter.unusedVariables false
def len4 (l : List UInt8) : List UInt8 := wb (UInt32.ofInt (l.length : Int))
def fieldsB (ls : List (List UInt8)) : List UInt8 := ls.flatMap fun l => len4 l ++ l
def frameB (tag : Int) (ls : List (List UInt8)) : List UInt8 := UInt8.ofInt tag :: fieldsB ls
theorem len4_len (l : List UInt8) : (len4 l).length = 4 := rfl
theorem fieldsB_snoc (ls : List (List UInt8)) (i : Nat) (l : List UInt8) (h : ls[i]? = some l) : fieldsB (ls.take (i + 1)) = fieldsB (ls.take i) ++ len4 l ++ l := by
  obtain ⟨hi, he⟩ := List.getElem?_eq_some_iff.1 h
  rw [List.take_succ_eq_append_getElem hi, he]
  simp [fieldsB]
theorem u32_of_len (n : Nat) (h : n < 4294967296) : (UInt32.ofInt (n : Int)).toNat = n := by
  simp [UInt32.ofInt]; omega
theorem wb_toNat (x : UInt32) : wb x = [UInt8.ofNat (x.toNat / 16777216), UInt8.ofNat (x.toNat / 65536), UInt8.ofNat (x.toNat / 256), UInt8.ofNat x.toNat] := by
  have h24 : ((24 : UInt32).toNat % 32) = 24 := rfl
  have h16 : ((16 : UInt32).toNat % 32) = 16 := rfl
  have h8 : ((8 : UInt32).toNat % 32) = 8 := rfl
  simp only [wb]
  congr 1
  · apply UInt8.toNat_inj.1
    rw [UInt32.toNat_toUInt8, UInt32.toNat_shiftRight, h24, Nat.shiftRight_eq_div_pow, UInt8.toNat_ofNat']
  congr 1
  · apply UInt8.toNat_inj.1
    rw [UInt32.toNat_toUInt8, UInt32.toNat_shiftRight, h16, Nat.shiftRight_eq_div_pow, UInt8.toNat_ofNat']
  congr 1
  · apply UInt8.toNat_inj.1
    rw [UInt32.toNat_toUInt8, UInt32.toNat_shiftRight, h8, Nat.shiftRight_eq_div_pow, UInt8.toNat_ofNat']
theorem u8_ofInt_nat (n : Nat) : UInt8.ofInt (n : Int) = UInt8.ofNat n := by
  apply UInt8.toNat_inj.1
  simp [UInt8.ofInt]
  omega
theorem ref4 (n : Nat) (h : n < 4294967296) : [UInt8.ofInt ((n : Int) / 2 ^ 24), UInt8.ofInt ((n : Int) / 2 ^ 16), UInt8.ofInt ((n : Int) / 2 ^ 8), UInt8.ofInt (n : Int)] = wb (UInt32.ofInt (n : Int)) := by
  rw [wb_toNat, u32_of_len n h]
  have e (k : Nat) : (n : Int) / 2 ^ k = ((n / 2 ^ k : Nat) : Int) := by simp
  rw [e, e, e, u8_ofInt_nat, u8_ofInt_nat, u8_ofInt_nat, u8_ofInt_nat]
abbrev Vals (w : World) (v : Value) (vs : List Value) : Prop := Hold (fun x : Value => x) w v vs
structure Rw (w : World) (vs : List Value) (ls : List (List UInt8)) : Prop where
  len : vs.length = ls.length
  row : ∀ (i : Nat) (u : Value) (l : List UInt8), vs[i]? = some u → ls[i]? = some l → Bytes w u l
theorem Rw.ext {w w' : World} {vs : List Value} {ls : List (List UInt8)} (h : Rw w vs ls) (he : Ext w w') : Rw w' vs ls := ⟨h.len, fun i u l h1 h2 => (h.row i u l h1 h2).ext he⟩
theorem Rw.at {w : World} {vs : List Value} {ls : List (List UInt8)} (h : Rw w vs ls) (i : Nat) (hi : i < ls.length) : ∃ u, vs[i]? = some u ∧ Bytes w u (ls.getD i []) := by
  have hv : i < vs.length := by rw [h.len]; exact hi
  refine ⟨vs[i], List.getElem?_eq_getElem hv, h.row i _ _ (List.getElem?_eq_getElem hv) ?_⟩
  rw [List.getD, List.getElem?_eq_getElem hi]; rfl
def Mat (w : World) (v : Value) (ls : List (List UInt8)) : Prop := ∃ vs, Vals w v vs ∧ Rw w vs ls
theorem Mat.ext {w w' : World} {v : Value} {ls : List (List UInt8)} (h : Mat w v ls) (he : Ext w w') : Mat w' v ls := by
  obtain ⟨vs, h1, h2⟩ := h; exact ⟨vs, h1.ext he, h2.ext he⟩
end Go.Eng

namespace Go.Eng
open Go
set_option linter.unusedVariables false
section
variable {P : Program} {ops : Array Oper} {w0 : World} {fin : Lst → World → Prop} {d : Nat} {op : Op} {ty : TypeId} {pos : String} {af : Array Edge} {r : List Oper} {L : Lst} {F : Flx}
def lkg (ops : Array Oper) (op : Op) (j : Nat) (want : Bool) : List Nat := Oper.looksAt ops ⟨none, op, 0, "", #[], some (j, want)⟩
end
end Go.Eng

namespace Go
set_option linter.unusedVariables false
def fzOut (n : Nat) (fz : Nat × Nat) : Prop := n ≤ fz.1 ∨ fz.2 = 0
theorem fzOut.no {w : World} {g n o : Nat} {cur : Array Value} {e : TypeId} {fz : Nat × Nat} (h : fzOut n fz) (hg : w.heap[g]? = some (.cells cur e fz)) (ho : o < n) : w.frozen? ⟨g, o, none⟩ = false := by
  obtain ⟨lo, hi⟩ := fz
  unfold fzOut at h
  simp only [World.frozen?, hg, Bool.and_eq_false_iff, decide_eq_false_iff_not]
  simp only at h
  rcases h with h | h
  · left; omega
  · right; omega
def World.ownsG (w : World) (base : Nat) (e : TypeId) (size : Nat) (v : Value) (n : Nat) (xs : List Value) : Prop :=
  xs.length = n * size ∧ ((v = .slice none 0 0 ∧ n = 0) ∨
    ∃ g cap cur fz, v = .slice (some ⟨g, 0, none⟩) n cap ∧ base ≤ g ∧ w.heap[g]? = some (.cells cur e fz) ∧ n ≤ cap ∧ cap ≤ maxLen ∧ cur.size = cap * size ∧ cur.toList.take (n * size) = xs ∧ fzOut cur.size fz)
theorem World.ownsRow.G {w : World} {base : Nat} {e : TypeId} {size : Nat} {v : Value} {n : Nat} {xs : List Value} (h : w.ownsRow base e size v n xs) : w.ownsG base e size v n xs := by
  refine ⟨h.1, ?_⟩
  rcases h.2 with hn | ⟨g, cap, cur, h1, h2, h3, h4, h5, h6, h7⟩
  · exact .inl hn
  · exact .inr ⟨g, cap, cur, (0, 0), h1, h2, h3, h4, h5, h6, h7, .inr rfl⟩
theorem World.ownsG_nil (w : World) (base : Nat) (e : TypeId) (size : Nat) : w.ownsG base e size (.slice none 0 0) 0 [] := (World.ownsRow_nil w base e size).G
theorem World.ownsG.cells {w : World} {base : Nat} {e : TypeId} {size : Nat} {v : Value} {n : Nat} {xs : List Value} (h : w.ownsG base e size v n xs) {g : Nat} (hg : v.ownBlock = some g) : ∀ j u, xs[j]? = some u → w.cell? ((⟨g, 0, none⟩ : Addr).add j) = some u := by
  intro j u hu
  rcases h.2 with ⟨rfl, _⟩ | ⟨g', cap, cur, fz, rfl, _, hgg, _, _, _, ht, _⟩
  · cases hg
  · simp only [Value.ownBlock, Option.some.injEq] at hg
    subst hg
    rw [← ht] at hu
    have hj := (List.getElem?_eq_some_iff.1 hu).1
    rw [List.getElem?_take_of_lt (by rw [List.length_take] at hj; omega)] at hu
    rw [Addr.add_lit]
    simp only [World.cell?, hgg, Nat.zero_add]
    simpa using hu
theorem World.alloc_old_G (w : World) (o : Obj) (k : Nat) (hk : k < w.heap.size) : (w.drew.alloc o).heap[k]? = w.heap[k]? := heap_alloc_old w.drew o hk
section
variable {P : Program}
theorem run_storeCells_G (g o : Nat) (t : TypeId) (fz : Nat × Nat) : ∀ (vs : List Value) (i : Nat) (cur : Array Value) (w : World), w.heap[g]? = some (.cells cur t fz) → fzOut cur.size fz → o + i + vs.length ≤ cur.size → (∀ v ∈ vs, v.oneCell' = true) →
    (storeCells ⟨g, o, none⟩ vs i).run P w = .ok () (w.setRow g (cur.toList.take (o + i) ++ vs ++ cur.toList.drop (o + i + vs.length)).toArray)
  | [], i, cur, w, hg, _, _, _ => by
    simp only [storeCells, List.append_nil, List.length_nil, Nat.add_zero, List.take_append_drop, Array.toArray_toList]
    rw [setRow_self w g cur t fz hg]
    rfl
  | v :: rest, i, cur, w, hg, hfz, hl, h1 => by
    have hi : o + i < cur.size := by simp at hl; omega
    have hadd : (⟨g, o, none⟩ : Addr).add i = ⟨g, o + i, none⟩ := by unfold Addr.add; split <;> simp_all
    have hcell : w.cell? ⟨g, o + i, none⟩ = some cur[o + i] := by simp [World.cell?, hg, hi]
    have hfro : w.frozen? ⟨g, o + i, none⟩ = false := hfz.no hg hi
    have hst : (store ((⟨g, o, none⟩ : Addr).add i) v).run P w = .ok () (w.setRow g (cur.setIfInBounds (o + i) v)) := by
      rw [hadd, run_store P w _ v _ (h1 v (by simp)), hcell]
      simp [hfro, setCell_eq_setRow w g (o + i) cur t fz v hg]
    have ih := run_storeCells_G g o t fz rest (i + 1) (cur.setIfInBounds (o + i) v) (w.setRow g (cur.setIfInBounds (o + i) v)) (setRow_heap w g cur _ t _ hg) (by simpa using hfz) (by simp at hl ⊢; omega) (fun x hx => h1 x (by simp [hx]))
    simp only [storeCells, Sem.run_bind, hst, Result.andThen_ok, ih, setRow_setRow]
    congr 3
    have e := list_seg_step cur.toList (o + i) v rest (by simp at hl ⊢; omega)
    simpa [Array.toList_setIfInBounds, Nat.add_assoc] using e
variable (w : World)
theorem run_append_room_G (t ty e : TypeId) (i : TypeInfo) (ht : P.underlying t = some (.slice e)) (hi : P.info? e = some i)
    (g n cap : Nat) (cur : Array Value) (fz : Nat × Nat) (hg : w.heap[g]? = some (.cells cur e fz)) (hfz : fzOut cur.size fz)
    (a : Addr) (m c : Nat) (news : List Value) (hl : news.length = m * i.size) (hnews : ∀ j u, news[j]? = some u → w.cell? (a.add j) = some u) (h1 : ∀ u ∈ news, u.oneCell' = true)
    (hroom : n + m ≤ cap) (hfit : n * i.size + news.length ≤ cur.size) :
    (Builtin.append_ #[t, t] ty #[.slice (some ⟨g, 0, none⟩) n cap, .slice (some a) m c]).run P w =
      .ok (.slice (some ⟨g, 0, none⟩) (n + m) cap) (w.setRow g (cur.toList.take (n * i.size) ++ news ++ cur.toList.drop (n * i.size + news.length)).toArray) := by
  have hf := run_firstCells_some (P := P) w i.size m a m c news hl hnews
  have hst := run_storeCells_G (P := P) g (n * i.size) e fz news 0 cur w hg hfz (by simpa using hfit) h1
  simp only [Nat.add_zero] at hst
  simp [Builtin.append_, run_underlying ht, sizeOf, typeInfo, hi, Builtin.lenOf, hroom, hf, Addr.add_lit, hst]
theorem run_append_none_G (base : Nat) (t ty e : TypeId) (i : TypeInfo) (size : Nat) (ht : P.underlying t = some (.slice e)) (hi : P.info? e = some i)
    (v : Value) (n : Nat) (xs : List Value) (hown : w.ownsG base e size v n xs) : (Builtin.append_ #[t, t] ty #[v, .slice none 0 0]).run P w = .ok v w := by
  rcases hown.2 with ⟨rfl, rfl⟩ | ⟨g, cap, cur, fz, rfl, _, _, hnc, _⟩
  · simp [Builtin.append_, run_underlying ht, sizeOf, typeInfo, hi, Builtin.lenOf, Builtin.firstCells]
  · simp [Builtin.append_, run_underlying ht, sizeOf, typeInfo, hi, Builtin.lenOf, Builtin.firstCells, hnc, storeCells]
theorem run_copy_G (dT sT ty elem : TypeId) (g o dLen dCap : Nat) (a : Addr) (sLen sCap : Nat) (cur : Array Value) (t : TypeId) (fz : Nat × Nat) (cs : List Value)
    (hu : P.underlying dT = some (.slice elem)) (hs : (P.info? elem).map (·.size) = some 1)
    (hg : w.heap[g]? = some (.cells cur t fz)) (hfz : fzOut cur.size fz) (hn : cs.length = Nat.min sLen dLen)
    (hsrc : ∀ j v, cs[j]? = some v → w.cell? (a.add j) = some v) (hfit : o + cs.length ≤ cur.size) (h1 : ∀ v ∈ cs, v.oneCell' = true) :
    (Builtin.copy_ #[dT, sT] ty #[.slice (some ⟨g, o, none⟩) dLen dCap, .slice (some a) sLen sCap]).run P w =
      .ok (goInt cs.length) (w.setRow g (cur.toList.take o ++ cs ++ cur.toList.drop (o + cs.length)).toArray) := by
  have hl := run_loadCells_list (P := P) w a cs hsrc
  have hst := run_storeCells_G (P := P) g o t fz cs 0 cur w hg hfz (by simpa using hfit) h1
  cases hq : P.info? elem with
  | none => simp [hq] at hs
  | some i =>
    have hi : i.size = 1 := by simpa [hq] using hs
    simp [Builtin.copy_, run_underlying hu, Builtin.lenOf, Builtin.firstCells, sizeOf, typeInfo, hq, hi, ← hn, hl, hst]
theorem run_append_G (base : Nat) (t ty e : TypeId) (i : TypeInfo) (z : Value) (size bytes : Nat) (ht : P.underlying t = some (.slice e)) (hi : P.info? e = some i) (hz : i.zero = some z)
    (hsize : i.size = size) (hby : i.bytes = bytes) (hzs : z.cells.size = size) (hsz : 0 < size)
    (v : Value) (n : Nat) (xs : List Value) (hown : w.ownsG base e size v n xs)
    (a : Addr) (m c : Nat) (news : List Value) (hl : news.length = m * size) (hnews : ∀ j u, news[j]? = some u → w.cell? (a.add j) = some u) (h1 : ∀ u ∈ news, u.oneCell' = true)
    (h63 : n + m ≤ maxLen) (hbytes : (n + m) * bytes ≤ 140737488355328) (hbase : base ≤ w.heap.size) :
    ∃ v' w', (Builtin.append_ #[t, t] ty #[v, .slice (some a) m c]).run P w = .ok v' w' ∧ w'.ownsG base e size v' (n + m) (xs ++ news) ∧ w.grownBy w' v.ownBlock ∧
      (v' = .slice none 0 0 ↔ v = .slice none 0 0 ∧ m = 0) := by
  rcases hown.2 with ⟨rfl, rfl⟩ | ⟨g, cap, cur, fz, rfl, hbg, hg, hnc, hcm, hcs, htake, hfz⟩
  · have hx : xs = [] := List.eq_nil_of_length_eq_zero (by simpa using hown.1)
    subst hx
    obtain ⟨v', w', h2, h3, h4⟩ := run_append_own (P := P) w base t ty e i z size bytes ht hi hz hsize hby hzs hsz _ 0 [] (World.ownsRow_nil w base e size) a m c news hl hnews h1 h63 hbytes hbase
    exact ⟨v', w', h2, h3.G, h4⟩
  · subst hsize
    subst hby
    have hlen : (xs ++ news).length = (n + m) * i.size := by rw [List.length_append, hown.1, hl, Nat.add_mul]
    by_cases hroom : n + m ≤ cap
    · have hfit : n * i.size + news.length ≤ cur.size := by rw [hl, hcs, ← Nat.add_mul]; exact Nat.mul_le_mul_right _ hroom
      have hf := run_firstCells_some (P := P) w i.size m a m c news hl hnews
      have hst := run_storeCells_G (P := P) g (n * i.size) e fz news 0 cur w hg hfz (by simpa using hfit) h1
      simp only [Nat.add_zero] at hst
      have hr : (Builtin.append_ #[t, t] ty #[.slice (some ⟨g, 0, none⟩) n cap, .slice (some a) m c]).run P w =
          .ok (.slice (some ⟨g, 0, none⟩) (n + m) cap) (w.setRow g (cur.toList.take (n * i.size) ++ news ++ cur.toList.drop (n * i.size + news.length)).toArray) := by
        simp [Builtin.append_, run_underlying ht, sizeOf, typeInfo, hi, Builtin.lenOf, hroom, hf, Addr.add_lit, hst]
      refine ⟨_, _, hr, ⟨hlen, .inr ⟨g, cap, _, fz, rfl, hbg, setRow_heap w g cur _ e _ hg, hroom, hcm, ?_, ?_, ?_⟩⟩, ⟨rfl, rfl, rfl, by simp, fun k _ hk => setRow_other w g k _ (fun e => hk (by simp [Value.ownBlock, e]))⟩, by simp⟩
      · simp only [List.size_toArray, List.length_append, List.length_take, List.length_drop, Array.length_toList]
        omega
      · rw [htake, ← hlen]
        exact List.take_left
      · have : (cur.toList.take (n * i.size) ++ news ++ cur.toList.drop (n * i.size + news.length)).toArray.size = cur.size := by
          simp only [List.size_toArray, List.length_append, List.length_take, List.length_drop, Array.length_toList]
          omega
        rw [this]; exact hfz
    · have holds : ∀ j u, xs[j]? = some u → w.cell? ((⟨g, 0, none⟩ : Addr).add j) = some u := hown.cells (g := g) rfl
      have hr := run_append_grow (P := P) w t ty e i z ht hi hz ⟨g, 0, none⟩ n cap xs hown.1 holds a m c news hl hnews (by omega) (by simp only [maxLen] at h63; omega) (growslice_fits (by omega) hbytes)
      have hge := grownCap_ge w (n + m) cap e
      have hcm' : grownCap w (n + m) cap e ≤ maxLen := grownCap_le_maxLen w (n + m) cap e h63
      refine ⟨_, _, hr, ⟨hlen, .inr ⟨w.heap.size, _, _, (0, 0), rfl, hbase, heap_alloc_new w.drew _, hge, hcm', ?_, ?_, .inr rfl⟩⟩, ⟨rfl, rfl, rfl, by simp, fun k hk _ => World.alloc_old_G w _ k hk⟩, by simp⟩
      · simp only [Array.size_append, List.size_toArray, size_zeroCells, hzs, hown.1, hl, ← Nat.add_mul]
        congr 1
        omega
      · simp only [Array.toList_append, List.append_assoc]
        rw [← List.append_assoc, ← hlen]
        exact List.take_left
open Lib in
theorem run_append_nil_str (t u ty e : TypeId) (i : TypeInfo) (z : Value) (ht : P.underlying t = some (.slice e)) (hu : P.underlying u = some .string) (hi : P.info? e = some i) (hz : i.zero = some z) (s : ByteArray) (h0 : 0 < s.size)
    (h63 : (s.size : Int) ≤ 9223372036854775807) (hfit : Builtin.nextslicecap s.size 0 * i.bytes ≤ 281474976710656) :
    (Builtin.append_ #[t, u] ty #[.slice none 0 0, .string s]).run P w =
      .ok (.slice (some ⟨w.heap.size, 0, none⟩) s.size (grownCap w s.size 0 e)) (w.drew.alloc (.cells ((strCells s).toArray ++ Builtin.zeroCells z.cells (grownCap w s.size 0 e - s.size)) e)) := by
  have hn : ¬ (s.size = 0) := by omega
  have h63' : ¬ (9223372036854775807 < (s.size : Int)) := by omega
  have h48' : ¬ (281474976710656 < Builtin.nextslicecap s.size 0 * i.bytes) := by omega
  have hf := run_firstCells_string (P := P) w.drew i.size s
  have hfn : (Builtin.firstCells i.size 0 (.slice none 0 0)).run P w.drew = .ok #[] w.drew := by simp [Builtin.firstCells]
  simp [Builtin.append_, run_underlying ht, run_underlying hu, sizeOf, typeInfo, zeroValue, hi, hz, Builtin.lenOf, hn, h63', h48', Question.forced, hf, hfn, newRow, grownCap]
open Lib in
theorem run_append_str_G (t u ty e : TypeId) (i : TypeInfo) (z : Value) (ht : P.underlying t = some (.slice e)) (hu : P.underlying u = some .string) (hi : P.info? e = some i) (hz : i.zero = some z)
    (hsize : i.size = 1) (hby : i.bytes = 1) (hzs : z.cells.size = 1)
    (v : Value) (n : Nat) (xs : List Value) (hown : w.ownsG 0 e 1 v n xs) (s : ByteArray) (hbytes : n + s.size ≤ 140737488355328) :
    ∃ v' w', (Builtin.append_ #[t, u] ty #[v, .string s]).run P w = .ok v' w' ∧ w'.ownsG 0 e 1 v' (n + s.size) (xs ++ strCells s) ∧ w.grownBy w' v.ownBlock ∧ (∀ b, v'.ownBlock = some b → w.heap.size ≤ b ∨ v.ownBlock = some b) := by
  have h63 : n + s.size ≤ maxLen := by unfold maxLen; omega
  have hxl : xs.length = n := by simpa using hown.1
  have hlen : (xs ++ strCells s).length = (n + s.size) * 1 := by rw [List.length_append, hxl, strCells_length, Nat.mul_one]
  rcases hown.2 with ⟨rfl, rfl⟩ | ⟨g, cap, cur, fz, rfl, hbg, hg, hnc, hcm, hcs, htake, hfz⟩
  · have hx : xs = [] := List.eq_nil_of_length_eq_zero hxl
    subst hx
    by_cases h0 : s.size = 0
    · have hs0 : strCells s = [] := List.eq_nil_of_length_eq_zero (by rw [strCells_length]; exact h0)
      refine ⟨.slice none 0 0, w, ?_, by rw [h0, hs0]; exact World.ownsG_nil w 0 e 1, ⟨rfl, rfl, rfl, Nat.le_refl _, fun _ _ _ => rfl⟩, fun b hb => by cases hb⟩
      have hf : (Builtin.firstCells i.size s.size (.string s)).run P w = .ok (strCells s).toArray w := run_firstCells_string (P := P) w i.size s
      rw [hs0] at hf
      simp [Builtin.append_, run_underlying ht, run_underlying hu, sizeOf, typeInfo, hi, Builtin.lenOf, h0, Builtin.firstCells]
    · have hr := run_append_nil_str (P := P) w t u ty e i z ht hu hi hz s (by omega) (by omega) (by rw [hby]; exact growslice_fits (by omega) (by omega))
      have hge := grownCap_ge w s.size 0 e
      refine ⟨_, _, hr, ⟨by simpa using hlen, .inr ⟨w.heap.size, _, _, (0, 0), by rw [Nat.zero_add], Nat.zero_le _, heap_alloc_new w.drew _, by rw [Nat.zero_add]; exact hge, grownCap_le_maxLen w s.size 0 e (by omega), ?_, ?_, .inr rfl⟩⟩, ⟨rfl, rfl, rfl, by simp, fun k hk _ => World.alloc_old_G w _ k hk⟩, fun b hb => ?_⟩
      · simp only [Array.size_append, List.size_toArray, size_zeroCells, hzs, strCells_length]; omega
      · simp only [Array.toList_append, Nat.zero_add, Nat.mul_one, List.nil_append]
        rw [← strCells_length s]; exact List.take_left
      · simp only [Value.ownBlock, Option.some.injEq] at hb; omega
  · by_cases hroom : n + s.size ≤ cap
    · have hcs' : cur.size = cap := by simpa using hcs
      have hf := run_firstCells_string (P := P) w 1 s
      have hst := run_storeCells_G (P := P) g n e fz (strCells s) 0 cur w hg hfz (by simp only [strCells_length]; omega) (strCells_oneCell s)
      simp only [Nat.add_zero, strCells_length] at hst
      have hr : (Builtin.append_ #[t, u] ty #[.slice (some ⟨g, 0, none⟩) n cap, .string s]).run P w =
          .ok (.slice (some ⟨g, 0, none⟩) (n + s.size) cap) (w.setRow g (cur.toList.take n ++ strCells s ++ cur.toList.drop (n + s.size)).toArray) := by
        simp [Builtin.append_, run_underlying ht, run_underlying hu, sizeOf, typeInfo, hi, hsize, Builtin.lenOf, hroom, hf, Addr.add_lit, hst]
      refine ⟨_, _, hr, ⟨hlen, .inr ⟨g, cap, _, fz, rfl, hbg, setRow_heap w g cur _ e _ hg, hroom, hcm, ?_, ?_, ?_⟩⟩, ⟨rfl, rfl, rfl, by simp, fun k _ hk => setRow_other w g k _ (fun e => hk (by simp [Value.ownBlock, e]))⟩, fun b hb => .inr hb⟩
      · simp only [List.size_toArray, List.length_append, List.length_take, List.length_drop, Array.length_toList, strCells_length]; omega
      · have ht' : cur.toList.take n = xs := by simpa using htake
        rw [ht', ← hlen]
        exact List.take_left
      · refine cast (congrArg (fun n => fzOut n fz) ?_) hfz
        simp only [List.size_toArray, List.length_append, List.length_take, List.length_drop, Array.length_toList, strCells_length]; omega
    · have holds : ∀ j u, xs[j]? = some u → w.cell? ((⟨g, 0, none⟩ : Addr).add j) = some u := hown.cells (g := g) rfl
      have hr := run_append_grow_string (P := P) w t u ty e i z ht hu hi hz ⟨g, 0, none⟩ n cap xs (by rw [hsize]; simpa using hxl) holds s (by omega) (by omega) (by rw [hby]; exact growslice_fits (by omega) (by omega))
      have hge := grownCap_ge w (n + s.size) cap e
      refine ⟨_, _, hr, ⟨hlen, .inr ⟨w.heap.size, _, _, (0, 0), rfl, Nat.zero_le _, heap_alloc_new w.drew _, hge, grownCap_le_maxLen w (n + s.size) cap e h63, ?_, ?_, .inr rfl⟩⟩, ⟨rfl, rfl, rfl, by simp, fun k hk _ => World.alloc_old_G w _ k hk⟩, fun b hb => ?_⟩
      · simp only [Array.size_append, List.size_toArray, size_zeroCells, hzs, hxl, strCells_length]; omega
      · simp only [Array.toList_append, List.append_assoc]
        rw [← List.append_assoc, ← hlen]
        exact List.take_left
      · simp only [Value.ownBlock, Option.some.injEq] at hb; omega
open Lib in
theorem run_append_zero_G (t u ty e : TypeId) (i : TypeInfo) (z : Value) (ku kn : IntKind) (ht : P.underlying t = some (.slice e)) (hu : P.underlying u = some (.int ku)) (hi : P.info? e = some i) (hz : i.zero = some z)
    (hsize : i.size = 1) (hby : i.bytes = 1) (hzs : z.cells = #[.int .u8 0])
    (v : Value) (n : Nat) (xs : List Value) (hown : w.ownsG 0 e 1 v n xs) (k : Nat) (hbytes : n + k ≤ 140737488355328) :
    ∃ v' w', (Builtin.append_ #[t, u] ty #[v, .int kn k]).run P w = .ok v' w' ∧ w'.ownsG 0 e 1 v' (n + k) (xs ++ List.replicate k (.int .u8 0)) ∧ w.grownBy w' v.ownBlock ∧ (∀ b, v'.ownBlock = some b → w.heap.size ≤ b ∨ v.ownBlock = some b) := by
  have h63 : n + k ≤ maxLen := by unfold maxLen; omega
  have hxl : xs.length = n := by simpa using hown.1
  have hzs1 : z.cells.size = 1 := by rw [hzs]; rfl
  have hzc : ∀ k, (Builtin.zeroCells z.cells k).toList = List.replicate k (.int .u8 0) := fun k => by
    rw [Builtin.zeroCells, hzs]
    apply List.ext_getElem
    · simp
    · intro q h1 h2
      simp [Nat.mod_one]
  have hzsz : ∀ k, (Builtin.zeroCells z.cells k).size = k := fun k => by rw [size_zeroCells, hzs1, Nat.mul_one]
  have hlen : (xs ++ List.replicate k (Value.int .u8 0)).length = (n + k) * 1 := by rw [List.length_append, hxl, List.length_replicate, Nat.mul_one]
  have hw : IntKind.i64.wrap (k : Int) = k := by rw [IntKind.wrap_i64]; omega
  have h48i : ¬ (281474976710656 < (k : Int) * (i.bytes : Int)) := by rw [hby]; omega
  have hneg : ¬ ((k : Int) < 0) := by omega
  rcases hown.2 with ⟨rfl, rfl⟩ | ⟨g, cap, cur, fz, rfl, hbg, hg, hnc, hcm, hcs, htake, hfz⟩
  · have hx : xs = [] := List.eq_nil_of_length_eq_zero hxl
    subst hx
    by_cases h0 : k = 0
    · subst h0
      refine ⟨.slice none 0 0, w, ?_, World.ownsG_nil w 0 e 1, ⟨rfl, rfl, rfl, Nat.le_refl _, fun _ _ _ => rfl⟩, fun b hb => by cases hb⟩
      have hw0 : IntKind.i64.wrap (0 : Int) = 0 := by decide
      simp [Builtin.append_, run_underlying ht, run_underlying hu, sizeOf, typeInfo, hi, asInt, asIntOf, hw0]
    · have hr := run_append_nil_zeros (P := P) w t u ty e i z kn ku ht hu hi hz k (by omega) (by omega) (by omega) (by rw [hby]; omega)
      have hge := grownCap_ge w k 0 e
      refine ⟨_, _, hr, ⟨by simpa using hlen, .inr ⟨w.heap.size, _, _, (0, 0), by rw [Nat.zero_add], Nat.zero_le _, heap_alloc_new w.drew _, by rw [Nat.zero_add]; exact hge, grownCap_le_maxLen w k 0 e (by omega), ?_, ?_, .inr rfl⟩⟩, ⟨rfl, rfl, rfl, by simp, fun k hk _ => World.alloc_old_G w _ k hk⟩, fun b hb => ?_⟩
      · simp only [Array.size_append, hzsz]; omega
      · simp only [Array.toList_append, Nat.zero_add, Nat.mul_one, List.nil_append, hzc]
        exact List.take_left' (by simp)
      · simp only [Value.ownBlock, Option.some.injEq] at hb; omega
  · by_cases hroom : n + k ≤ cap
    · have hcs' : cur.size = cap := by simpa using hcs
      have hst := run_storeCells_G (P := P) g n e fz (List.replicate k (Value.int .u8 0)) 0 cur w hg hfz (by simp only [List.length_replicate]; omega) (fun u hu => by rw [List.eq_of_mem_replicate hu]; rfl)
      simp only [Nat.add_zero, List.length_replicate] at hst
      have hr : (Builtin.append_ #[t, u] ty #[.slice (some ⟨g, 0, none⟩) n cap, .int kn k]).run P w =
          .ok (.slice (some ⟨g, 0, none⟩) (n + k) cap) (w.setRow g (cur.toList.take n ++ List.replicate k (Value.int .u8 0) ++ cur.toList.drop (n + k)).toArray) := by
        by_cases hk0 : k = 0
        · subst hk0
          have hw0 : IntKind.i64.wrap (0 : Int) = 0 := by decide
          simp at hst
          simp [Builtin.append_, run_underlying ht, run_underlying hu, sizeOf, typeInfo, hi, hsize, asInt, asIntOf, hw0, hnc, Addr.add_lit, hst]
        · have hz2 := hzc k
          simp [Builtin.append_, run_underlying ht, run_underlying hu, sizeOf, typeInfo, zeroValue, hi, hz, hsize, asInt, asIntOf, hw, hneg, h48i, hk0, hroom, hz2, Addr.add_lit, hst]
      refine ⟨_, _, hr, ⟨hlen, .inr ⟨g, cap, _, fz, rfl, hbg, setRow_heap w g cur _ e _ hg, hroom, hcm, ?_, ?_, ?_⟩⟩, ⟨rfl, rfl, rfl, by simp, fun k _ hk => setRow_other w g k _ (fun e => hk (by simp [Value.ownBlock, e]))⟩, fun b hb => .inr hb⟩
      · simp only [List.size_toArray, List.length_append, List.length_take, List.length_drop, Array.length_toList, List.length_replicate]; omega
      · have ht' : cur.toList.take n = xs := by simpa using htake
        rw [ht', ← hlen]
        exact List.take_left
      · refine cast (congrArg (fun n => fzOut n fz) ?_) hfz
        simp only [List.size_toArray, List.length_append, List.length_take, List.length_drop, Array.length_toList, List.length_replicate]; omega
    · have holds : ∀ j u, xs[j]? = some u → w.cell? ((⟨g, 0, none⟩ : Addr).add j) = some u := hown.cells (g := g) rfl
      have hold : (Builtin.firstCells i.size n (.slice (some ⟨g, 0, none⟩) n cap)).run P w.drew = .ok xs.toArray w.drew := by
        exact run_firstCells_some (P := P) w.drew i.size n ⟨g, 0, none⟩ n cap xs (by rw [hsize]; omega) (fun j u hu => by simpa using holds j u hu)
      have hr := run_append_grow_zeros (P := P) w t u ty e i z kn ku ht hu hi hz (some ⟨g, 0, none⟩) n cap xs hold k (by omega) (by omega) (by omega) (by omega) (by rw [hby]; omega) (by rw [hby]; exact growslice_fits (by omega) (by omega))
      have hge := grownCap_ge w (n + k) cap e
      refine ⟨_, _, hr, ⟨hlen, .inr ⟨w.heap.size, _, _, (0, 0), rfl, Nat.zero_le _, heap_alloc_new w.drew _, hge, grownCap_le_maxLen w (n + k) cap e h63, ?_, ?_, .inr rfl⟩⟩, ⟨rfl, rfl, rfl, by simp, fun k hk _ => World.alloc_old_G w _ k hk⟩, fun b hb => ?_⟩
      · simp only [Array.size_append, List.size_toArray, hzsz, hxl]; omega
      · simp only [Array.toList_append, hzc]
        rw [← hlen]
        exact List.take_left
      · simp only [Value.ownBlock, Option.some.injEq] at hb; omega
theorem bytesG (src dst e : TypeId) (s : ByteArray) (hs : P.underlying src = some .string) (hd : P.underlying dst = some (.slice e)) (he : P.underlying e = some (.int .u8)) (hm : s.size ≤ maxLen) :
    ∃ v w', (convert src dst (.string s)).run P w = .ok v w' ∧ w'.ownsG w.heap.size e 1 v s.size (s.data.toList.map fun b => Value.int .u8 b.toNat) ∧ w.grownBy w' none ∧ v.ownBlock = some w.heap.size := by
  have hr := run_bytes_of_string (P := P) w src dst e s hs hd he
  have hge := grownCap_ge w s.size 0 e
  have hcs : (bytesRow s (grownCap w s.size 0 e)).size = grownCap w s.size 0 e * 1 := by
    simp only [bytesRow, Array.size_append, Array.size_map, Array.size_replicate]
    have : s.data.size = s.size := rfl
    omega
  refine ⟨_, _, hr, ⟨by simp, .inr ⟨w.heap.size, _, _, _, rfl, Nat.le_refl _, heap_alloc_new w.drew _, hge, grownCap_le_maxLen w s.size 0 e hm, hcs, ?_, .inl (Nat.le_refl _)⟩⟩, ⟨rfl, rfl, rfl, by simp, fun k hk _ => World.alloc_old_G w _ k hk⟩, rfl⟩
  simp only [bytesRow, Array.toList_append, Array.toList_map]
  have hl : (s.data.toList.map fun b => Value.int .u8 b.toNat).length = s.size * 1 := by simp
  rw [← hl]; exact List.take_left
end
theorem _root_.Go.Eng.Sl.of_ownG {w : World} {base e sz n : Nat} {v : Value} {c : List Value} (h : w.ownsG base e sz v n c) : Go.Eng.Sl w sz v c n := by
  have hl := h.1
  rcases h.2 with ⟨rfl, rfl⟩ | ⟨g, cap, cur, fz, rfl, hb, hh, hn, hm, hs, ht⟩
  · have : c = [] := List.eq_nil_of_length_eq_zero (by simpa using hl)
    subst this; exact Go.Eng.Sl.nil w sz
  · exact ⟨some ⟨g, 0, none⟩, cap, rfl, hl, hn, hm, (fun h => by cases h), fun p hp => by obtain rfl := Option.some.inj hp; exact fun j u hu => h.cells rfl j u hu⟩
end Go

namespace Go.Ax
open Go Go.RowKit Go.Eng
set_option linter.unusedVariables false
structure Stp (O : Nat → Prop) (w w' : World) : Prop where
  os : w'.os = w.os
  tape : w'.tape = w.tape
  output : w'.output = w.output
  size : w.heap.size ≤ w'.heap.size
  block : ∀ k, k < w.heap.size → ¬ O k → w'.heap[k]? = w.heap[k]?
theorem Stp.refl (O : Nat → Prop) (w : World) : Stp O w w := ⟨rfl, rfl, rfl, Nat.le_refl _, fun _ _ _ => rfl⟩
theorem Stp.trans {O : Nat → Prop} {a b c : World} (h : Stp O a b) (k : Stp O b c) : Stp O a c :=
  ⟨k.os.trans h.os, k.tape.trans h.tape, k.output.trans h.output, Nat.le_trans h.size k.size, fun i hi hn => (k.block i (Nat.lt_of_lt_of_le hi h.size) hn).trans (h.block i hi hn)⟩
theorem Stp.then {O O1 O2 : Nat → Prop} {a b c : World} (h : Stp O1 a b) (k : Stp O2 b c) (h1 : ∀ i, i < a.heap.size → O1 i → O i) (h2 : ∀ i, i < a.heap.size → O2 i → O i) : Stp O a c :=
  ⟨k.os.trans h.os, k.tape.trans h.tape, k.output.trans h.output, Nat.le_trans h.size k.size, fun i hi hn => (k.block i (Nat.lt_of_lt_of_le hi h.size) (fun e => hn (h2 i hi e))).trans (h.block i hi (fun e => hn (h1 i hi e)))⟩
theorem Stp.mono {O O' : Nat → Prop} {a b : World} (h : Stp O a b) (k : ∀ i, i < a.heap.size → O i → O' i) : Stp O' a b :=
  ⟨h.os, h.tape, h.output, h.size, fun i hi hn => h.block i hi (fun e => hn (k i hi e))⟩
abbrev No : Nat → Prop := fun _ => False
theorem Stp.of_ext {w w' : World} (h : Ext w w') (O : Nat → Prop) : Stp O w w' := ⟨h.os, h.tape, h.output, h.size, fun i hi _ => h.block i hi⟩
theorem Stp.ext {w w' : World} (h : Stp No w w') : Ext w w' := ⟨h.os, h.tape, h.output, h.size, fun i hi => h.block i hi id⟩
theorem Stp.of_grown {w w' : World} {r : Option Nat} (h : w.grownBy w' r) : Stp (fun b => r = some b) w w' := ⟨h.os, h.tape, h.output, h.size, fun i hi hn => h.block i hi (fun e => hn e.symm)⟩
inductive Ty where
  | bool | i64 | u8 | u32 | u64 | str | unit
  | pair (a b : Ty)
  | sl (e : Ty)
  deriving DecidableEq
@[reducible] def El : Ty → Type
  | .bool => Bool | .i64 => Int | .u8 => UInt8 | .u32 => UInt32 | .u64 => UInt64 | .str => List UInt8 | .unit => Unit
  | .pair a b => El a × El b
  | .sl e => List (El e)
def Ty.n : Ty → Nat
  | .unit => 0
  | .pair a b => a.n + b.n
  | _ => 1
def All2 {α β : Type} (R : α → β → Prop) : List α → List β → Prop
  | [], [] => True
  | a :: l, b :: m => R a b ∧ All2 R l m
  | _, _ => False
theorem All2.len {α β : Type} {R : α → β → Prop} : ∀ {l : List α} {m : List β}, All2 R l m → m.length = l.length
  | [], [], _ => rfl
  | a :: l, b :: m, h => by simp [All2.len h.2]
  | [], b :: m, h => h.elim
  | a :: l, [], h => h.elim
theorem All2.mono {α β : Type} {R R' : α → β → Prop} (hR : ∀ a b, R a b → R' a b) : ∀ {l : List α} {m : List β}, All2 R l m → All2 R' l m
  | [], [], _ => trivial
  | a :: l, b :: m, h => ⟨hR _ _ h.1, All2.mono hR h.2⟩
  | [], b :: m, h => h.elim
  | a :: l, [], h => h.elim
theorem All2.get {α β : Type} {R : α → β → Prop} : ∀ {l : List α} {m : List β} {i : Nat} {a : α}, All2 R l m → l[i]? = some a → ∃ b, m[i]? = some b ∧ R a b
  | [], [], i, a, _, h => by simp at h
  | x :: l, y :: m, 0, a, h, hi => ⟨y, rfl, by simp at hi; exact hi ▸ h.1⟩
  | x :: l, y :: m, i + 1, a, h, hi => by
    obtain ⟨b, h1, h2⟩ := All2.get h.2 (i := i) (a := a) (by simpa using hi)
    exact ⟨b, by simpa using h1, h2⟩
  | [], b :: m, _, _, h, _ => h.elim
  | a :: l, [], _, _, h, _ => h.elim
theorem All2.app {α β : Type} {R : α → β → Prop} : ∀ {l l' : List α} {m m' : List β}, All2 R l m → All2 R l' m' → All2 R (l ++ l') (m ++ m')
  | [], _, [], _, _, h => h
  | a :: l, _, b :: m, _, h, h' => ⟨h.1, All2.app h.2 h'⟩
  | [], _, b :: m, _, h, _ => h.elim
  | a :: l, _, [], _, h, _ => h.elim
theorem All2.take {α β : Type} {R : α → β → Prop} : ∀ {l : List α} {m : List β} (n : Nat), All2 R l m → All2 R (l.take n) (m.take n)
  | _, _, 0, _ => by simp [All2]
  | [], [], n + 1, _ => by simp [All2]
  | a :: l, b :: m, n + 1, h => by simp only [List.take_succ_cons]; exact ⟨h.1, All2.take n h.2⟩
  | [], b :: m, _ + 1, h => h.elim
  | a :: l, [], _ + 1, h => h.elim
theorem All2.drop {α β : Type} {R : α → β → Prop} : ∀ {l : List α} {m : List β} (n : Nat), All2 R l m → All2 R (l.drop n) (m.drop n)
  | l, m, 0, h => by simpa using h
  | [], [], n + 1, _ => by simp [All2]
  | a :: l, b :: m, n + 1, h => by simpa using All2.drop n h.2
  | [], b :: m, _ + 1, h => h.elim
  | a :: l, [], _ + 1, h => h.elim
def CR : (t : Ty) → El t → List Value → World → Prop
  | .bool, x, us, _ => us = [.bool x]
  | .i64, x, us, _ => us = [.int .i64 x]
  | .u8, x, us, _ => us = [byteV x]
  | .u32, x, us, _ => us = [wordV x]
  | .u64, x, us, _ => us = [longV x]
  | .str, x, us, _ => us = [.string ⟨x.toArray⟩]
  | .unit, _, us, _ => us = []
  | .pair a b, x, us, w => ∃ u1 u2, us = u1 ++ u2 ∧ CR a x.1 u1 w ∧ CR b x.2 u2 w
  | .sl e, l, us, w => ∃ v cs, us = [v] ∧ All2 (fun x c => CR e x c w) l cs ∧ Sl w e.n v cs.flatten l.length
def Rd (t : Ty) (l : List (El t)) (v : Value) (w : World) : Prop := ∃ cs, All2 (fun x c => CR t x c w) l cs ∧ Sl w t.n v cs.flatten l.length
theorem CR.len {w : World} : ∀ {t : Ty} {x : El t} {us : List Value}, CR t x us w → us.length = t.n
  | .bool, x, us, h => by simp only [CR] at h; subst h; rfl
  | .i64, x, us, h => by simp only [CR] at h; subst h; rfl
  | .u8, x, us, h => by simp only [CR] at h; subst h; rfl
  | .u32, x, us, h => by simp only [CR] at h; subst h; rfl
  | .u64, x, us, h => by simp only [CR] at h; subst h; rfl
  | .str, x, us, h => by simp only [CR] at h; subst h; rfl
  | .unit, x, us, h => by simp only [CR] at h; subst h; rfl
  | .pair a b, x, us, h => by
    simp only [CR] at h
    obtain ⟨u1, u2, rfl, h1, h2⟩ := h
    rw [List.length_append, CR.len h1, CR.len h2]; rfl
  | .sl e, x, us, h => by simp only [CR] at h; obtain ⟨v, cs, rfl, _⟩ := h; rfl
theorem Sl.one {w : World} {sz n : Nat} {v : Value} {c : List Value} (h : Sl w sz v c n) : v.oneCell' = true := by
  obtain ⟨a, cap, rfl, _⟩ := h; rfl
theorem CR.one {w : World} : ∀ {t : Ty} {x : El t} {us : List Value}, CR t x us w → ∀ u ∈ us, u.oneCell' = true
  | .bool, x, us, h => by simp only [CR] at h; subst h; simp [Value.oneCell']
  | .i64, x, us, h => by simp only [CR] at h; subst h; simp [Value.oneCell']
  | .u8, x, us, h => by simp only [CR] at h; subst h; simp [Value.oneCell', byteV]
  | .u32, x, us, h => by simp only [CR] at h; subst h; simp [Value.oneCell', wordV]
  | .u64, x, us, h => by simp only [CR] at h; subst h; simp [Value.oneCell', longV]
  | .str, x, us, h => by simp only [CR] at h; subst h; simp [Value.oneCell']
  | .unit, x, us, h => by simp only [CR] at h; subst h; simp
  | .pair a b, x, us, h => by
    simp only [CR] at h
    obtain ⟨u1, u2, rfl, h1, h2⟩ := h
    intro u hu
    rcases List.mem_append.1 hu with h | h
    · exact CR.one h1 u h
    · exact CR.one h2 u h
  | .sl e, x, us, h => by
    simp only [CR] at h; obtain ⟨v, cs, rfl, h1, h2⟩ := h
    intro u hu; rw [List.mem_singleton.1 hu]; exact Sl.one h2
inductive AV where
  | un
  | b (x : Bool) | i (x : Int) | u8 (x : UInt8) | u32 (x : UInt32) | u64 (x : UInt64) | str (l : List UInt8)
  | sl (t : Ty) (l : List (El t))
  | st (t : Ty) (l : List (El t))
  | sn (t : Ty) (l : List (El t))   -- a slice that is not nil
  | nil
  | nm (k : Nat)
  | pa (k off : Nat)
  | pe (k : Nat) (i : Int) (sz off : Nat)
  | vs (k sz : Nat) (lo hi : Int)   -- the part lo..hi of the row k, as a slice
  | pt (l : List AV)
  | agg (l : List AV)
  | tup (l : List AV)
  | fn (f : Nat) (a b : List AV)
def flat : (t : Ty) → El t → List AV
  | .bool, x => [.b x]
  | .i64, x => [.i x]
  | .u8, x => [.u8 x]
  | .u32, x => [.u32 x]
  | .u64, x => [.u64 x]
  | .str, x => [.str x]
  | .unit, _ => []
  | .pair a b, x => flat a x.1 ++ flat b x.2
  | .sl e, l => [.sl e l]
def flatL (t : Ty) : List (El t) → List AV
  | [] => []
  | x :: l => flat t x ++ flatL t l
theorem flat_len : ∀ (t : Ty) (x : El t), (flat t x).length = t.n
  | .bool, _ | .i64, _ | .u8, _ | .u32, _ | .u64, _ | .str, _ | .unit, _ | .sl _, _ => rfl
  | .pair a b, x => by rw [flat, List.length_append, flat_len a, flat_len b]; rfl
theorem flatL_app (t : Ty) : ∀ (l m : List (El t)), flatL t (l ++ m) = flatL t l ++ flatL t m
  | [], m => rfl
  | x :: l, m => by rw [List.cons_append, flatL, flatL, flatL_app t l m, List.append_assoc]
structure Cx where
  N : Nat → Prop
  ν : Nat → Value
  O : Nat → Prop
  w : World
def blk : Value → Option Nat
  | .pointer (some p) => some p.block
  | .slice (some p) _ _ => some p.block
  | _ => none
mutual
def Rep (c : Cx) : AV → Value → Prop
  | .un, _ => True
  | .b x, u => u = .bool x
  | .i x, u => u = .int .i64 x
  | .u8 x, u => u = byteV x
  | .u32 x, u => u = wordV x
  | .u64 x, u => u = longV x
  | .str x, u => u = .string ⟨x.toArray⟩
  | .sl t l, u => ∀ w', Stp c.O c.w w' → Rd t l u w'
  | .st t l, u => Tight u ∧ ∀ w', Stp c.O c.w w' → Rd t l u w'
  | .sn t l, u => (∃ p n k, u = .slice (some p) n k) ∧ ∀ w', Stp c.O c.w w' → Rd t l u w'
  | .nil, u => u = .slice none 0 0
  | .nm k, u => c.N k ∧ u = c.ν k ∧ u.oneCell' = true
  | .pa k off, u => c.N k ∧ ∃ b, blk (c.ν k) = some b ∧ u = .pointer (some ⟨b, off, none⟩)
  | .pe k i sz off, u => c.N k ∧ ∃ b, blk (c.ν k) = some b ∧ u = .pointer (some ⟨b, i.toNat * sz + off, none⟩)
  | .vs k sz lo hi, u => c.N k ∧ ∃ a n cap, c.ν k = .slice a n cap ∧ (0 ≤ lo ∧ lo ≤ hi ∧ hi ≤ (n : Int) ∧ n ≤ cap) ∧ u = .slice (if cap = lo.toNat then a else a.map (·.add (lo.toNat * sz))) (hi.toNat - lo.toNat) (cap - lo.toNat)
  | .pt l, u => ∃ p us, u = .pointer (some p) ∧ Reps c l us ∧ (∀ x ∈ us, x.oneCell' = true) ∧ ∀ w', Stp c.O c.w w' → Cs w' p us
  | .agg l, u => ∃ us, u = .agg us.toArray ∧ Reps c l us ∧ ∀ x ∈ us, x.oneCell' = true
  | .tup l, u => ∃ us, u = .tuple us.toArray ∧ Reps c l us
  | .fn f l m, u => ∃ us vs, u = .func (.func f) us.toArray vs.toArray ∧ Reps c l us ∧ Reps c m vs
def Reps (c : Cx) : List AV → List Value → Prop
  | [], us => us = []
  | s :: r, us => ∃ u t, us = u :: t ∧ Rep c s u ∧ Reps c r t
end
mutual
def nlt (m : Nat) : AV → Bool
  | .nm k => Nat.blt k m
  | .pa k _ => Nat.blt k m
  | .pe k _ _ _ => Nat.blt k m
  | .vs k _ _ _ => Nat.blt k m
  | .pt l => nltL m l
  | .agg l => nltL m l
  | .tup l => nltL m l
  | .fn _ l q => nltL m l && nltL m q
  | _ => true
def nltL (m : Nat) : List AV → Bool
  | [] => true
  | s :: r => nlt m s && nltL m r
end
theorem nltL_app (m : Nat) : ∀ (l r : List AV), nltL m (l ++ r) = (nltL m l && nltL m r)
  | [], r => by simp [nltL]
  | s :: l, r => by simp only [List.cons_append, nltL, nltL_app m l r, Bool.and_assoc]
theorem nlt_flat (m : Nat) : ∀ (t : Ty) (x : El t), nltL m (flat t x) = true
  | .bool, _ | .i64, _ | .u8, _ | .u32, _ | .u64, _ | .str, _ | .unit, _ | .sl _, _ => rfl
  | .pair a b, x => by rw [flat, nltL_app, nlt_flat m a, nlt_flat m b]; rfl
theorem nlt_flatL (m : Nat) (t : Ty) : ∀ (l : List (El t)), nltL m (flatL t l) = true
  | [] => rfl
  | x :: l => by rw [flatL, nltL_app, nlt_flat, nlt_flatL m t l]; rfl
structure Cx.Le (m : Option Nat) (c c' : Cx) : Prop where
  nm : ∀ k, (∀ q, m = some q → k < q) → c.N k → c'.N k ∧ c'.ν k = c.ν k
  st : ∀ w'', Stp c'.O c'.w w'' → Stp c.O c.w w''
def nq (m : Option Nat) (s : AV) : Prop := ∀ q, m = some q → nlt q s = true
def nqL (m : Option Nat) (s : List AV) : Prop := ∀ q, m = some q → nltL q s = true
mutual
theorem Rep.le {m : Option Nat} {c c' : Cx} (h : c.Le m c') : ∀ (s : AV) (u : Value), nq m s → Rep c s u → Rep c' s u
  | .un, u, _, hr => by simp only [Rep]
  | .b _, u, _, hr => by simpa only [Rep] using hr
  | .i _, u, _, hr => by simpa only [Rep] using hr
  | .u8 _, u, _, hr => by simpa only [Rep] using hr
  | .u32 _, u, _, hr => by simpa only [Rep] using hr
  | .u64 _, u, _, hr => by simpa only [Rep] using hr
  | .str _, u, _, hr => by simpa only [Rep] using hr
  | .nil, u, _, hr => by simpa only [Rep] using hr
  | .sl t l, u, _, hr => by
    simp only [Rep] at hr ⊢
    exact fun w' hw => hr w' (h.st w' hw)
  | .st t l, u, _, hr => by
    simp only [Rep] at hr ⊢
    exact ⟨hr.1, fun w' hw => hr.2 w' (h.st w' hw)⟩
  | .sn t l, u, _, hr => by
    simp only [Rep] at hr ⊢
    exact ⟨hr.1, fun w' hw => hr.2 w' (h.st w' hw)⟩
  | .nm k, u, hn, hr => by
    simp only [Rep] at hr ⊢
    have := h.nm k (fun q hq => by have := hn q hq; simpa [nlt] using this) hr.1
    exact ⟨this.1, by rw [this.2]; exact hr.2.1, hr.2.2⟩
  | .pa k off, u, hn, hr => by
    simp only [Rep] at hr ⊢
    have := h.nm k (fun q hq => by have := hn q hq; simpa [nlt] using this) hr.1
    exact ⟨this.1, by rw [this.2]; exact hr.2⟩
  | .pe k i sz off, u, hn, hr => by
    simp only [Rep] at hr ⊢
    have := h.nm k (fun q hq => by have := hn q hq; simpa [nlt] using this) hr.1
    exact ⟨this.1, by rw [this.2]; exact hr.2⟩
  | .vs k sz lo hi, u, hn, hr => by
    simp only [Rep] at hr ⊢
    have := h.nm k (fun q hq => by have := hn q hq; simpa [nlt] using this) hr.1
    exact ⟨this.1, by rw [this.2]; exact hr.2⟩
  | .tup l, u, hn, hr => by
    simp only [Rep] at hr ⊢
    obtain ⟨us, h1, h2⟩ := hr
    exact ⟨us, h1, Reps.le h l us (fun q hq => by have := hn q hq; simpa [nlt] using this) h2⟩
  | .agg l, u, hn, hr => by
    simp only [Rep] at hr ⊢
    obtain ⟨us, h1, h2, h3⟩ := hr
    exact ⟨us, h1, Reps.le h l us (fun q hq => by have := hn q hq; simpa [nlt] using this) h2, h3⟩
  | .fn f l p, u, hn, hr => by
    simp only [Rep] at hr ⊢
    obtain ⟨us, vs, h1, h2, h3⟩ := hr
    have hn' := fun q hq => by have := hn q hq; simpa only [nlt, Bool.and_eq_true] using this
    exact ⟨us, vs, h1, Reps.le h l us (fun q hq => (hn' q hq).1) h2, Reps.le h p vs (fun q hq => (hn' q hq).2) h3⟩
  | .pt l, u, hn, hr => by
    simp only [Rep] at hr ⊢
    obtain ⟨p, us, h1, h2, h3, h4⟩ := hr
    exact ⟨p, us, h1, Reps.le h l us (fun q hq => by have := hn q hq; simpa [nlt] using this) h2, h3, fun w' hw => h4 w' (h.st w' hw)⟩
theorem Reps.le {m : Option Nat} {c c' : Cx} (h : c.Le m c') : ∀ (s : List AV) (u : List Value), nqL m s → Reps c s u → Reps c' s u
  | [], u, _, hr => by simpa only [Reps] using hr
  | s :: r, u, hn, hr => by
    simp only [Reps] at hr ⊢
    obtain ⟨v, t, h1, h2, h3⟩ := hr
    have hn' := fun q hq => by have := hn q hq; simpa only [nltL, Bool.and_eq_true] using this
    exact ⟨v, t, h1, Rep.le h s v (fun q hq => (hn' q hq).1) h2, Reps.le h r t (fun q hq => (hn' q hq).2) h3⟩
end
theorem nq_none (s : AV) : nq none s := fun q h => by cases h
theorem nqL_none (s : List AV) : nqL none s := fun q h => by cases h
theorem Reps.get {c : Cx} : ∀ {l : List AV} {us : List Value} {i : Nat} {s : AV}, Reps c l us → l[i]? = some s → ∃ u, us[i]? = some u ∧ Rep c s u
  | [], us, i, s, h, hs => by simp at hs
  | a :: r, us, i, s, h, hs => by
    simp only [Reps] at h
    obtain ⟨u, t, rfl, h1, h2⟩ := h
    cases i with
    | zero => simp only [List.getElem?_cons_zero, Option.some.injEq] at hs ⊢; exact ⟨u, rfl, hs ▸ h1⟩
    | succ i => simp only [List.getElem?_cons_succ] at hs ⊢; exact h2.get hs
theorem Reps.len {c : Cx} : ∀ {l : List AV} {us : List Value}, Reps c l us → us.length = l.length
  | [], us, h => by simp only [Reps] at h; rw [h]; rfl
  | a :: r, us, h => by
    simp only [Reps] at h
    obtain ⟨u, t, rfl, _, h2⟩ := h
    simp [h2.len]
theorem Reps.app {c : Cx} : ∀ {l m : List AV} {us vs : List Value}, Reps c l us → Reps c m vs → Reps c (l ++ m) (us ++ vs)
  | [], m, us, vs, h, k => by simp only [Reps] at h; rw [h]; exact k
  | a :: r, m, us, vs, h, k => by
    simp only [Reps] at h
    obtain ⟨u, t, rfl, h1, h2⟩ := h
    simp only [List.cons_append, Reps]
    exact ⟨u, t ++ vs, rfl, h1, h2.app k⟩
theorem Reps.split {c : Cx} : ∀ {l m : List AV} {us : List Value}, Reps c (l ++ m) us → ∃ u1 u2, us = u1 ++ u2 ∧ Reps c l u1 ∧ Reps c m u2
  | [], m, us, h => ⟨[], us, rfl, by simp only [Reps], h⟩
  | a :: r, m, us, h => by
    simp only [List.cons_append, Reps] at h
    obtain ⟨u, t, rfl, h1, h2⟩ := h
    obtain ⟨u1, u2, rfl, h3, h4⟩ := Reps.split h2
    exact ⟨u :: u1, u2, rfl, by simp only [Reps]; exact ⟨u, u1, rfl, h1, h3⟩, h4⟩
theorem Reps.drop {c : Cx} : ∀ {l : List AV} {us : List Value} (n : Nat), Reps c l us → Reps c (l.drop n) (us.drop n)
  | l, us, 0, h => by simpa using h
  | [], us, n + 1, h => by simp only [Reps] at h; rw [h]; simp [Reps]
  | a :: r, us, n + 1, h => by
    simp only [Reps] at h
    obtain ⟨u, t, rfl, h1, h2⟩ := h
    simpa using h2.drop n
theorem Reps.take {c : Cx} : ∀ {l : List AV} {us : List Value} (n : Nat), Reps c l us → Reps c (l.take n) (us.take n)
  | l, us, 0, h => by simp [Reps]
  | [], us, n + 1, h => by simp only [Reps] at h; rw [h]; simp [Reps]
  | a :: r, us, n + 1, h => by
    simp only [Reps] at h
    obtain ⟨u, t, rfl, h1, h2⟩ := h
    simp only [List.take_succ_cons, Reps]
    exact ⟨u, t.take n, rfl, h1, h2.take n⟩
theorem Reps.one {c : Cx} {s : AV} {u : Value} (h : Rep c s u) : Reps c [s] [u] := by simp only [Reps]; exact ⟨u, [], rfl, h, rfl⟩
theorem Reps.un1 {c : Cx} {s : AV} {us : List Value} (h : Reps c [s] us) : ∃ u, us = [u] ∧ Rep c s u := by
  simp only [Reps] at h; obtain ⟨u, t, rfl, h1, rfl⟩ := h; exact ⟨u, rfl, h1⟩
theorem CR.reps {c : Cx} : ∀ {t : Ty} {x : El t} {us : List Value}, (∀ w', Stp c.O c.w w' → CR t x us w') → Reps c (flat t x) us
  | .bool, x, us, h => by have := h _ (Stp.refl _ _); simp only [CR] at this; subst this; simp [flat, Reps, Rep]
  | .i64, x, us, h => by have := h _ (Stp.refl _ _); simp only [CR] at this; subst this; simp [flat, Reps, Rep]
  | .u8, x, us, h => by have := h _ (Stp.refl _ _); simp only [CR] at this; subst this; simp [flat, Reps, Rep]
  | .u32, x, us, h => by have := h _ (Stp.refl _ _); simp only [CR] at this; subst this; simp [flat, Reps, Rep]
  | .u64, x, us, h => by have := h _ (Stp.refl _ _); simp only [CR] at this; subst this; simp [flat, Reps, Rep]
  | .str, x, us, h => by have := h _ (Stp.refl _ _); simp only [CR] at this; subst this; simp [flat, Reps, Rep]
  | .unit, x, us, h => by have := h _ (Stp.refl _ _); simp only [CR] at this; subst this; simp [flat, Reps]
  | .pair a b, x, us, h => by
    have h0 := h _ (Stp.refl _ _)
    simp only [CR] at h0
    obtain ⟨u1, u2, rfl, h1, h2⟩ := h0
    have key : ∀ w', Stp c.O c.w w' → CR a x.1 u1 w' ∧ CR b x.2 u2 w' := fun w' hs => by
      have h3 := h w' hs
      simp only [CR] at h3
      obtain ⟨v1, v2, he, h4, h5⟩ := h3
      have := List.append_inj he (by rw [CR.len h1, CR.len h4])
      obtain ⟨rfl, rfl⟩ := this
      exact ⟨h4, h5⟩
    simp only [flat]
    exact (CR.reps fun w' hs => (key w' hs).1).app (CR.reps fun w' hs => (key w' hs).2)
  | .sl e, l, us, h => by
    have h0 := h _ (Stp.refl _ _)
    simp only [CR] at h0
    obtain ⟨v, cs, rfl, h1, h2⟩ := h0
    simp only [flat]
    refine Reps.one ?_
    simp only [Rep]
    intro w' hs
    have h3 := h w' hs
    simp only [CR] at h3
    obtain ⟨v', cs', he, h4, h5⟩ := h3
    simp only [List.cons.injEq, and_true] at he
    subst he
    exact ⟨cs', h4, h5⟩
theorem Reps.cr {c : Cx} : ∀ {t : Ty} {x : El t} {us : List Value}, Reps c (flat t x) us → ∀ w', Stp c.O c.w w' → CR t x us w'
  | .bool, x, us, h, w', hs => by simp only [flat, Reps, Rep] at h; obtain ⟨u, t, rfl, rfl, rfl⟩ := h; simp [CR]
  | .i64, x, us, h, w', hs => by simp only [flat, Reps, Rep] at h; obtain ⟨u, t, rfl, rfl, rfl⟩ := h; simp [CR]
  | .u8, x, us, h, w', hs => by simp only [flat, Reps, Rep] at h; obtain ⟨u, t, rfl, rfl, rfl⟩ := h; simp [CR]
  | .u32, x, us, h, w', hs => by simp only [flat, Reps, Rep] at h; obtain ⟨u, t, rfl, rfl, rfl⟩ := h; simp [CR]
  | .u64, x, us, h, w', hs => by simp only [flat, Reps, Rep] at h; obtain ⟨u, t, rfl, rfl, rfl⟩ := h; simp [CR]
  | .str, x, us, h, w', hs => by simp only [flat, Reps, Rep] at h; obtain ⟨u, t, rfl, rfl, rfl⟩ := h; simp [CR]
  | .unit, x, us, h, w', hs => by simp only [flat, Reps] at h; subst h; simp [CR]
  | .pair a b, x, us, h, w', hs => by
    simp only [flat] at h
    obtain ⟨u1, u2, rfl, h1, h2⟩ := h.split
    simp only [CR]
    exact ⟨u1, u2, rfl, h1.cr w' hs, h2.cr w' hs⟩
  | .sl e, l, us, h, w', hs => by
    simp only [flat, Reps, Rep] at h
    obtain ⟨u, t, rfl, h1, rfl⟩ := h
    obtain ⟨cs, h2, h3⟩ := h1 w' hs
    simp only [CR]
    exact ⟨u, cs, rfl, h2, h3⟩
theorem Reps.flatL {c : Cx} {t : Ty} : ∀ {l : List (El t)} {us : List Value}, Reps c (flatL t l) us → ∃ cs, us = cs.flatten ∧ All2 (fun x m => Reps c (flat t x) m) l cs
  | [], us, h => ⟨[], by simpa [Ax.flatL, Reps] using h, by simp [All2]⟩
  | x :: l, us, h => by
    simp only [Ax.flatL] at h
    obtain ⟨u1, u2, rfl, h1, h2⟩ := h.split
    obtain ⟨cs, rfl, h3⟩ := Reps.flatL h2
    exact ⟨u1 :: cs, by simp, h1, h3⟩
theorem Reps.of_flatL {c : Cx} {t : Ty} : ∀ {l : List (El t)} {cs : List (List Value)}, All2 (fun x m => Reps c (flat t x) m) l cs → Reps c (Ax.flatL t l) cs.flatten
  | [], [], _ => by simp [Ax.flatL, Reps]
  | x :: l, u :: cs, h => by simp only [Ax.flatL, List.flatten_cons]; exact h.1.app (Reps.of_flatL h.2)
  | [], _ :: _, h => h.elim
  | _ :: _, [], h => h.elim
theorem flat_one {c : Cx} {t : Ty} {x : El t} {us : List Value} (h : Reps c (flat t x) us) : ∀ u ∈ us, u.oneCell' = true := (h.cr c.w (Stp.refl _ _)).one
theorem flatL_one {c : Cx} {t : Ty} : ∀ {l : List (El t)} {us : List Value}, Reps c (flatL t l) us → ∀ u ∈ us, u.oneCell' = true
  | [], us, h => by simp only [Ax.flatL, Reps] at h; subst h; simp
  | x :: l, us, h => by
    simp only [Ax.flatL] at h
    obtain ⟨u1, u2, rfl, h1, h2⟩ := h.split
    intro u hu
    rcases List.mem_append.1 hu with h | h
    · exact flat_one h1 u h
    · exact flatL_one h2 u h
theorem own_keep {w w' : World} {base e sz n : Nat} {v : Value} {xs : List Value} {Q : Nat → Prop} (h : w.ownsG base e sz v n xs) (hs : Stp Q w w') (hb : ∀ b, blk v = some b → ¬ Q b) : w'.ownsG base e sz v n xs := by
  refine ⟨h.1, ?_⟩
  rcases h.2 with h2 | ⟨g, cap, cur, fz, h1, h2, h3, h4⟩
  · exact .inl h2
  · refine .inr ⟨g, cap, cur, fz, h1, h2, ?_, h4⟩
    have hlt : g < w.heap.size := (Array.getElem?_eq_some_iff.1 h3).1
    rw [hs.block g hlt (hb g (by rw [h1]; rfl))]
    exact h3
theorem own_one {w : World} {base e sz n : Nat} {v : Value} {xs : List Value} (h : w.ownsG base e sz v n xs) : v.oneCell' = true := by
  rcases h.2 with ⟨rfl, _⟩ | ⟨g, cap, cur, fz, rfl, _⟩ <;> rfl
inductive Rs where
  | var (cells : List AV)
  | row (e : Nat) (t : Ty) (l : List (El t))
  | rowA (e sz n : Nat) (cells : List AV)
def HoldsV (c : Cx) (k : Nat) (cells : List AV) : Prop := ∃ b us, c.ν k = .pointer (some ⟨b, 0, none⟩) ∧ Blk c.w b us ∧ Reps c cells us ∧ ∀ u ∈ us, u.oneCell' = true
def HoldsM (c : Cx) (k : Nat) (e sz n : Nat) (cells : List AV) : Prop := ∃ vs, c.w.ownsG 0 e sz (c.ν k) n vs ∧ Reps c cells vs ∧ ∀ u ∈ vs, u.oneCell' = true
def Holds (c : Cx) (k : Nat) (R : Rs) : Prop := match R with
  | .var cells => HoldsV c k cells
  | .row e t l => HoldsM c k e t.n l.length (flatL t l)
  | .rowA e sz n cells => HoldsM c k e sz n cells
def Rs.cells : Rs → List AV
  | .var cells => cells
  | .row _ t l => flatL t l
  | .rowA _ _ _ cells => cells
abbrev LX := List (Nat × AV)
abbrev HX := List (Nat × Option Rs)
abbrev Fp := List (Nat × Rs)
def lkx (t : Nat) : LX → Option AV
  | [] => none
  | (d, v) :: L => bif Nat.beq t d then some v else lkx t L
def hlk (k : Nat) : HX → Option Rs
  | [] => none
  | (d, v) :: H => bif Nat.beq k d then v else hlk k H
def flk (k : Nat) : Fp → Option Rs
  | [] => none
  | (d, v) :: H => bif Nat.beq k d then some v else flk k H
def strOf (s : ByteArray) : List UInt8 := s.data.toList
def AV.of : Value → AV
  | .bool y => .b y
  | .int .i64 n => .i n
  | .int .u8 (.ofNat n) => bif Nat.blt n 256 then .u8 (UInt8.ofNat n) else .un
  | .int .u32 (.ofNat n) => bif Nat.blt n 4294967296 then .u32 (UInt32.ofNat n) else .un
  | .int .u64 (.ofNat n) => bif Nat.blt n 18446744073709551616 then .u64 (UInt64.ofNat n) else .un
  | .string s => .str (strOf s)
  | .slice none 0 0 => .nil
  | _ => .un
theorem AV.of_rep (c : Cx) (v : Value) : Rep c (AV.of v) v := by
  unfold AV.of
  split
  · simp only [Rep]
  · simp only [Rep]
  · rename_i n
    cases h : Nat.blt n 256
    · simp only [cond_false, Rep]
    · have hn : n < 256 := by simpa [Nat.blt_eq] using h
      simp [Rep, byteV, Nat.mod_eq_of_lt hn]
  · rename_i n
    cases h : Nat.blt n 4294967296
    · simp only [cond_false, Rep]
    · have hn : n < 4294967296 := by simpa [Nat.blt_eq] using h
      simp [Rep, wordV, Nat.mod_eq_of_lt hn]
  · rename_i n
    cases h : Nat.blt n 18446744073709551616
    · simp only [cond_false, Rep]
    · have hn : n < 18446744073709551616 := by simpa [Nat.blt_eq] using h
      simp [Rep, longV, Nat.mod_eq_of_lt hn]
  · simp only [Rep, strOf]
  · simp only [Rep]
  · simp only [Rep]
def evx (L : LX) : Operand → Option AV
  | .tmp t => lkx t L
  | .const c => some (AV.of c)
  | .global g => none
  | .func g => some (.fn g [] [])
theorem lkx_cons (t d : Nat) (v : AV) (L : LX) : lkx t ((d, v) :: L) = if t = d then some v else lkx t L := by
  simp only [lkx]
  cases h : Nat.beq t d
  · have : t ≠ d := fun e => by subst e; simp at h
    simp [this]
  · have : t = d := by simpa using h
    simp [this]
theorem hlk_cons (t d : Nat) (v : Option Rs) (L : HX) : hlk t ((d, v) :: L) = if t = d then v else hlk t L := by
  simp only [hlk]
  cases h : Nat.beq t d
  · have : t ≠ d := fun e => by subst e; simp at h
    simp [this]
  · have : t = d := by simpa using h
    simp [this]
theorem flk_cons (t d : Nat) (v : Rs) (L : Fp) : flk t ((d, v) :: L) = if t = d then some v else flk t L := by
  simp only [flk]
  cases h : Nat.beq t d
  · have : t ≠ d := fun e => by subst e; simp at h
    simp [this]
  · have : t = d := by simpa using h
    simp [this]
@[simp] theorem flk_nil (t : Nat) : flk t [] = none := rfl
structure Gx where
  w0 : World
  O0 : Nat → Prop
  Oa : Nat → Prop
  n0 : Nat
  ν0 : Nat → Value
def ownS (Oa : Nat → Prop) (hk : Nat → Option Rs) (ν : Nat → Value) : Nat → Prop := fun b => Oa b ∨ ∃ k R, hk k = some R ∧ blk (ν k) = some b
structure Sat (I : World → Prop) (n : Nat) (g : Gx) (N : Nat → Prop) (lk : Nat → Option AV) (hk : Nat → Option Rs) (a : Act) (w : World) (ν : Nat → Value) : Prop where
  size : a.tmps.size = n
  defers : a.defers = []
  stp : Stp g.O0 g.w0 w
  amb : ∀ b, g.Oa b → b < g.w0.heap.size ∧ ¬ g.O0 b
  inv : ∀ w', Stp (ownS g.Oa hk ν) w w' → I w'
  pin : ∀ k, k < g.n0 → N k ∧ ν k = g.ν0 k
  slots : ∀ t s, lk t = some s → Rep ⟨N, ν, ownS g.Oa hk ν, w⟩ s (a.tmps.getD t undef)
  res : ∀ k R, hk k = some R → N k ∧ Holds ⟨N, ν, ownS g.Oa hk ν, w⟩ k R ∧ ∀ b, blk (ν k) = some b → b < w.heap.size ∧ (g.w0.heap.size ≤ b ∨ g.O0 b)
  dist : ∀ k k' R R' b, hk k = some R → hk k' = some R' → k ≠ k' → blk (ν k) = some b → blk (ν k') ≠ some b
def fblk (ν : Nat → Value) (F : Fp) : Nat → Prop := fun b => ∃ k R, flk k F = some R ∧ blk (ν k) = some b
def has (k : Nat) (F : Fp) : Prop := (flk k F).isSome = true
def upd (F F' : Fp) (hk : Nat → Option Rs) (k : Nat) : Option Rs := match flk k F' with
  | some R => some R
  | none => match flk k F with | some _ => none | none => hk k
theorem upd_cases {F F' : Fp} {hk : Nat → Option Rs} {k : Nat} {R : Rs} (h : upd F F' hk k = some R) : flk k F' = some R ∨ (hk k = some R ∧ flk k F' = none ∧ flk k F = none) := by
  unfold upd at h
  split at h
  · rename_i R' h1; exact .inl (h1.trans h)
  · rename_i h1
    split at h
    · cases h
    · rename_i h2; exact .inr ⟨h, h1, h2⟩
structure Ok (c : Cx) (F F' : Fp) (s : AV) (v : Value) (w' : World) (ν' : Nat → Value) : Prop where
  old : ∀ k, c.N k → ν' k = c.ν k
  rep : Rep ⟨fun k => c.N k ∨ has k F', ν', fun b => (c.O b ∧ ¬ fblk c.ν F b) ∨ fblk ν' F' b, w'⟩ s v
  res : ∀ k R, flk k F' = some R → Holds ⟨fun k => c.N k ∨ has k F', ν', fun b => (c.O b ∧ ¬ fblk c.ν F b) ∨ fblk ν' F' b, w'⟩ k R ∧ ∀ b, blk (ν' k) = some b → b < w'.heap.size ∧ (c.w.heap.size ≤ b ∨ fblk c.ν F b)
  dist : ∀ k k' R R' b, flk k F' = some R → flk k' F' = some R' → k ≠ k' → blk (ν' k) = some b → blk (ν' k') ≠ some b
  stp : Stp (fblk c.ν F) c.w w'
theorem HoldsM.le {m : Option Nat} {c c' : Cx} {k e sz n : Nat} {cells : List AV} (hle : c.Le m c') (hm : nqL m cells) (hν : c'.ν k = c.ν k) (hb : ∀ b, blk (c.ν k) = some b → b < c.w.heap.size ∧ c'.w.heap[b]? = c.w.heap[b]?) (h : HoldsM c k e sz n cells) : HoldsM c' k e sz n cells := by
  obtain ⟨vs, h1, h2, h3⟩ := h
  refine ⟨vs, ?_, Reps.le hle _ _ hm h2, h3⟩
  rw [hν]
  refine ⟨h1.1, ?_⟩
  rcases h1.2 with h4 | ⟨g, cap, cur, fz, h4, h5, h6, h7⟩
  · exact .inl h4
  · exact .inr ⟨g, cap, cur, fz, h4, h5, by rw [(hb g (by rw [h4]; rfl)).2]; exact h6, h7⟩
theorem Holds.le {m : Option Nat} {c c' : Cx} {k : Nat} {R : Rs} (hle : c.Le m c') (hm : nqL m R.cells) (hν : c'.ν k = c.ν k) (hb : ∀ b, blk (c.ν k) = some b → b < c.w.heap.size ∧ c'.w.heap[b]? = c.w.heap[b]?) (h : Holds c k R) : Holds c' k R := by
  cases R with
  | var cells =>
    obtain ⟨b, us, h1, ⟨T, h2⟩, h3, h4⟩ := h
    refine ⟨b, us, by rw [hν]; exact h1, ⟨T, ?_⟩, Reps.le hle _ _ hm h3, h4⟩
    rw [(hb b (by rw [h1]; rfl)).2]; exact h2
  | row e t l => exact HoldsM.le hle hm hν hb h
  | rowA e sz n cells => exact HoldsM.le hle hm hν hb h
theorem Sat.step {I : World → Prop} {n : Nat} {g : Gx} {N N' : Nat → Prop} {lk : Nat → Option AV} {hk hk' : Nat → Option Rs} {a : Act} {w w' : World} {ν ν' : Nat → Value} {F F' : Fp} {s : AV} {v : Value}
    (S : Sat I n g N lk hk a w ν) (hF : ∀ k R, flk k F = some R → hk k = some R) (ok : Ok ⟨N, ν, ownS g.Oa hk ν, w⟩ F F' s v w' ν') (hN : ∀ k, N' k ↔ N k ∨ has k F') (hkq : ∀ k, hk' k = upd F F' hk k) :
    Sat I n g N' lk hk' a w' ν' ∧ Rep ⟨N', ν', ownS g.Oa hk' ν', w'⟩ s v := by
  obtain rfl : N' = fun k => N k ∨ has k F' := funext fun k => propext (hN k)
  obtain rfl : hk' = upd F F' hk := funext hkq
  have hfb : ∀ b, fblk ν F b → b < w.heap.size ∧ (g.w0.heap.size ≤ b ∨ g.O0 b) ∧ ownS g.Oa hk ν b := by
    rintro b ⟨k, R, hFk, hb⟩
    have hk := hF k R hFk
    exact ⟨((S.res k R hk).2.2 b hb).1, ((S.res k R hk).2.2 b hb).2, .inr ⟨k, R, hk, hb⟩⟩
  have hcase : ∀ k R, upd F F' hk k = some R → flk k F' = some R ∨ (hk k = some R ∧ ν' k = ν k ∧ ∀ b, blk (ν k) = some b → b < w.heap.size ∧ ¬ fblk ν F b) := by
    intro k R h
    rcases upd_cases h with h | ⟨h1, h2, h3⟩
    · exact .inl h
    · refine .inr ⟨h1, ok.old k (S.res k R h1).1, fun b hb => ⟨((S.res k R h1).2.2 b hb).1, ?_⟩⟩
      rintro ⟨k0, R0, hF0, hb0⟩
      by_cases e : k = k0
      · subst e; rw [h3] at hF0; cases hF0
      · exact S.dist k k0 R R0 b h1 (hF k0 R0 hF0) e hb hb0
  have hown : ∀ b, ownS g.Oa (upd F F' hk) ν' b → (ownS g.Oa hk ν b ∧ ¬ fblk ν F b) ∨ fblk ν' F' b := by
    rintro b (h | ⟨k, R, h, hb⟩)
    · refine .inl ⟨.inl h, fun hf => ?_⟩
      have h1 := S.amb b h
      rcases (hfb b hf).2.1 with h2 | h2
      · omega
      · exact h1.2 h2
    · rcases hcase k R h with h1 | ⟨h1, h2, h3⟩
      · exact .inr ⟨k, R, h1, hb⟩
      · rw [h2] at hb
        exact .inl ⟨.inr ⟨k, R, h1, hb⟩, (h3 b hb).2⟩
  have hownw : ∀ b, b < w.heap.size → ownS g.Oa (upd F F' hk) ν' b → ownS g.Oa hk ν b := by
    intro b hbw hb
    rcases hown b hb with h | ⟨k, R, h, hb'⟩
    · exact h.1
    · rcases ((ok.res k R h).2 b hb').2 with h1 | h1
      · exact absurd hbw (Nat.not_lt.2 h1)
      · exact (hfb b h1).2.2
  have hle : Cx.Le none ⟨N, ν, ownS g.Oa hk ν, w⟩ ⟨fun k => N k ∨ has k F', ν', ownS g.Oa (upd F F' hk) ν', w'⟩ :=
    ⟨fun k _ hNk => ⟨.inl hNk, ok.old k hNk⟩, fun w'' hs => ok.stp.then hs (fun i _ h => (hfb i h).2.2) hownw⟩
  have hle2 : Cx.Le none ⟨fun k => N k ∨ has k F', ν', fun b => (ownS g.Oa hk ν b ∧ ¬ fblk ν F b) ∨ fblk ν' F' b, w'⟩ ⟨fun k => N k ∨ has k F', ν', ownS g.Oa (upd F F' hk) ν', w'⟩ :=
    ⟨fun k _ h => ⟨h, rfl⟩, fun w'' hs => hs.mono fun i _ h => hown i h⟩
  refine ⟨⟨S.size, S.defers, ?_, S.amb, fun w'' hs => S.inv w'' (hle.st w'' hs), fun k hk => ⟨.inl (S.pin k hk).1, (ok.old k (S.pin k hk).1).trans (S.pin k hk).2⟩, fun t s hs => Rep.le hle s _ (nq_none s) (S.slots t s hs), ?_, ?_⟩, ?_⟩
  · refine S.stp.then ok.stp (fun i _ h => h) (fun i hi h => ?_)
    rcases (hfb i h).2.1 with h1 | h1
    · omega
    · exact h1
  · intro k R h
    rcases hcase k R h with h1 | ⟨h1, h2, h3⟩
    · obtain ⟨r1, r2⟩ := ok.res k R h1
      refine ⟨.inr (by unfold has; rw [h1]; rfl), ?_, fun b hb => ⟨(r2 b hb).1, ?_⟩⟩
      · exact Holds.le hle2 (nqL_none _) rfl (fun b hb => ⟨(r2 b hb).1, rfl⟩) r1
      · rcases (r2 b hb).2 with h4 | h4
        · exact .inl (Nat.le_trans S.stp.size h4)
        · exact (hfb b h4).2.1
    · obtain ⟨r0, r1, r2⟩ := S.res k R h1
      refine ⟨.inl r0, ?_, fun b hb => ?_⟩
      · exact Holds.le hle (nqL_none _) h2 (fun b hb => ⟨(h3 b hb).1, ok.stp.block b (h3 b hb).1 (h3 b hb).2⟩) r1
      · rw [h2] at hb
        exact ⟨Nat.lt_of_lt_of_le (r2 b hb).1 ok.stp.size, (r2 b hb).2⟩
  · intro k k' R R' b h h' hne hb hb'
    rcases hcase k R h with h1 | ⟨h1, h2, h3⟩
    · rcases hcase k' R' h' with h1' | ⟨h1', h2', h3'⟩
      · exact ok.dist k k' R R' b h1 h1' hne hb hb'
      · rw [h2'] at hb'
        rcases ((ok.res k R h1).2 b hb).2 with h4 | h4
        · exact absurd (h3' b hb').1 (Nat.not_lt.2 h4)
        · exact (h3' b hb').2 h4
    · rw [h2] at hb
      rcases hcase k' R' h' with h1' | ⟨h1', h2', h3'⟩
      · rcases ((ok.res k' R' h1').2 b hb').2 with h4 | h4
        · exact absurd (h3 b hb).1 (Nat.not_lt.2 h4)
        · exact (h3 b hb).2 h4
      · rw [h2'] at hb'
        exact S.dist k k' R R' b h1 h1' hne hb hb'
  · exact Rep.le hle2 s v (nq_none s) ok.rep
theorem Sat.put {I : World → Prop} {n : Nat} {g : Gx} {N : Nat → Prop} {lk lk' : Nat → Option AV} {hk : Nat → Option Rs} {a : Act} {w : World} {ν : Nat → Value} (S : Sat I n g N lk hk a w ν) {d : Nat} {s : AV} {v : Value} (hd : d < n)
    (hv : Rep ⟨N, ν, ownS g.Oa hk ν, w⟩ s v) (hl : ∀ t, lk' t = if t = d then some s else lk t) : Sat I n g N lk' hk (a.put (some d) v) w ν := by
  refine ⟨by rw [put_size]; exact S.size, by rw [put_defers]; exact S.defers, S.stp, S.amb, S.inv, S.pin, fun t u hu => ?_, S.res, S.dist⟩
  rw [hl] at hu
  by_cases e : t = d
  · rw [if_pos e] at hu
    obtain rfl := Option.some.inj hu
    subst e
    rw [show (a.put (some t) v).tmps.getD t undef = v from getD_put_same _ _ _ (by rw [S.size]; exact hd)]
    exact hv
  · rw [if_neg e] at hu
    rw [show (a.put (some d) v).tmps.getD t undef = a.tmps.getD t undef from getD_put_ne _ _ _ _ e]
    exact S.slots t u hu
theorem Sat.fewer {I : World → Prop} {n : Nat} {g : Gx} {N : Nat → Prop} {lk lk' : Nat → Option AV} {hk : Nat → Option Rs} {a : Act} {w : World} {ν : Nat → Value} (S : Sat I n g N lk hk a w ν) (h : ∀ t s, lk' t = some s → lk t = some s) : Sat I n g N lk' hk a w ν :=
  ⟨S.size, S.defers, S.stp, S.amb, S.inv, S.pin, fun t s hs => S.slots t s (h t s hs), S.res, S.dist⟩
theorem Sat.moreN {I : World → Prop} {n : Nat} {g : Gx} {N N' : Nat → Prop} {lk : Nat → Option AV} {hk : Nat → Option Rs} {a : Act} {w : World} {ν : Nat → Value} (S : Sat I n g N lk hk a w ν) (h : ∀ k, N k → N' k) : Sat I n g N' lk hk a w ν :=
  have hle : Cx.Le none ⟨N, ν, ownS g.Oa hk ν, w⟩ ⟨N', ν, ownS g.Oa hk ν, w⟩ := ⟨fun k _ hk => ⟨h k hk, rfl⟩, fun _ h => h⟩
  ⟨S.size, S.defers, S.stp, S.amb, S.inv, fun k hk => ⟨h k (S.pin k hk).1, (S.pin k hk).2⟩, fun t s hs => Rep.le hle s _ (nq_none s) (S.slots t s hs), fun k R hR => ⟨h k (S.res k R hR).1, Holds.le hle (nqL_none _) rfl (fun b hb => ⟨((S.res k R hR).2.2 b hb).1, rfl⟩) (S.res k R hR).2.1, (S.res k R hR).2.2⟩, S.dist⟩
mutual
def ren (ρ : Nat → Nat) : AV → AV
  | .nm k => .nm (ρ k)
  | .pa k o => .pa (ρ k) o
  | .pe k i s o => .pe (ρ k) i s o
  | .vs k s a b => .vs (ρ k) s a b
  | .tup l => .tup (renL ρ l)
  | .agg l => .agg (renL ρ l)
  | .fn f l q => .fn f (renL ρ l) (renL ρ q)
  | .pt l => .pt (renL ρ l)
  | s => s
def renL (ρ : Nat → Nat) : List AV → List AV
  | [] => []
  | s :: r => ren ρ s :: renL ρ r
end
def renR (ρ : Nat → Nat) : Rs → Rs
  | .var cells => .var (renL ρ cells)
  | .rowA e sz n cells => .rowA e sz n (renL ρ cells)
  | R => R
theorem renL_app (ρ : Nat → Nat) : ∀ (l r : List AV), renL ρ (l ++ r) = renL ρ l ++ renL ρ r
  | [], r => by simp [renL]
  | s :: l, r => by simp only [List.cons_append, renL, renL_app ρ l r]
theorem ren_flat (ρ : Nat → Nat) : ∀ (t : Ty) (x : El t), renL ρ (flat t x) = flat t x
  | .bool, _ | .i64, _ | .u8, _ | .u32, _ | .u64, _ | .str, _ | .unit, _ | .sl _, _ => rfl
  | .pair a b, x => by rw [flat, renL_app, ren_flat ρ a, ren_flat ρ b]
theorem ren_flatL (ρ : Nat → Nat) (t : Ty) : ∀ (l : List (El t)), renL ρ (flatL t l) = flatL t l
  | [] => rfl
  | x :: l => by rw [flatL, renL_app, ren_flat, ren_flatL ρ t l]
def rlt (m : Nat) : Rs → Bool | .var cells => nltL m cells | .rowA _ _ _ cells => nltL m cells | .row _ _ _ => true
theorem rlt_cells (m : Nat) (R : Rs) : rlt m R = nltL m R.cells := by
  cases R with
  | row e t l => simp only [rlt, Rs.cells, nlt_flatL]
  | _ => rfl
mutual
theorem Rep.ren {ρ : Nat → Nat} {N N' : Nat → Prop} {ν ν' : Nat → Value} {O O' : Nat → Prop} {w : World} {m : Nat} (hN : ∀ k, k < m → N (ρ k) → N' k ∧ ν' k = ν (ρ k)) (hO : ∀ w'', Stp O' w w'' → Stp O w w'') : ∀ (s : AV) (u : Value), nlt m s = true → Rep ⟨N, ν, O, w⟩ (Ax.ren ρ s) u → Rep ⟨N', ν', O', w⟩ s u
  | .un, u, _, h => by simp only [Rep]
  | .b _, u, _, h => by simpa only [Ax.ren, Rep] using h
  | .i _, u, _, h => by simpa only [Ax.ren, Rep] using h
  | .u8 _, u, _, h => by simpa only [Ax.ren, Rep] using h
  | .u32 _, u, _, h => by simpa only [Ax.ren, Rep] using h
  | .u64 _, u, _, h => by simpa only [Ax.ren, Rep] using h
  | .str _, u, _, h => by simpa only [Ax.ren, Rep] using h
  | .nil, u, _, h => by simpa only [Ax.ren, Rep] using h
  | .sl t l, u, _, h => by simp only [Ax.ren, Rep] at h ⊢; exact fun w' hs => h w' (hO w' hs)
  | .st t l, u, _, h => by simp only [Ax.ren, Rep] at h ⊢; exact ⟨h.1, fun w' hs => h.2 w' (hO w' hs)⟩
  | .sn t l, u, _, h => by simp only [Ax.ren, Rep] at h ⊢; exact ⟨h.1, fun w' hs => h.2 w' (hO w' hs)⟩
  | .nm k, u, hn, h => by
    simp only [Ax.ren, Rep] at h ⊢
    have := hN k (by simpa [nlt] using hn) h.1
    exact ⟨this.1, by rw [this.2]; exact h.2.1, h.2.2⟩
  | .pa k o, u, hn, h => by
    simp only [Ax.ren, Rep] at h ⊢
    have := hN k (by simpa [nlt] using hn) h.1
    exact ⟨this.1, by rw [this.2]; exact h.2⟩
  | .pe k i s o, u, hn, h => by
    simp only [Ax.ren, Rep] at h ⊢
    have := hN k (by simpa [nlt] using hn) h.1
    exact ⟨this.1, by rw [this.2]; exact h.2⟩
  | .vs k s a b, u, hn, h => by
    simp only [Ax.ren, Rep] at h ⊢
    have := hN k (by simpa [nlt] using hn) h.1
    exact ⟨this.1, by rw [this.2]; exact h.2⟩
  | .tup l, u, hn, h => by
    simp only [Ax.ren, Rep] at h ⊢
    obtain ⟨us, h1, h2⟩ := h
    exact ⟨us, h1, Reps.ren hN hO l us (by simpa only [nlt] using hn) h2⟩
  | .agg l, u, hn, h => by
    simp only [Ax.ren, Rep] at h ⊢
    obtain ⟨us, h1, h2, h3⟩ := h
    exact ⟨us, h1, Reps.ren hN hO l us (by simpa only [nlt] using hn) h2, h3⟩
  | .fn f l q, u, hn, h => by
    simp only [Ax.ren, Rep] at h ⊢
    obtain ⟨us, vs, h1, h2, h3⟩ := h
    simp only [nlt, Bool.and_eq_true] at hn
    exact ⟨us, vs, h1, Reps.ren hN hO l us hn.1 h2, Reps.ren hN hO q vs hn.2 h3⟩
  | .pt l, u, hn, h => by
    simp only [Ax.ren, Rep] at h ⊢
    obtain ⟨p, us, h1, h2, h3, h4⟩ := h
    exact ⟨p, us, h1, Reps.ren hN hO l us (by simpa only [nlt] using hn) h2, h3, fun w' hs => h4 w' (hO w' hs)⟩
theorem Reps.ren {ρ : Nat → Nat} {N N' : Nat → Prop} {ν ν' : Nat → Value} {O O' : Nat → Prop} {w : World} {m : Nat} (hN : ∀ k, k < m → N (ρ k) → N' k ∧ ν' k = ν (ρ k)) (hO : ∀ w'', Stp O' w w'' → Stp O w w'') : ∀ (s : List AV) (u : List Value), nltL m s = true → Reps ⟨N, ν, O, w⟩ (renL ρ s) u → Reps ⟨N', ν', O', w⟩ s u
  | [], u, _, h => by simpa only [renL, Reps] using h
  | s :: r, u, hn, h => by
    simp only [renL, Reps] at h ⊢
    simp only [nltL, Bool.and_eq_true] at hn
    obtain ⟨v, t, h1, h2, h3⟩ := h
    exact ⟨v, t, h1, Rep.ren hN hO s v hn.1 h2, Reps.ren hN hO r t hn.2 h3⟩
end
theorem Holds.ren {ρ : Nat → Nat} {N N' : Nat → Prop} {ν ν' : Nat → Value} {O O' : Nat → Prop} {w : World} {m k : Nat} {R : Rs} (hN : ∀ k, k < m → N (ρ k) → N' k ∧ ν' k = ν (ρ k)) (hO : ∀ w'', Stp O' w w'' → Stp O w w'') (hk : ν' k = ν (ρ k)) (hR : rlt m R = true) (h : Holds ⟨N, ν, O, w⟩ (ρ k) (renR ρ R)) : Holds ⟨N', ν', O', w⟩ k R := by
  rw [rlt_cells] at hR
  cases R with
  | var cells =>
    obtain ⟨b, us, g1, g2, g3, g4⟩ := h
    exact ⟨b, us, hk.trans g1, g2, Reps.ren hN hO cells us hR g3, g4⟩
  | row e t l =>
    obtain ⟨vs, g1, g2, g3⟩ := h
    exact ⟨vs, by show World.ownsG _ _ _ _ (ν' k) _ _; rw [hk]; exact g1, Reps.ren hN hO _ vs hR (by rw [ren_flatL]; exact g2), g3⟩
  | rowA e sz n cells =>
    obtain ⟨vs, g1, g2, g3⟩ := h
    exact ⟨vs, by show World.ownsG _ _ _ _ (ν' k) _ _; rw [hk]; exact g1, Reps.ren hN hO cells vs hR g2, g3⟩
theorem Sat.cut {I : World → Prop} {n : Nat} {g : Gx} {m : Nat} {N : Nat → Prop} {lk lk' : Nat → Option AV} {hk hk' : Nat → Option Rs} {a : Act} {w : World} {ν : Nat → Value} (ρ : Nat → Nat) (S : Sat I n g N lk hk a w ν) (hρ : ∀ k, k < g.n0 → k < m ∧ ρ k = k)
    (hl : ∀ t s, lk' t = some s → lk t = some (ren ρ s) ∧ nlt m s = true) (hh : ∀ k R, hk' k = some R → hk (ρ k) = some (renR ρ R) ∧ k < m ∧ rlt m R = true) (hinj : ∀ k k' R R', hk' k = some R → hk' k' = some R' → ρ k = ρ k' → k = k') : Sat I n g (· < m) lk' hk' a w (fun k => ν (ρ k)) := by
  have hown : ∀ b, ownS g.Oa hk' (fun k => ν (ρ k)) b → ownS g.Oa hk ν b := by
    rintro b (h | ⟨k, R, h, hb⟩)
    · exact .inl h
    · exact .inr ⟨ρ k, _, (hh k R h).1, hb⟩
  have hO : ∀ w'', Stp (ownS g.Oa hk' (fun k => ν (ρ k))) w w'' → Stp (ownS g.Oa hk ν) w w'' := fun w'' hs => hs.mono fun i _ h => hown i h
  have hN : ∀ k, k < m → N (ρ k) → k < m ∧ (fun k => ν (ρ k)) k = ν (ρ k) := fun k h _ => ⟨h, rfl⟩
  refine ⟨S.size, S.defers, S.stp, S.amb, fun w'' hs => S.inv w'' (hO w'' hs), fun k hk => ⟨(hρ k hk).1, by show ν (ρ k) = _; rw [(hρ k hk).2]; exact (S.pin k hk).2⟩, fun t s hs => ?_, fun k R hR => ?_, fun k k' R R' b h h' hne => S.dist (ρ k) (ρ k') _ _ b (hh k R h).1 (hh k' R' h').1 (fun e => hne (hinj k k' R R' h h' e))⟩
  · obtain ⟨h1, h2⟩ := hl t s hs
    exact Rep.ren hN hO s _ h2 (S.slots t _ h1)
  · obtain ⟨h1, h2, h3⟩ := hh k R hR
    obtain ⟨r0, r1, r2⟩ := S.res _ _ h1
    exact ⟨h2, Holds.ren hN hO rfl h3 r1, r2⟩
end Go.Ax

namespace Go.Ax
open Go Go.RowKit Go.Eng
set_option linter.unusedVariables false
abbrev SatL (I : World → Prop) (n : Nat) (g : Gx) (m : Nat) (L : LX) (H : HX) (a : Act) (w : World) (ν : Nat → Value) : Prop := Sat I n g (· < m) (fun t => lkx t L) (fun k => hlk k H) a w ν
abbrev PostX := Exit → Nat → LX → HX → Prop
def liftX (I : World → Prop) (n : Nat) (g : Gx) (Q : PostX) : Exit → Act → World → Prop := fun e a w => ∃ m L H ν, Q e m L H ∧ SatL I n g m L H a w ν
def Wc (P : Program) (I : World → Prop) (n : Nat) (g : Gx) (c : Code) (Q : PostX) (m : Nat) (L : LX) (H : HX) : Prop := ∀ a w ν, SatL I n g m L H a w ν → c.wp P (liftX I n g Q) a w
section
variable {P : Program} {I : World → Prop} {n : Nat} {g : Gx} {Q : PostX} {m : Nat} {L : LX} {H : HX}
theorem Wc.mono {c : Code} {Q' : PostX} (h : Wc P I n g c Q m L H) (hq : ∀ e m L H, Q e m L H → Q' e m L H) : Wc P I n g c Q' m L H :=
  fun a w ν S => wp_mono (h a w ν S) fun e a w ⟨m, L, H, ν, q, k⟩ => ⟨m, L, H, ν, hq _ _ _ _ q, k⟩
theorem Wc_seq {x y : Code} (R : PostX) (h : Wc P I n g x R m L H) (hn : ∀ m L H, R .normal m L H → Wc P I n g y Q m L H) (hx : ∀ e m L H, e ≠ .normal → R e m L H → Q e m L H) : Wc P I n g (.seq x y) Q m L H := by
  intro a w ν S
  refine wp_seq (wp_mono (h a w ν S) ?_)
  rintro e a' w' ⟨m', L', H', ν', q, S'⟩
  cases e with
  | normal => exact hn _ _ _ q a' w' ν' S'
  | _ => exact ⟨m', L', H', ν', hx _ _ _ _ (by simp) q, S'⟩
theorem Wc_skip (h : Q .normal m L H) : Wc P I n g .skip Q m L H := fun a w ν S => wp_skip ⟨m, L, H, ν, h, S⟩
theorem Wc_label {l : Nat} (h : Q .normal m L H) : Wc P I n g (.label l) Q m L H := fun a w ν S => wp_label ⟨m, L, H, ν, h, S⟩
theorem Wc_exit {id : Nat} (h : Q (.exit id) m L H) : Wc P I n g (.exit id) Q m L H := fun a w ν S => wp_exit ⟨m, L, H, ν, h, S⟩
theorem Wc_ret (h : Q .ret m L H) : Wc P I n g .ret Q m L H := fun a w ν S => wp_ret ⟨m, L, H, ν, h, S⟩
theorem evx_bool {a : Act} {w : World} {ν : Nat → Value} (S : SatL I n g m L H a w ν) {c : Operand} {t : Bool} (hc : evx L c = some (.b t)) : a.eval c = .bool t := by
  cases c with
  | tmp t' => have := S.slots t' _ hc; simp only [Rep] at this; exact this
  | const v =>
    simp only [evx, Option.some.injEq] at hc
    have := AV.of_rep ⟨fun _ => False, ν, fun _ => False, w⟩ v
    rw [hc] at this
    simp only [Rep] at this
    exact this
  | global g => simp [evx] at hc
  | func g => simp [evx] at hc
theorem Wc_cond {c : Operand} {x y : Code} {t : Bool} (hc : evx L c = some (.b t)) (h : Wc P I n g (bif t then x else y) Q m L H) : Wc P I n g (.cond c x y) Q m L H := by
  intro a w ν S
  have := evx_bool S hc
  cases t with
  | true => exact wp_cond_true this (h a w ν S)
  | false => exact wp_cond_false this (h a w ν S)
theorem Wc_block {id : Nat} {c : Code} (R : PostX) (h : Wc P I n g c R m L H) (h1 : ∀ m L H, R (.exit id) m L H → Q .normal m L H) (h2 : ∀ e m L H, e ≠ .exit id → R e m L H → Q e m L H) : Wc P I n g (.block id c) Q m L H := by
  intro a w ν S
  refine wp_block (wp_mono (h a w ν S) ?_)
  rintro e a' w' ⟨m', L', H', ν', q, S'⟩
  cases e with
  | exit id' =>
    simp only [Exit.inBlock]
    split
    · rename_i hid; subst hid; exact ⟨m', L', H', ν', h1 _ _ _ q, S'⟩
    · rename_i hid; exact ⟨m', L', H', ν', h2 _ _ _ _ (by simpa using hid) q, S'⟩
  | _ => exact ⟨m', L', H', ν', h2 _ _ _ _ (by simp) q, S'⟩
end
structure Good (I : World → Prop) (c : Cx) : Prop where
  lt : ∀ b, c.O b → b < c.w.heap.size
  inv : ∀ w', Stp c.O c.w w' → I w'
def ValX (c : Cx) (L : LX) (e : Operand → Value) : Prop := ∀ x s, evx L x = some s → Rep c s (e x)
structure Pre (c : Cx) (F F' : Fp) : Prop where
  res : ∀ k R, flk k F = some R → c.N k ∧ Holds c k R ∧ ∀ b, blk (c.ν k) = some b → c.O b
  dist : ∀ k k' R R' b, flk k F = some R → flk k' F = some R' → k ≠ k' → blk (c.ν k) = some b → blk (c.ν k') ≠ some b
  new : ∀ k, has k F' → has k F ∨ ¬ c.N k
def OPL (P : Program) (I : World → Prop) (L : LX) (F : Fp) (op : Op) (ty : TypeId) (s : AV) (F' : Fp) : Prop :=
  ∀ (c : Cx) (e : Operand → Value), Good I c → ValX c L e → Pre c F F' → opw P e op ty c.w fun v w' => ∃ ν', Ok c F F' s v w' ν'
def OS (P : Program) (I : World → Prop) (n : Nat) (g : Gx) (op : Op) (ty : TypeId) (m : Nat) (L : LX) (H : HX) (K : AV → Nat → HX → Prop) : Prop :=
  ∀ a w ν, SatL I n g m L H a w ν → opw P a.eval op ty w fun v w' => ∃ s m' H' ν', K s m' H' ∧ SatL I n g m' L H' a w' ν' ∧ Rep ⟨(· < m'), ν', ownS g.Oa (fun k => hlk k H') ν', w'⟩ s v
section
variable {P : Program} {I : World → Prop} {n : Nat} {g : Gx} {m : Nat} {L : LX} {H : HX}
theorem Sat.val {N : Nat → Prop} {lk : Nat → Option AV} {hk : Nat → Option Rs} {a : Act} {w : World} {ν : Nat → Value} (S : Sat I n g N lk hk a w ν) {L : LX} (hL : ∀ t s, lkx t L = some s → lk t = some s) : ValX ⟨N, ν, ownS g.Oa hk ν, w⟩ L a.eval := by
  intro x s hx
  cases x with
  | tmp t => exact S.slots t s (hL t s hx)
  | const c => simp only [evx, Option.some.injEq] at hx; subst hx; exact AV.of_rep _ c
  | global g => cases hx
  | func g => simp only [evx, Option.some.injEq] at hx; subst hx; simp only [Rep, Reps]; exact ⟨[], [], rfl, rfl, rfl⟩
theorem Sat.good {N : Nat → Prop} {lk : Nat → Option AV} {hk : Nat → Option Rs} {a : Act} {w : World} {ν : Nat → Value} (S : Sat I n g N lk hk a w ν) : Good I ⟨N, ν, ownS g.Oa hk ν, w⟩ :=
  ⟨fun b hb => by
    rcases hb with h | ⟨k, R, h, hb⟩
    · exact Nat.lt_of_lt_of_le (S.amb b h).1 S.stp.size
    · exact ((S.res k R h).2.2 b hb).1, S.inv⟩
theorem Sat.pre {N : Nat → Prop} {lk : Nat → Option AV} {hk : Nat → Option Rs} {a : Act} {w : World} {ν : Nat → Value} (S : Sat I n g N lk hk a w ν) {F F' : Fp} (hF : ∀ k R, flk k F = some R → hk k = some R) (hnew : ∀ k, has k F' → has k F ∨ ¬ N k) : Pre ⟨N, ν, ownS g.Oa hk ν, w⟩ F F' :=
  ⟨fun k R hk => by
    obtain ⟨r0, r1, r2⟩ := S.res k R (hF k R hk)
    exact ⟨r0, r1, fun b hb => .inr ⟨k, R, hF k R hk, hb⟩⟩, fun k k' R R' b h h' hne => S.dist k k' R R' b (hF k R h) (hF k' R' h') hne, hnew⟩
theorem OS_of {op : Op} {ty : TypeId} {F F' : Fp} {s : AV} {K : AV → Nat → HX → Prop} {m' : Nat} {H' : HX} (h : OPL P I L F op ty s F') (hF : ∀ k R, flk k F = some R → hlk k H = some R) (hnew : ∀ k, has k F' → has k F ∨ ¬ k < m)
    (hN : ∀ k, has k F' → k < m') (hm : m ≤ m') (hk' : ∀ k, hlk k H' = upd F F' (fun k => hlk k H) k) (hK : K s m' H') : OS P I n g op ty m L H K := by
  intro a w ν S
  refine opw_mono (h ⟨(· < m), ν, ownS g.Oa (fun k => hlk k H) ν, w⟩ a.eval S.good (S.val fun _ _ h => h) (S.pre hF hnew)) ?_
  rintro v w' ⟨ν', ok⟩
  obtain ⟨S', hr⟩ := S.step (N' := fun k => k < m ∨ has k F') (hk' := fun k => hlk k H') hF ok (fun _ => Iff.rfl) hk'
  have hsub : ∀ k, (k < m ∨ has k F') → k < m' := fun k h => h.elim (fun h => Nat.lt_of_lt_of_le h hm) (hN k)
  exact ⟨s, m', H', ν', hK, S'.moreN hsub, Rep.le (m := none) (c := ⟨fun k => k < m ∨ has k F', ν', ownS g.Oa (fun k => hlk k H') ν', w'⟩) (c' := ⟨(· < m'), ν', ownS g.Oa (fun k => hlk k H') ν', w'⟩) ⟨fun k _ hk => ⟨hsub k hk, rfl⟩, fun _ h => h⟩ s v (nq_none s) hr⟩
end
def RS (P : Program) (I : World → Prop) (n : Nat) (g : Gx) (ops : Array Oper) (Q : PostX) (l : List Oper) (m : Nat) (L : LX) (H : HX) : Prop := ∀ a w ν, SatL I n g m L H a w ν → wpList P ops (liftX I n g Q) l a w
section
variable {P : Program} {I : World → Prop} {n : Nat} {g : Gx} {Q : PostX} {m : Nat} {L : LX} {H : HX} {ops : Array Oper} {rest : List Oper}
theorem Wc_region {id : Nat} {l : List Oper} (h : RS P I n g l.toArray Q l m L H) : Wc P I n g (.region id l.toArray false) Q m L H := fun a w ν S => wp_region_lit (h a w ν S)
theorem RS_nil (h : Q .normal m L H) : RS P I n g ops Q [] m L H := fun a w ν S => wpList_nil ⟨m, L, H, ν, h, S⟩
theorem sx {d : Nat} {op : Op} {ty : TypeId} {pos : String} {af : Array Edge} (h : OS P I n g op ty m L H fun s m' H' => RS P I n g ops Q rest m' ((d, s) :: L) H') (hd : d < n) : RS P I n g ops Q (⟨some d, op, ty, pos, af, none⟩ :: rest) m L H := by
  intro a w ν S
  refine wpList_plain rfl fun K hK => wp_of_opw (opw_mono (h a w ν S) ?_)
  rintro v w' ⟨s, m', H', ν', hr, S', hv⟩
  exact hK _ _ (hr _ _ ν' (S'.put hd hv (fun t => lkx_cons t d s L)))
theorem sx0 {op : Op} {ty : TypeId} {pos : String} {af : Array Edge} (h : OS P I n g op ty m L H fun s m' H' => RS P I n g ops Q rest m' L H') : RS P I n g ops Q (⟨none, op, ty, pos, af, none⟩ :: rest) m L H := by
  intro a w ν S
  refine wpList_plain rfl fun K hK => wp_of_opw (opw_mono (h a w ν S) ?_)
  rintro v w' ⟨s, m', H', ν', hr, S', hv⟩
  exact hK _ _ (hr _ _ ν' S')
theorem yield_of {a : Act} {w : World} {ν : Nat → Value} (S : SatL I n g m L H a w ν) {d' j : Nat} {b : Bool} (hj : (ops[j]?).bind (·.dst) = some d') (hb : lkx d' L = some (.b b)) (hd' : d' < n) : yielded ops a.tmps j = some b := by
  have := S.slots d' _ hb
  simp only [Rep] at this
  simp only [yielded, hj, Option.bind_some]
  rw [Array.getD_eq_getD_getElem?] at this
  have hlt : d' < a.tmps.size := by rw [S.size]; exact hd'
  simp only [hlt, Array.getElem?_eq_getElem, Option.getD_some] at this ⊢
  rw [this]
theorem sxY {d d' j : Nat} {want : Bool} {op : Op} {ty : TypeId} {pos : String} {af : Array Edge} (hj : (ops[j]?).bind (·.dst) = some d') (hb : lkx d' L = some (.b want)) (hd' : d' < n)
    (h : OS P I n g op ty m L H fun s m' H' => RS P I n g ops Q rest m' ((d, s) :: L) H') (hd : d < n) : RS P I n g ops Q (⟨some d, op, ty, pos, af, some (j, want)⟩ :: rest) m L H := by
  intro a w ν S
  have hy := yield_of S hj hb hd'
  refine wpList_step fun K hK => ?_
  rw [if_pos (by simp [Region.wanted, hy])]
  refine wp_of_opw (opw_mono (h a w ν S) ?_)
  rintro v w' ⟨s, m', H', ν', hr, S', hv⟩
  exact hK _ _ (hr _ _ ν' (S'.put hd hv (fun t => lkx_cons t d s L)))
theorem sxY0 {d' j : Nat} {want : Bool} {op : Op} {ty : TypeId} {pos : String} {af : Array Edge} (hj : (ops[j]?).bind (·.dst) = some d') (hb : lkx d' L = some (.b want)) (hd' : d' < n)
    (h : OS P I n g op ty m L H fun s m' H' => RS P I n g ops Q rest m' L H') : RS P I n g ops Q (⟨none, op, ty, pos, af, some (j, want)⟩ :: rest) m L H := by
  intro a w ν S
  have hy := yield_of S hj hb hd'
  refine wpList_step fun K hK => ?_
  rw [if_pos (by simp [Region.wanted, hy])]
  refine wp_of_opw (opw_mono (h a w ν S) ?_)
  rintro v w' ⟨s, m', H', ν', hr, S', hv⟩
  exact hK _ _ (hr _ _ ν' S')
theorem sxN {d d' j : Nat} {want b : Bool} {op : Op} {ty : TypeId} {pos : String} {af : Array Edge} (hj : (ops[j]?).bind (·.dst) = some d') (hb : lkx d' L = some (.b b)) (hw : b = !want)
    (h : RS P I n g ops Q rest m ((d, .tup []) :: L) H) (hd : d < n) (hd' : d' < n) : RS P I n g ops Q (⟨some d, op, ty, pos, af, some (j, want)⟩ :: rest) m L H := by
  intro a w ν S
  have hy := yield_of S hj hb hd'
  refine wpList_step fun K hK => ?_
  rw [if_neg (by simp only [Region.wanted, hy, hw]; cases want <;> simp)]
  exact hK _ _ (h _ _ ν (S.put hd (by simp only [Rep, Reps]; exact ⟨[], rfl, rfl⟩) (fun t => lkx_cons t d _ L)))
theorem sxN0 {d' j : Nat} {want b : Bool} {op : Op} {ty : TypeId} {pos : String} {af : Array Edge} (hj : (ops[j]?).bind (·.dst) = some d') (hb : lkx d' L = some (.b b)) (hw : b = !want)
    (h : RS P I n g ops Q rest m L H) (hd' : d' < n) : RS P I n g ops Q (⟨none, op, ty, pos, af, some (j, want)⟩ :: rest) m L H := by
  intro a w ν S
  have hy := yield_of S hj hb hd'
  refine wpList_step fun K hK => ?_
  rw [if_neg (by simp only [Region.wanted, hy, hw]; cases want <;> simp)]
  exact hK _ _ (h _ _ ν S)
theorem yield_un {a : Act} {w : World} {ν : Nat → Value} (S : SatL I n g m L H a w ν) {d' j : Nat} (hj : (ops[j]?).bind (·.dst) = some d') (hb : lkx d' L = some (.tup [])) (hd' : d' < n) : yielded ops a.tmps j = none := by
  have := S.slots d' _ hb
  simp only [Rep, Reps] at this
  obtain ⟨us, h1, rfl⟩ := this
  simp only [yielded, hj, Option.bind_some]
  rw [Array.getD_eq_getD_getElem?] at h1
  have hlt : d' < a.tmps.size := by rw [S.size]; exact hd'
  simp only [hlt, Array.getElem?_eq_getElem, Option.getD_some] at h1 ⊢
  rw [h1]
theorem sxU {d d' j : Nat} {want : Bool} {op : Op} {ty : TypeId} {pos : String} {af : Array Edge} (hj : (ops[j]?).bind (·.dst) = some d') (hb : lkx d' L = some (.tup []))
    (h : RS P I n g ops Q rest m ((d, .tup []) :: L) H) (hd : d < n) (hd' : d' < n) : RS P I n g ops Q (⟨some d, op, ty, pos, af, some (j, want)⟩ :: rest) m L H := by
  intro a w ν S
  have hy := yield_un S hj hb hd'
  refine wpList_step fun K hK => ?_
  rw [if_neg (by simp [Region.wanted, hy])]
  exact hK _ _ (h _ _ ν (S.put hd (by simp only [Rep, Reps]; exact ⟨[], rfl, rfl⟩) (fun t => lkx_cons t d _ L)))
theorem sxU0 {d' j : Nat} {want : Bool} {op : Op} {ty : TypeId} {pos : String} {af : Array Edge} (hj : (ops[j]?).bind (·.dst) = some d') (hb : lkx d' L = some (.tup []))
    (h : RS P I n g ops Q rest m L H) (hd' : d' < n) : RS P I n g ops Q (⟨none, op, ty, pos, af, some (j, want)⟩ :: rest) m L H := by
  intro a w ν S
  have hy := yield_un S hj hb hd'
  refine wpList_step fun K hK => ?_
  rw [if_neg (by simp [Region.wanted, hy])]
  exact hK _ _ (h _ _ ν S)
end
end Go.Ax

namespace Go.Ax
open Go Go.RowKit Go.Eng
set_option linter.unusedVariables false
def iadd0 (a b : Int) : Int := IntKind.i64.wrap (a + b)
def isub0 (a b : Int) : Int := IntKind.i64.wrap (a - b)
def imul0 (a b : Int) : Int := IntKind.i64.wrap (a * b)
def iquo0 (a b : Int) : Int := IntKind.i64.wrap (a.tdiv b)
def irem0 (a b : Int) : Int := a.tmod b
def ibit0 (op : BinOp) (a b : Int) : Int := bits op .i64 a b
def ineg0 (a : Int) : Int := IntKind.i64.wrap (-a)
def ieq0 (a b : Int) : Bool := a == b
def ine0 (a b : Int) : Bool := a != b
def ilt0 (a b : Int) : Bool := decide (a < b)
def ile0 (a b : Int) : Bool := decide (a ≤ b)
def ishl0 (a : Int) (c : Nat) : Int := IntKind.i64.wrap (a * 2 ^ min c 64)
def ishr0 (a : Int) (c : Nat) : Int := a / 2 ^ min c 64
def beq0 (a b : Bool) : Bool := a == b
def bnot0 (a : Bool) : Bool := !a
def and0 (a b : Bool) : Bool := a && b
def seq0 (a b : List UInt8) : Bool := decide (a = b)
def u8op0 (op : BinOp) (a b : UInt8) : UInt8 := bop8 op a b
def u32op0 (op : BinOp) (a b : UInt32) : UInt32 := bop32 op a b
def u64op0 (op : BinOp) (a b : UInt64) : UInt64 := bop64 op a b
def u8rem0 (a b : UInt8) : UInt8 := UInt8.ofNat (a.toNat % b.toNat)
def u8shr0 (a : UInt8) (c : Nat) : UInt8 := UInt8.ofNat (a.toNat / 2 ^ min c 8)
def u8shl0 (a : UInt8) (c : Nat) : UInt8 := UInt8.ofInt ((a.toNat : Int) * 2 ^ min c 8)
def u64shr0 (a : UInt64) (c : Nat) : UInt64 := UInt64.ofNat (a.toNat / 2 ^ min c 64)
def u64shl0 (a : UInt64) (c : Nat) : UInt64 := UInt64.ofInt ((a.toNat : Int) * 2 ^ min c 64)
def u32shr0 (a : UInt32) (c : Nat) : UInt32 := UInt32.ofNat (a.toNat / 2 ^ min c 32)
def u32shl0 (a : UInt32) (c : Nat) : UInt32 := UInt32.ofInt ((a.toNat : Int) * 2 ^ min c 32)
def i64w0 (a : Int) : Int := IntKind.i64.wrap a
def u8i0 (a : UInt8) : Int := (a.toNat : Int)
def u64i0 (a : UInt64) : Int := IntKind.i64.wrap (a.toNat : Int)
def iu80 (a : Int) : UInt8 := UInt8.ofInt a
def iu320 (a : Int) : UInt32 := UInt32.ofInt a
def iu640 (a : Int) : UInt64 := UInt64.ofInt a
def u8u640 (a : UInt8) : UInt64 := a.toUInt64
def u64u80 (a : UInt64) : UInt8 := a.toUInt8
def u32u80 (a : UInt32) : UInt8 := a.toUInt8
def u64cmp0 (op : BinOp) (a b : UInt64) : Bool := cmpB op (a.toNat : Int) (b.toNat : Int)
def u8cmp0 (op : BinOp) (a b : UInt8) : Bool := cmpB op (a.toNat : Int) (b.toNat : Int)
def u32cmp0 (op : BinOp) (a b : UInt32) : Bool := cmpB op (a.toNat : Int) (b.toNat : Int)
def llen0 {α : Type} (l : List α) : Int := (l.length : Int)
def lget0 {α : Type} (l : List α) (i : Int) : Option α := if 0 ≤ i then l[i.toNat]? else none
def linb0 {α : Type} (l : List α) (i : Int) : Bool := decide (0 ≤ i ∧ i < l.length)
def lset0 {α : Type} (l : List α) (i : Int) (a : α) : List α := l.set i.toNat a
def lcut0 {α : Type} (l : List α) (lo hi : Int) : Option (List α) := if 0 ≤ lo ∧ lo ≤ hi ∧ hi ≤ l.length then some ((l.drop lo.toNat).take (hi - lo).toNat) else none
def lrep0 {α : Type} (n : Int) (a : α) : List α := List.replicate n.toNat a
def lapp0 {α : Type} (l m : List α) : List α := l ++ m
def lcpy0 {α : Type} (l m : List α) : List α := m.take l.length ++ l.drop m.length
def lemp0 {α : Type} (l : List α) : Bool := l.isEmpty
def ieqs0 (l m : List Int) : Bool := decide (l = m)
def fits0 {α : Type} (l : List α) (bytes : Nat) : Bool := decide (l.length * bytes ≤ 140737488355328)
def fitn0 (n : Int) (bytes : Nat) : Bool := decide (0 ≤ n ∧ bytes * n.toNat ≤ 281474976710656)
noncomputable def sealed {α : Type} (a : α) : α := Classical.choose (⟨a, rfl⟩ : ∃ x, x = a)
theorem sealed_eq {α : Type} (a : α) : sealed a = a := Classical.choose_spec (⟨a, rfl⟩ : ∃ x, x = a)
noncomputable def iadd : Int → Int → Int := sealed iadd0
theorem iadd_d : iadd = iadd0 := sealed_eq _
noncomputable def isub : Int → Int → Int := sealed isub0
theorem isub_d : isub = isub0 := sealed_eq _
noncomputable def imul : Int → Int → Int := sealed imul0
theorem imul_d : imul = imul0 := sealed_eq _
noncomputable def iquo : Int → Int → Int := sealed iquo0
theorem iquo_d : iquo = iquo0 := sealed_eq _
noncomputable def irem : Int → Int → Int := sealed irem0
theorem irem_d : irem = irem0 := sealed_eq _
noncomputable def ibit : BinOp → Int → Int → Int := sealed ibit0
theorem ibit_d : ibit = ibit0 := sealed_eq _
noncomputable def ineg : Int → Int := sealed ineg0
theorem ineg_d : ineg = ineg0 := sealed_eq _
noncomputable def ieq : Int → Int → Bool := sealed ieq0
theorem ieq_d : ieq = ieq0 := sealed_eq _
noncomputable def ine : Int → Int → Bool := sealed ine0
theorem ine_d : ine = ine0 := sealed_eq _
noncomputable def ilt : Int → Int → Bool := sealed ilt0
theorem ilt_d : ilt = ilt0 := sealed_eq _
noncomputable def ile : Int → Int → Bool := sealed ile0
theorem ile_d : ile = ile0 := sealed_eq _
noncomputable def ishl : Int → Nat → Int := sealed ishl0
theorem ishl_d : ishl = ishl0 := sealed_eq _
noncomputable def ishr : Int → Nat → Int := sealed ishr0
theorem ishr_d : ishr = ishr0 := sealed_eq _
noncomputable def beq' : Bool → Bool → Bool := sealed beq0
theorem beq_d : beq' = beq0 := sealed_eq _
noncomputable def bnot : Bool → Bool := sealed bnot0
theorem bnot_d : bnot = bnot0 := sealed_eq _
noncomputable def and' : Bool → Bool → Bool := sealed and0
theorem and_d : and' = and0 := sealed_eq _
noncomputable def seq' : List UInt8 → List UInt8 → Bool := sealed seq0
theorem seq_d : seq' = seq0 := sealed_eq _
noncomputable def u8op : BinOp → UInt8 → UInt8 → UInt8 := sealed u8op0
theorem u8op_d : u8op = u8op0 := sealed_eq _
noncomputable def u32op : BinOp → UInt32 → UInt32 → UInt32 := sealed u32op0
theorem u32op_d : u32op = u32op0 := sealed_eq _
noncomputable def u64op : BinOp → UInt64 → UInt64 → UInt64 := sealed u64op0
theorem u64op_d : u64op = u64op0 := sealed_eq _
noncomputable def u8rem : UInt8 → UInt8 → UInt8 := sealed u8rem0
theorem u8rem_d : u8rem = u8rem0 := sealed_eq _
noncomputable def u8shr : UInt8 → Nat → UInt8 := sealed u8shr0
theorem u8shr_d : u8shr = u8shr0 := sealed_eq _
noncomputable def u8shl : UInt8 → Nat → UInt8 := sealed u8shl0
theorem u8shl_d : u8shl = u8shl0 := sealed_eq _
noncomputable def u64shr : UInt64 → Nat → UInt64 := sealed u64shr0
theorem u64shr_d : u64shr = u64shr0 := sealed_eq _
noncomputable def u64shl : UInt64 → Nat → UInt64 := sealed u64shl0
theorem u64shl_d : u64shl = u64shl0 := sealed_eq _
noncomputable def u32shr : UInt32 → Nat → UInt32 := sealed u32shr0
theorem u32shr_d : u32shr = u32shr0 := sealed_eq _
noncomputable def u32shl : UInt32 → Nat → UInt32 := sealed u32shl0
theorem u32shl_d : u32shl = u32shl0 := sealed_eq _
noncomputable def i64w : Int → Int := sealed i64w0
theorem i64w_d : i64w = i64w0 := sealed_eq _
noncomputable def u8i : UInt8 → Int := sealed u8i0
theorem u8i_d : u8i = u8i0 := sealed_eq _
noncomputable def u64i : UInt64 → Int := sealed u64i0
theorem u64i_d : u64i = u64i0 := sealed_eq _
noncomputable def iu8 : Int → UInt8 := sealed iu80
theorem iu8_d : iu8 = iu80 := sealed_eq _
noncomputable def iu32 : Int → UInt32 := sealed iu320
theorem iu32_d : iu32 = iu320 := sealed_eq _
noncomputable def iu64 : Int → UInt64 := sealed iu640
theorem iu64_d : iu64 = iu640 := sealed_eq _
noncomputable def u8u64 : UInt8 → UInt64 := sealed u8u640
theorem u8u64_d : u8u64 = u8u640 := sealed_eq _
noncomputable def u64u8 : UInt64 → UInt8 := sealed u64u80
theorem u64u8_d : u64u8 = u64u80 := sealed_eq _
noncomputable def u32u8 : UInt32 → UInt8 := sealed u32u80
theorem u32u8_d : u32u8 = u32u80 := sealed_eq _
noncomputable def u64cmp : BinOp → UInt64 → UInt64 → Bool := sealed u64cmp0
theorem u64cmp_d : u64cmp = u64cmp0 := sealed_eq _
noncomputable def u8cmp : BinOp → UInt8 → UInt8 → Bool := sealed u8cmp0
theorem u8cmp_d : u8cmp = u8cmp0 := sealed_eq _
noncomputable def u32cmp : BinOp → UInt32 → UInt32 → Bool := sealed u32cmp0
theorem u32cmp_d : u32cmp = u32cmp0 := sealed_eq _
noncomputable def llen {α : Type} : List α → Int := sealed llen0
theorem llen_d {α : Type} : @llen α = llen0 := sealed_eq _
noncomputable def lget {α : Type} : List α → Int → Option α := sealed lget0
theorem lget_d {α : Type} : @lget α = lget0 := sealed_eq _
noncomputable def linb {α : Type} : List α → Int → Bool := sealed linb0
theorem linb_d {α : Type} : @linb α = linb0 := sealed_eq _
noncomputable def lset {α : Type} : List α → Int → α → List α := sealed lset0
theorem lset_d {α : Type} : @lset α = lset0 := sealed_eq _
noncomputable def lcut {α : Type} : List α → Int → Int → Option (List α) := sealed lcut0
theorem lcut_d {α : Type} : @lcut α = lcut0 := sealed_eq _
noncomputable def lrep {α : Type} : Int → α → List α := sealed lrep0
theorem lrep_d {α : Type} : @lrep α = lrep0 := sealed_eq _
noncomputable def lapp {α : Type} : List α → List α → List α := sealed lapp0
theorem lapp_d {α : Type} : @lapp α = lapp0 := sealed_eq _
noncomputable def lcpy {α : Type} : List α → List α → List α := sealed lcpy0
theorem lcpy_d {α : Type} : @lcpy α = lcpy0 := sealed_eq _
noncomputable def lemp {α : Type} : List α → Bool := sealed lemp0
theorem lemp_d {α : Type} : @lemp α = lemp0 := sealed_eq _
noncomputable def fits {α : Type} : List α → Nat → Bool := sealed fits0
theorem fits_d {α : Type} : @fits α = fits0 := sealed_eq _
noncomputable def ieqs : List Int → List Int → Bool := sealed ieqs0
theorem ieqs_d : ieqs = ieqs0 := sealed_eq _
noncomputable def fitn : Int → Nat → Bool := sealed fitn0
theorem fitn_d : fitn = fitn0 := sealed_eq _
noncomputable section
def unfE : (e e' : Ty) → List (El e') → Option (List (El e))
  | .u8, .u8, l => some l
  | .i64, .i64, l => some l
  | .sl .u8, .sl .u8, l => some l
  | .sl (.sl .u8), .sl (.sl .u8), l => some l
  | e, e', l => if h : e' = e then (Eq.rec (motive := fun x _ => Option (List (El x))) (some l) h) else none
theorem unfE_eq : ∀ {e e' : Ty} {l : List (El e')} {l' : List (El e)}, unfE e e' l = some l' → e' = e ∧ HEq l l' := by
  intro e e' l l' h
  unfold unfE at h
  split at h
  · exact ⟨rfl, heq_of_eq (Option.some.inj h)⟩
  · exact ⟨rfl, heq_of_eq (Option.some.inj h)⟩
  · exact ⟨rfl, heq_of_eq (Option.some.inj h)⟩
  · exact ⟨rfl, heq_of_eq (Option.some.inj h)⟩
  · split at h
    · rename_i e2; subst e2; exact ⟨rfl, heq_of_eq (Option.some.inj h)⟩
    · cases h
def unf : (t : Ty) → List AV → Option (El t × List AV)
  | .bool, .b x :: r => some (x, r)
  | .i64, .i x :: r => some (x, r)
  | .u8, .u8 x :: r => some (x, r)
  | .u32, .u32 x :: r => some (x, r)
  | .u64, .u64 x :: r => some (x, r)
  | .str, .str x :: r => some (x, r)
  | .unit, r => some ((), r)
  | .pair a b, r => match unf a r with
    | some (x, r) => (match unf b r with | some (y, r) => some ((x, y), r) | none => none)
    | none => none
  | .sl e, .sl e' l :: r => (match unfE e e' l with | some l => some (l, r) | none => none)
  | .sl e, .st e' l :: r => (match unfE e e' l with | some l => some (l, r) | none => none)
  | .sl e, .sn e' l :: r => (match unfE e e' l with | some l => some (l, r) | none => none)
  | .sl e, .nil :: r => some ([], r)
  | _, _ => none
def unfL (t : Ty) : List (List AV) → Option (List (El t))
  | [] => some []
  | c :: r => match unf t c with
    | some (x, []) => (match unfL t r with | some l => some (x :: l) | none => none)
    | _ => none
inductive Und where
  | bool | i64 | u8 | u32 | u64 | str
  | sl (el : TypeId)
  | fld (pl : List (Nat × Nat)) (sc : List Bool)
  | arr (n el : Nat)
  | ptr (el : TypeId)
  | oth
structure TI where
  u : Und
  size : Nat
  bytes : Nat
  zero : List AV
  ty : Option Ty
  eq2 : Bool := false
  eqn : Nat := 0   -- a struct of so many whole numbers, and of nothing else
abbrev TT := List (Nat × TI)
def tlk (k : Nat) : TT → Option TI
  | [] => none
  | (d, v) :: H => bif Nat.beq k d then some v else tlk k H
def addN {R : Type} (m nn : Nat) (K : Nat → R) : R := match m + nn with | 0 => K 0 | n + 1 => K (n + 1)
theorem addN_eq {R : Type} (m nn : Nat) (K : Nat → R) : addN m nn K = K (m + nn) := by unfold addN; split <;> rename_i h <;> rw [h]
def forceNs {R : Type} : List Nat → (List Nat → R) → R
  | [], K => K []
  | a :: r, K => addN 0 a fun a => forceNs r fun r => K (a :: r)
theorem forceNs_eq {R : Type} : ∀ (l : List Nat) (K : List Nat → R), forceNs l K = K l
  | [], K => rfl
  | a :: r, K => by simp only [forceNs, addN_eq, forceNs_eq r, Nat.zero_add]
def withB {R : Type} (i : TI) (K : Nat → R) : R := match i with | ⟨_, _, b, _, _, _, _⟩ => K b
theorem withB_eq {R : Type} (i : TI) (K : Nat → R) : withB i K = K i.bytes := rfl
mutual
def force {R : Type} : AV → (AV → R) → R
  | .pt l, K => forceL l fun l => K (.pt l)
  | .agg l, K => forceL l fun l => K (.agg l)
  | .tup l, K => forceL l fun l => K (.tup l)
  | .fn f a b, K => forceL a fun a => forceL b fun b => K (.fn f a b)
  | .un, K => K .un
  | .b x, K => K (.b x)
  | .i x, K => K (.i x)
  | .u8 x, K => K (.u8 x)
  | .u32 x, K => K (.u32 x)
  | .u64 x, K => K (.u64 x)
  | .str x, K => K (.str x)
  | .sl t l, K => K (.sl t l)
  | .st t l, K => K (.st t l)
  | .sn t l, K => K (.sn t l)
  | .nil, K => K .nil
  | .nm k, K => addN 0 k fun k => K (.nm k)
  | .pa k o, K => addN 0 k fun k => K (.pa k o)
  | .pe k i s o, K => addN 0 k fun k => K (.pe k i s o)
  | .vs k s a b, K => addN 0 k fun k => K (.vs k s a b)
def forceL {R : Type} : List AV → (List AV → R) → R
  | [], K => K []
  | s :: r, K => force s fun s => forceL r fun r => K (s :: r)
end
def forceR {R : Type} : Rs → (Rs → R) → R
  | .var l, K => forceL l fun l => K (.var l)
  | .row e t l, K => K (.row e t l)
  | .rowA e s n l, K => forceL l fun l => K (.rowA e s n l)
mutual
theorem force_eq {R : Type} : ∀ (s : AV) (K : AV → R), force s K = K s
  | .pt l, K => by simp only [force, forceL_eq]
  | .agg l, K => by simp only [force, forceL_eq]
  | .tup l, K => by simp only [force, forceL_eq]
  | .fn f a b, K => by simp only [force, forceL_eq]
  | .un, K | .b _, K | .i _, K | .u8 _, K | .u32 _, K | .u64 _, K | .str _, K | .sl _ _, K | .st _ _, K | .sn _ _, K | .nil, K => by simp only [force]
  | .nm _, K | .pa _ _, K | .pe _ _ _ _, K | .vs _ _ _ _, K => by simp only [force, addN_eq, Nat.zero_add]
theorem forceL_eq {R : Type} : ∀ (s : List AV) (K : List AV → R), forceL s K = K s
  | [], K => by simp only [forceL]
  | s :: r, K => by simp only [forceL, force_eq, forceL_eq]
end
theorem forceR_eq {R : Type} (s : Rs) (K : Rs → R) : forceR s K = K s := by cases s <;> simp only [forceR, forceL_eq]
structure Tr where
  s : AV
  F : Fp
  F' : Fp
  rd : Bool
  nn : Nat
def Tr.pure (s : AV) : Tr := ⟨s, [], [], true, 0⟩
def cellsA : AV → Option (List AV)
  | .tup _ => none
  | .un => none
  | .agg l => some l
  | s => some [s]
mutual
def noRd : AV → Bool
  | .sl _ _ | .st _ _ | .sn _ _ | .pt _ => false
  | .agg l => noRdL l
  | .tup l => noRdL l
  | .fn _ a b => noRdL a && noRdL b
  | _ => true
def noRdL : List AV → Bool
  | [] => true
  | s :: r => noRd s && noRdL r
end
def Ty.plain : Ty → Bool
  | .sl _ => false
  | .pair a b => a.plain && b.plain
  | _ => true
def noRdR : Rs → Bool
  | .var l => noRdL l
  | .row _ t _ => t.plain
  | .rowA _ _ _ l => noRdL l
def noRdF : Fp → Bool
  | [] => true
  | (_, R) :: r => noRdR R && noRdF r
def rdA (hk : Nat → Option Rs) : AV → Option (AV × Fp)
  | .nm k => match hk k with | some (.row e t l) => some (.sl t l, [(k, .row e t l)]) | _ => none
  | s => some (s, [])
def num? : AV → Option Int
  | .i x => some x
  | .u8 x => some (u8i x)
  | .u64 x => some (x.toNat : Int)
  | .u32 x => some (x.toNat : Int)
  | _ => none
def scalar : Und → Bool
  | .fld _ _ => false
  | .arr _ _ => false
  | _ => true
variable {R : Type}
def shiftBy (y : AV) (K : Nat → Option R) : Option R := match y with
  | .i c => bif ilt c 0 then none else K c.toNat
  | .u8 c => K c.toNat
  | .u32 c => K c.toNat
  | .u64 c => K c.toNat
  | _ => none
def evRem8 (op : BinOp) (a b : UInt8) (K : AV → Option R) : Option R := match op with
  | .rem => bif Nat.beq b.toNat 0 then none else K (.u8 (u8rem a b))
  | _ => none
def intsOf : List AV → Option (List Int)
  | [] => some []
  | .i a :: r => (match intsOf r with | some l => some (a :: l) | none => none)
  | _ => none
def evBin (bt : Bool) (e2 : Bool) (en : Nat) (bs : Bool) (op : BinOp) (x y : AV) (K : AV → Option R) : Option R := match op with
  | .shl => shiftBy y fun c => (match x with
    | .i a => K (.i (ishl a c))
    | .u8 a => K (.u8 (u8shl a c))
    | .u64 a => K (.u64 (u64shl a c))
    | .u32 a => K (.u32 (u32shl a c))
    | _ => none)
  | .shr => shiftBy y fun c => (match x with
    | .i a => K (.i (ishr a c))
    | .u8 a => K (.u8 (u8shr a c))
    | .u64 a => K (.u64 (u64shr a c))
    | .u32 a => K (.u32 (u32shr a c))
    | _ => none)
  | op => match x, y with
    | .i a, .i b => (match op with
      | .add => K (.i (iadd a b))
      | .sub => K (.i (isub a b))
      | .mul => K (.i (imul a b))
      | .quo => bif ieq b 0 then none else K (.i (iquo a b))
      | .rem => bif ieq b 0 then none else K (.i (irem a b))
      | .eql => K (.b (ieq a b))
      | .neq => K (.b (ine a b))
      | .lss => K (.b (ilt a b))
      | .leq => K (.b (ile a b))
      | .gtr => K (.b (ilt b a))
      | .geq => K (.b (ile b a))
      | op => K (.i (ibit op a b)))
    | .u8 a, .u8 b => bif isBop op then K (.u8 (u8op op a b)) else bif isCmp op then K (.b (u8cmp op a b)) else evRem8 op a b K
    | .u32 a, .u32 b => bif isBop op then K (.u32 (u32op op a b)) else bif isCmp op then K (.b (u32cmp op a b)) else none
    | .u64 a, .u64 b => bif isBop op then K (.u64 (u64op op a b)) else bif isCmp op then K (.b (u64cmp op a b)) else none
    | .b a, .b b => bif bt then (match op with
      | .eql => K (.b (beq' a b))
      | .neq => K (.b (bnot (beq' a b)))
      | _ => none) else none
    | .str a, .str b => (match op with
      | .eql => K (.b (seq' a b))
      | .neq => K (.b (bnot (seq' a b)))
      | _ => none)
    | .agg [.i a, .i b], .agg [.i c, .i d] => bif e2 then (match op with
      | .eql => K (.b (and' (ieq a c) (ieq b d)))
      | .neq => K (.b (bnot (and' (ieq a c) (ieq b d))))
      | _ => none) else none
    | .nil, .nil => bif bs then (match op with
      | .eql => K (.b true)
      | .neq => K (.b false)
      | _ => none) else none
    | .sn _ _, .nil => bif bs then (match op with
      | .eql => K (.b false)
      | .neq => K (.b true)
      | _ => none) else none
    | .sl _ l, .nil => bif bs then bif lemp l then none else (match op with
      | .eql => K (.b false)
      | .neq => K (.b true)
      | _ => none) else none
    | .agg l, .agg m => (match intsOf l, intsOf m with
      | some as, some bs => bif Nat.blt 0 en && Nat.beq as.length en && Nat.beq bs.length en then (match op with
        | .eql => K (.b (ieqs as bs))
        | .neq => K (.b (bnot (ieqs as bs)))
        | _ => none) else none
      | _, _ => none)
    | _, _ => none
def evConv (d : Und) (x : AV) (K : AV → Option R) : Option R := match d, x with
  | .i64, .i a => K (.i (i64w a))
  | .u8, .i a => K (.u8 (iu8 a))
  | .u32, .i a => K (.u32 (iu32 a))
  | .u64, .i a => K (.u64 (iu64 a))
  | .i64, .u8 a => K (.i (u8i a))
  | .u8, .u8 a => K (.u8 a)
  | .u64, .u8 a => K (.u64 (u8u64 a))
  | .i64, .u64 a => K (.i (u64i a))
  | .u8, .u64 a => K (.u8 (u64u8 a))
  | .u64, .u64 a => K (.u64 a)
  | .u8, .u32 a => K (.u8 (u32u8 a))
  | .str, .str a => K (.str a)
  | _, _ => none
def bldX (pl : List (Nat × Nat)) (ev : Operand → Option AV) : List AV → List (Nat × Operand) → Option (List AV)
  | cells, [] => some cells
  | cells, (i, x) :: r => match pl[i]?, (ev x).bind cellsA with
    | some (f, n), some l => bif Nat.beq l.length n && Nat.ble (f + n) cells.length then bldX pl ev (cells.take f ++ l ++ cells.drop (f + l.length)) r else none
    | _, _ => none
def partsX (ev : Operand → Option AV) : Nat → List (Nat × Operand) → Option (List AV)
  | _, [] => some []
  | k, (i, x) :: r => bif Nat.beq i k then (match ev x, partsX ev (k + 1) r with | some s, some l => some (s :: l) | _, _ => none) else none
def rdAL (hk : Nat → Option Rs) : List AV → Option (List AV × Fp)
  | [] => some ([], [])
  | s :: r => match rdA hk s, rdAL hk r with
    | some (a, F), some (l, G) => some (a :: l, F ++ G)
    | _, _ => none
def cellsAL : List AV → Option (List (List AV))
  | [] => some []
  | s :: r => match cellsA s, cellsAL r with | some c, some l => some (c :: l) | _, _ => none
def plOf' (T : TT) (t : TypeId) : Option (List (Nat × Nat)) := match tlk t T with
  | some i => (match i.u with
    | .fld pl _ => some pl
    | .arr n el => (match tlk el T with | some e => some ((List.range n).map fun i => (i * e.size, e.size)) | none => none)
    | _ => none)
  | none => none
def ldCells (sc : Bool) (n : Nat) (l : List AV) : Option AV := bif sc then l.head? else bif Nat.ble n l.length then some (.agg (l.take n)) else none
def evK (a : Option AV) (K : AV → Option R) : Option R := match a with | some s => K s | none => none
def slOf (T : TT) (t : TypeId) : Option (TypeId × TI) := match tlk t T with
  | some i => (match i.u with
    | .sl el => (match tlk el T with | some e => bif Nat.blt 0 e.size then some (el, e) else none | none => none)
    | _ => none)
  | none => none
def uOf (T : TT) (t : TypeId) : Option Und := match tlk t T with | some i => some i.u | none => none
def isU8 (T : TT) (t : TypeId) : Bool := match uOf T t with | some .u8 => true | _ => false
def evLoad (T : TT) (hk : Nat → Option Rs) (t : TypeId) (x : Option AV) (K : Tr → Option R) : Option R := match tlk t T, x with
  | some i, some (.pa k o) => (match hk k with
    | some (.var cells) => (match ldCells (scalar i.u) i.size (cells.drop o) with | some s => K ⟨s, [(k, .var cells)], [(k, .var cells)], true, 0⟩ | none => none)
    | _ => none)
  | some i, some (.pe k j sz o) => (match hk k with
    | some (.row e t l) => bif Nat.beq sz t.n then (lget l j).bind fun x => (match ldCells (scalar i.u) i.size ((flat t x).drop o) with | some s => K ⟨s, [(k, .row e t l)], [(k, .row e t l)], true, 0⟩ | none => none) else none
    | some (.rowA e sz' n cells) => (match ldCells (scalar i.u) i.size (cells.drop (j.toNat * sz + o)) with | some s => K ⟨s, [(k, .rowA e sz' n cells)], [(k, .rowA e sz' n cells)], true, 0⟩ | none => none)
    | _ => none)
  | some i, some (.pt l) => (match ldCells (scalar i.u) i.size l with | some s => K (.pure s) | none => none)
  | _, _ => none
def evStore (T : TT) (hk : Nat → Option Rs) (t : TypeId) (x : Option AV) (y : Option (List AV)) (K : Tr → Option R) : Option R := match tlk t T, x, y with
  | some i, some (.pa k o), some l => (match hk k with
    | some (.var cells) => bif Nat.beq l.length i.size && Nat.ble (o + l.length) cells.length then K ⟨.un, [(k, .var cells)], [(k, .var (cells.take o ++ l ++ cells.drop (o + l.length)))], false, 0⟩ else none
    | _ => none)
  | some i, some (.pe k j sz o), some c => (match hk k with
    | some (.row e t l) => bif Nat.beq sz t.n && Nat.beq c.length i.size && Nat.ble (o + c.length) t.n then
        (lget l j).bind fun x => (match unf t ((flat t x).take o ++ c ++ (flat t x).drop (o + c.length)) with
          | some (a, []) => K ⟨.un, [(k, .row e t l)], [(k, .row e t (lset l j a))], false, 0⟩
          | _ => none)
      else none
    | _ => none)
  | _, _, _ => none
def fldOf (T : TT) (t : TypeId) : Option (List (Nat × Nat)) := match uOf T t with | some (.fld pl _) => some pl | _ => none
def evFldA (T : TT) (t : TypeId) (x : Option AV) (f : Nat) (K : Tr → Option R) : Option R := match (fldOf T t).bind (·[f]?), x with
  | some (o', n), some (.pa k o) => bif Nat.beq n 0 then none else K (.pure (.pa k (o + o')))
  | some (o', n), some (.pe k j s o) => bif Nat.beq n 0 then none else K (.pure (.pe k j s (o + o')))
  | some (o', n), some (.pt l) => bif Nat.beq n 0 then none else K (.pure (.pt (l.drop o')))
  | _, _ => none
def evR (ev : Operand → Option AV) (hk : Nat → Option Rs) (x : Operand) : Option AV := match (ev x).bind (rdA hk) with | some (a, _) => some a | none => none
def evG (ev : Operand → Option AV) (hk : Nat → Option Rs) : List (Nat × Operand) → Fp
  | [] => []
  | (_, x) :: r => match (ev x).bind (rdA hk) with | some (_, G) => G ++ evG ev hk r | none => evG ev hk r
def repL {α : Type} (n : Nat) (l : List α) : List α := match n with | 0 => [] | n + 1 => l ++ repL n l
def unfN (τ : Ty) : Nat → List AV → Option (List (El τ))
  | 0, [] => some []
  | n + 1, l => (match unf τ l with | some (x, r) => (match unfN τ n r with | some xs => some (x :: xs) | none => none) | none => none)
  | _, _ => none
def evBldS (T : TT) (ev : Operand → Option AV) (hk : Nat → Option Rs) (m : Nat) (t : TypeId) (len : Nat) (parts : List (Nat × Operand)) (K : Tr → Option R) : Option R := match slOf T t with
  | some (el, i) => bif Nat.ble (len * i.size) 16777216 then
      (match i.ty with
      | some τ => (match bldX ((List.range len).map fun j => (j * i.size, i.size)) (evR ev hk) (repL len i.zero) parts with
        | some cells => (match unfN τ len cells with
          | some l => K ⟨.nm m, evG ev hk parts, [(m, .row el τ l)], false, 1⟩
          | none => none)
        | none => none)
      | none => (match bldX ((List.range len).map fun j => (j * i.size, i.size)) ev (repL len i.zero) parts with
        | some cells => K ⟨.nm m, [], [(m, .rowA el i.size len cells)], false, 1⟩
        | none => none))
    else none
  | none => none
def evMk (T : TT) (m : Nat) (t : TypeId) (l c : Option AV) (K : Tr → Option R) : Option R := match slOf T t, l, c with
  | some (el, i), some (.i n), some (.i c) => (match i.ty with
    | some τ => (match unf τ i.zero with
      | some (z, []) => withB i fun by' => bif fitn c by' then bif ieq n c then K ⟨.nm m, [], [(m, .row el τ (lrep n z))], false, 1⟩ else bif ieq n 0 then K ⟨.nm m, [], [(m, .row el τ [])], false, 1⟩ else none else none
      | _ => none)
    | none => none)
  | _, _, _ => none
def evIxA (T : TT) (hk : Nat → Option Rs) (t : TypeId) (x : Option AV) (j : Option Int) (K : Tr → Option R) : Option R := match x, j with
  | some (.pa k o), some i => (match uOf T t with
    | some (.arr n el) => (match tlk el T with | some e => bif ile 0 i then bif ilt i n then K (.pure (.pa k (o + i.toNat * e.size))) else none else none | none => none)
    | _ => none)
  | some a, some i => (match slOf T t with
    | some (_, ei) => (match a with
      | .sl τ l => bif Nat.beq ei.size τ.n then (lget l i).bind fun x => K (.pure (.pt (flat τ x))) else none
      | .st τ l => bif Nat.beq ei.size τ.n then (lget l i).bind fun x => K (.pure (.pt (flat τ x))) else none
      | .nm k => (match hk k with
        | some (.row e τ l) => bif Nat.beq ei.size τ.n then bif linb l i then K ⟨.pe k i τ.n 0, [(k, .row e τ l)], [(k, .row e τ l)], true, 0⟩ else none else none
        | some (.rowA e sz n cells) => bif Nat.beq ei.size sz then bif ile 0 i then bif ilt i n then K ⟨.pe k i sz 0, [(k, .rowA e sz n cells)], [(k, .rowA e sz n cells)], true, 0⟩ else none else none else none
        | _ => none)
      | _ => none)
    | none => none)
  | _, _ => none
def evIx (T : TT) (t : TypeId) (x : Option AV) (j : Option Int) (K : Tr → Option R) : Option R := match x, j, uOf T t with
  | some (.str l), some i, some .str => (lget l i).bind fun x => K (.pure (.u8 x))
  | some (.agg l), some i, some (.arr n el) => (match tlk el T with
    | some e => bif scalar e.u && Nat.beq e.size 1 && Nat.beq l.length n then bif ile 0 i then bif ilt i n then evK l[i.toNat]? (fun s => K (.pure s)) else none else none else none
    | none => none)
  | _, _, _ => none
def slsOf : AV → Option ((τ : Ty) × List (El τ))
  | .sl τ l => some ⟨τ, l⟩
  | .st τ l => some ⟨τ, l⟩
  | _ => none
def evCut (T : TT) (t : TypeId) (x : AV) (F : Fp) (lo : Int) (hi mx : Option (Option Int)) (K : Tr → Option R) : Option R := match x, uOf T t with
  | .str l, some .str => (match hi, mx with
    | none, none => (lcut l lo (llen l)).bind fun l => K (.pure (.str l))
    | some (some h), none => (lcut l lo h).bind fun l => K (.pure (.str l))
    | _, _ => none)
  | x, _ => (match slsOf x, slOf T t with
    | some ⟨τ, l⟩, some (_, ei) => bif Nat.beq ei.size τ.n then (match hi, mx with
      | none, none => (lcut l lo (llen l)).bind fun l => K ⟨.sl τ l, F, [], F.isEmpty, 0⟩
      | some (some h), none => (lcut l lo h).bind fun l => K ⟨.sl τ l, F, [], F.isEmpty, 0⟩
      | some (some h), some (some x) => bif ieq h x then (lcut l lo h).bind fun l => K ⟨.st τ l, F, [], F.isEmpty, 0⟩ else none
      | _, _ => none) else none
    | _, _ => none)
def lastIs (d : Nat) : TT → Bool
  | [] => false
  | (e, _) :: [] => Nat.beq d e
  | _ :: r => lastIs d r
def markT : TT → Bool
  | [] => false
  | (d, _) :: r => lastIs d r
def isRow (hk : Nat → Option Rs) : Option AV → Bool
  | some (.nm k) => (match hk k with | some (.row _ _ _) => true | _ => false)
  | _ => false
def evView (T : TT) (hk : Nat → Option Rs) (t : TypeId) (x : Option AV) (lo : Int) (hi : Option (Option Int)) (K : Tr → Option R) : Option R := match x, slOf T t, hi with
  | some (.nm k), some (_, ei), some (some h) => (match hk k with
    | some (.row e τ l) => bif Nat.beq ei.size τ.n then bif ile 0 lo then bif ile lo h then bif ile h (llen l) then K ⟨.vs k τ.n lo h, [(k, .row e τ l)], [(k, .row e τ l)], true, 0⟩ else none else none else none else none
    | _ => none)
  | _, _, _ => none
def evLen (T : TT) (t : TypeId) (hk : Nat → Option Rs) (x : Option AV) (K : Tr → Option R) : Option R := match uOf T t, x with
  | some (.sl _), some (.sl _ l) => K (.pure (.i (llen l)))
  | some (.sl _), some (.st _ l) => K (.pure (.i (llen l)))
  | some (.sl _), some .nil => K (.pure (.i 0))
  | some .str, some (.str l) => K (.pure (.i (llen l)))
  | some (.sl _), some (.nm k) => (match hk k with
    | some (.row e t l) => K ⟨.i (llen l), [(k, .row e t l)], [(k, .row e t l)], true, 0⟩
    | some (.rowA e sz n l) => K ⟨.i n, [(k, .rowA e sz n l)], [(k, .rowA e sz n l)], true, 0⟩
    | _ => none)
  | _, _ => none
def notIn (k : Nat) : Fp → Bool
  | [] => true
  | (d, _) :: r => !Nat.beq k d && notIn k r
def unfS (τ : Ty) (b : AV) : Option (List (El τ)) := match unf (.sl τ) [b] with | some (l, []) => some l | _ => none
def evApp (T : TT) (hk : Nat → Option Rs) (m : Nat) (t : TypeId) (a : Option AV) (bG : Option (AV × Fp)) (K : Tr → Option R) : Option R := match slOf T t, a, bG with
  | some (el, i), some a, some (b, G) => withB i fun by' => (match i.ty with
    | some τ => (match unfS τ b with
      | some m' => (match a with
        | .nm k => (match hk k with
          | some (.row e t l) => (match unfS τ (.sl t l) with
            | some l' => bif Nat.beq e el && Nat.beq t.n τ.n && notIn k G then bif fits (lapp l' m') by' then K ⟨.nm m, G ++ [(k, .row e t l)], (bif τ.plain then G else []) ++ [(m, .row el τ (lapp l' m'))], false, 1⟩ else none else none
            | none => none)
          | _ => none)
        | .nil => bif fits m' by' then K ⟨.nm m, G, (bif τ.plain then G else []) ++ [(m, .row el τ m')], false, 1⟩ else none
        | .st t l => (match unfS τ (.st t l) with
          | some l' => bif lemp m' then K ⟨.st t l, G, [], G.isEmpty, 0⟩ else bif fits (lapp l' m') by' then K ⟨.nm m, G, (bif τ.plain then G else []) ++ [(m, .row el τ (lapp l' m'))], false, 1⟩ else none
          | none => none)
        | _ => none)
      | none => none)
    | none => none)
  | _, _, _ => none
def evAppS (T : TT) (hk : Nat → Option Rs) (m : Nat) (t t' : TypeId) (a b : Option AV) (K : Tr → Option R) : Option R := match slOf T t, uOf T t', a, b with
  | some (el, i), some .str, some (.nm k), some (.str l) => bif isU8 T el && Nat.beq i.bytes 1 && Nat.beq i.size 1 then (match hk k with
    | some (.row e .u8 l0) => bif Nat.beq e el then bif fits (lapp l0 l) 1 then K ⟨.nm m, [(k, .row e .u8 l0)], [(m, .row el .u8 (lapp l0 l))], false, 1⟩ else none else none
    | _ => none) else none
  | _, _, _, _ => none
def zU8 (l : List AV) : Bool := match l with | [.u8 x] => Nat.beq x.toNat 0 | _ => false
def evAppZ (T : TT) (hk : Nat → Option Rs) (m : Nat) (t t' : TypeId) (a b : Option AV) (K : Tr → Option R) : Option R := match slOf T t, uOf T t', a, b with
  | some (el, i), some .i64, some (.nm k), some (.i n) => bif zU8 i.zero && Nat.beq i.bytes 1 && Nat.beq i.size 1 then (match hk k with
    | some (.row e .u8 l0) => bif Nat.beq e el && ile 0 n then bif fits (lapp l0 (lrep n (0 : UInt8))) 1 then K ⟨.nm m, [(k, .row e .u8 l0)], [(m, .row el .u8 (lapp l0 (lrep n (0 : UInt8))))], false, 1⟩ else none else none
    | _ => none) else none
  | _, _, _, _ => none
def evCpy (T : TT) (hk : Nat → Option Rs) (t : TypeId) (a : Option AV) (bG : Option (AV × Fp)) (K : Tr → Option R) : Option R := match slOf T t, a, bG with
  | some (el, i), some (.nm k), some (b, G) => (match i.ty, hk k with
    | some τ, some (.row e t l) => (match unfS τ b, unfS τ (.sl t l) with
      | some m', some l' => bif Nat.beq e el && Nat.beq i.size 1 && Nat.beq t.n τ.n && τ.plain && notIn k G then
          K ⟨.i (min (llen m') (llen l')), G ++ [(k, .row e t l)], G ++ [(k, .row el τ (lcpy l' m'))], false, 0⟩ else none
      | _, _ => none)
    | _, _ => none)
  | _, _, _ => none
def evsX (ev : Operand → Option AV) : List Operand → Option (List AV)
  | [] => some []
  | x :: r => match ev x, evsX ev r with | some s, some l => some (s :: l) | _, _ => none
def sameRow (T : TT) (hk : Nat → Option Rs) (s d : TypeId) : Option AV → Option (Nat × Nat × List UInt8)
  | some (.nm k) => (match uOf T s with
    | some (.sl el) => bif Nat.beq s d && isU8 T el then (match hk k with
      | some (.row e .u8 (a :: l)) => some (k, e, a :: l)
      | _ => none) else none
    | _ => none)
  | _ => none
def evOp (T : TT) (ev : Operand → Option AV) (hk : Nat → Option Rs) (m : Nat) (op : Op) (K : Tr → Option R) : Option R := match op with
  | .move x => evK (ev x) fun s => K (.pure s)
  | .assign x => evK (ev x) fun s => K (.pure s)
  | .pick b x y => (match ev b with
    | some (.b c) => bif c then evK (ev x) (fun s => K (.pure s)) else evK (ev y) (fun s => K (.pure s))
    | _ => none)
  | .nilCheck x => (match ev x with
    | some (.pa k o) => K (.pure (.pa k o))
    | some (.pe k i s o) => K (.pure (.pe k i s o))
    | some (.pt l) => K (.pure (.pt l))
    | _ => none)
  | .extract x i => (match ev x with
    | some (.tup l) => evK l[i]? fun s => K (.pure s)
    | _ => none)
  | .unOp .not _ x => (match ev x with | some (.b a) => K (.pure (.b (bnot a))) | _ => none)
  | .unOp .neg _ x => (match ev x with | some (.i a) => K (.pure (.i (ineg a))) | _ => none)
  | .binOp op t x y _ => (match ev x, ev y with
    | some a, some b => evBin (match uOf T t with | some .bool => true | _ => false) (match tlk t T with | some i => i.eq2 | none => false) (match tlk t T with | some i => i.eqn | none => 0) (match uOf T t with | some (.sl _) => true | _ => false) op a b fun s => K (.pure s)
    | _, _ => none)
  | .convert s d x => (match sameRow T hk s d (ev x) with
    | some (k, e, l) => K ⟨.sl .u8 l, [(k, .row e .u8 l)], [], false, 0⟩
    | none => (match uOf T s, uOf T d, (ev x).bind (rdA hk) with
      | some .str, some (.sl el), some (.str l, F) => bif isU8 T el then bif fits l 1 then K ⟨.nm m, [], [(m, .row el .u8 l)], false, 1⟩ else none else none
      | some (.sl el), some .str, some (.sl .u8 l, F) => bif isU8 T el then K ⟨.str l, F, F, true, 0⟩ else none
      | some (.sl el), some .str, some (.nil, F) => bif isU8 T el then K (.pure (.str [])) else none
      | some _, some d, some (a, F) => evConv d a fun s => K (.pure s)
      | _, _, _ => none))
  | .alloc t => (match tlk t T with | some i => K ⟨.pa m 0, [], [(m, .var i.zero)], false, 1⟩ | none => none)
  | .box _ x => (match (ev x).bind cellsA with | some l => K ⟨.pa m 0, [], [(m, .var l)], false, 1⟩ | none => none)
  | .load t x => evLoad T hk t (ev x) K
  | .store t x y => evStore T hk t (ev x) ((ev y).bind cellsA) K
  | .fieldAddr t x f => evFldA T t (ev x) f K
  | .field t x f => (match uOf T t, ev x with
    | some (.fld pl sc), some (.agg l) => (match pl[f]?, sc[f]? with
      | some (o', n), some b => evK (ldCells b n (l.drop o')) fun s => K (.pure s)
      | _, _ => none)
    | _, _ => none)
  | .build t parts => (match plOf' T t, tlk t T with
    | some pl, some i => (match bldX pl ev i.zero parts.toList with | some l => K (.pure (.agg l)) | none => none)
    | _, _ => none)
  | .buildSlice t len parts => evBldS T ev hk m t len parts.toList K
  | .makeSlice t l c => evMk T m t (ev l) (ev c) K
  | .makeFunc (.func f) xs ys => (match evsX ev xs.toList, evsX ev ys.toList with | some a, some b => K (.pure (.fn f a b)) | _, _ => none)
  | .indexAddr t x j => evIxA T hk t (ev x) ((ev j).bind num?) K
  | .index t x j => evIx T t (ev x) ((ev j).bind num?) K
  | .slice t x lo hi mx => bif markT T && hi.isSome && isRow hk (ev x) then (match (match lo with | some o => (ev o).bind num? | none => some 0), mx with | some lo, none => evView T hk t (ev x) lo (hi.map fun o => (ev o).bind num?) K | _, _ => none) else (match (ev x).bind (rdA hk), (match lo with | some o => (ev o).bind num? | none => some 0) with
    | some (a, F), some lo => evCut T t a F lo (hi.map fun o => (ev o).bind num?) (mx.map fun o => (ev o).bind num?) K
    | _, _ => none)
  | .call { callee := .builtin b, args := xs, argTypes := ts } => (match b, xs.toList, ts.toList with
    | .len, [x], [t] => evLen T t hk (ev x) K
    | .min, [x, y], _ => (match ev x, ev y with | some (.i a), some (.i b) => K (.pure (.i (min a b))) | _, _ => none)
    | .max, [x, y], _ => (match ev x, ev y with | some (.i a), some (.i b) => K (.pure (.i (max a b))) | _, _ => none)
    | .append, [x, y], [t, t'] => bif Nat.beq t t' then evApp T hk m t (ev x) ((ev y).bind (rdA hk)) K else (match uOf T t' with | some .i64 => evAppZ T hk m t t' (ev x) (ev y) K | _ => evAppS T hk m t t' (ev x) (ev y) K)
    | .copy, [x, y], [t, t'] => bif Nat.beq t t' then evCpy T hk t (ev x) ((ev y).bind (rdA hk)) K else none
    | _, _, _ => none)
  | _ => none
end
end Go.Ax

namespace Go.Ax
noncomputable section
open Go Go.RowKit Go.Eng
set_option linter.unusedVariables false
structure Plc where
  need : Option (List Nat) := none      -- the slots that must hold rows of their own from there on; all others hold readings
  nils : List (Nat × Nat × Ty) := []    -- slots whose nil becomes an empty row of their own
  keep : Option (List Nat) := none      -- the slots that live; names are put in order
  meet : Bool := false                  -- several ways meet here
structure FI where
  ps : List (Option Ty)          -- its parameters, where they are plain data
  rs : List (Option Ty)          -- its results
  own : Bool                     -- the result is handed out as a row of its own
  pown : Bool                    -- rows are handed in as such
  keep : List (Plc × Plc)   -- for each loop: what is done at its head, and behind it
  give : List (Nat × Plc) := []   -- what is done at the head of some regions
  fin : Plc := {}   -- what is done at the end
  ro : Bool := false   -- what it is handed it leaves as it was
abbrev FT := List (Nat × FI)
def filk (k : Nat) : FT → Option FI
  | [] => none
  | (d, v) :: H => bif Nat.beq k d then some v else filk k H
inductive Req where
  | call (f : Nat) (args : List AV) (H : List Rs)
  | loop (f k n0 m : Nat) (L : LX) (H : HX)
inductive Rsp where
  | ret (s : AV) (H : List (Option Rs))
  | fin (e : Exit) (m : Nat) (L : LX) (H : HX)
def norm1 (t : Option Ty) (a : AV) : AV := match t with
  | none => a
  | some τ => (match a with
    | .agg l => (match unf τ l with | some (x, []) => .agg (flat τ x) | _ => a)
    | a => (match unf τ [a] with | some (x, []) => (match flat τ x with | [b] => b | _ => a) | _ => a))
def normL : List (Option Ty) → List AV → List AV
  | t :: ts, a :: as => norm1 t a :: normL ts as
  | _, as => as
mutual
def names : AV → List Nat
  | .nm k => [k]
  | .pa k _ => [k]
  | .pe k _ _ _ => [k]
  | .vs k _ _ _ => [k]
  | .pt l => namesL l
  | .agg l => namesL l
  | .tup l => namesL l
  | .fn _ a b => namesL a ++ namesL b
  | _ => []
def namesL : List AV → List Nat
  | [] => []
  | s :: r => names s ++ namesL r
end
def memN (k : Nat) : List Nat → Bool | [] => false | a :: r => Nat.beq k a || memN k r
def nub : List Nat → List Nat → List Nat
  | acc, [] => acc
  | acc, k :: r => bif memN k acc then nub acc r else nub (acc ++ [k]) r
def idx (k : Nat) : List Nat → Nat
  | [] => 0
  | a :: r => bif Nat.beq k a then 0 else idx k r + 1
def close (hk : Nat → Option Rs) : Nat → List Nat → List Nat → List Nat
  | 0, acc, _ => acc
  | _, acc, [] => acc
  | n + 1, acc, k :: r => bif memN k acc then close hk n acc r else match hk k with
    | some R => close hk n (acc ++ [k]) (r ++ (match R with | .var l => namesL l | .rowA _ _ _ l => namesL l | .row _ _ _ => []))
    | none => close hk n (acc ++ [k]) r
mutual
def vw (hk : Nat → Option Rs) : AV → AV
  | .nm k => (match hk k with | some (.row _ t l) => .sl t l | _ => .nm k)
  | .vs k sz lo hi => (match hk k with | some (.row _ t l) => (bif Nat.beq t.n sz then .sl t ((l.drop lo.toNat).take (hi.toNat - lo.toNat)) else .vs k sz lo hi) | _ => .vs k sz lo hi)
  | .pt l => .pt l
  | .agg l => .agg (vwL hk l)
  | .tup l => .tup (vwL hk l)
  | .fn f a b => .fn f (vwL hk a) (vwL hk b)
  | s => s
def vwL (hk : Nat → Option Rs) : List AV → List AV
  | [] => []
  | s :: r => vw hk s :: vwL hk r
end
def rowsOf (hk : Nat → Option Rs) : List Nat → Fp
  | [] => []
  | k :: r => match hk k with | some (.row e t l) => (k, .row e t l) :: rowsOf hk r | _ => rowsOf hk r
def rssOf (hk : Nat → Option Rs) : List Nat → Option (List Rs)
  | [] => some []
  | k :: r => match hk k, rssOf hk r with | some R, some l => some (R :: l) | _, _ => none
def zipF : List Nat → List Rs → Fp
  | k :: r, R :: l => (k, R) :: zipF r l
  | _, _ => []
def outF (ρ : Nat → Nat) : Nat → List (Option Rs) → Fp
  | _, [] => []
  | i, some R :: l => (ρ i, renR ρ R) :: outF ρ (i + 1) l
  | i, none :: l => outF ρ (i + 1) l
def nth (l : List Nat) (i : Nat) : Nat := l.getD i 0
variable {R : Type}
def forceRL : List Rs → (List Rs → R) → R
  | [], K => K []
  | s :: r, K => forceR s fun s => forceRL r fun r => K (s :: r)
def nodupB : List Nat → Bool
  | [] => true
  | k :: r => !memN k r && nodupB r
def allIn (ks : List Nat) : List Nat → Bool
  | [] => true
  | k :: r => memN k ks && allIn ks r
def namesR : Rs → List Nat
  | .var l => namesL l
  | .rowA _ _ _ l => namesL l
  | .row _ _ _ => []
def allInR (ks : List Nat) : List Rs → Bool
  | [] => true
  | R :: r => allIn ks (namesR R) && allInR ks r
def djB (ks : List Nat) : Fp → Bool
  | [] => true
  | (k, _) :: r => !memN k ks && djB ks r
def newOK : Nat → List (Option Rs) → Bool
  | _, [] => true
  | 0, none :: _ => false
  | 0, some _ :: r => newOK 0 r
  | n + 1, _ :: r => newOK n r
def rltO (m : Nat) : List (Option Rs) → Bool
  | [] => true
  | none :: r => rltO m r
  | some R :: r => rlt m R && rltO m r
def toName (ks : List Nat) (m i : Nat) : Nat := bif Nat.blt i ks.length then nth ks i else m + (i - ks.length)
def fpSame0 (F F' : Fp) : Bool := @decide (F = F') (Classical.propDecidable _)
def fpSame : Fp → Fp → Bool := sealed fpSame0
theorem of_fpSame {F F' : Fp} (h : fpSame F F' = true) : F = F' := by rw [show fpSame = fpSame0 from sealed_eq _] at h; exact @of_decide_eq_true _ (Classical.propDecidable _) h
def evCall3 (ro : Bool) (Q : Req → Option Rsp) (hk : Nat → Option Rs) (m f : Nat) (vs : Fp) (all' : List AV) (ks : List Nat) (K : Tr → Option R) : Option R := match rssOf hk ks with
  | some Rs => bif nodupB ks && allIn ks (namesL all') && allInR ks Rs && djB ks vs then
    forceL (renL (fun k => idx k ks) all') fun args => forceRL (Rs.map (renR fun k => idx k ks)) fun Hin =>
      (Q (.call f args Hin)).bind fun r => (match r with
        | .ret s H => bif Nat.ble ks.length H.length && newOK ks.length H && nlt H.length s && rltO H.length H then
            (bif ro then bif fpSame (vs ++ zipF ks Rs) (outF (toName ks m) 0 H) then K ⟨ren (toName ks m) s, vs ++ zipF ks Rs, vs ++ zipF ks Rs, true, H.length - ks.length⟩ else none
            else bif noRd (ren (toName ks m) s) && noRdF (outF (toName ks m) 0 H) then K ⟨ren (toName ks m) s, vs ++ zipF ks Rs, vs ++ outF (toName ks m) 0 H, false, H.length - ks.length⟩
            else K ⟨ren (toName ks m) s, vs ++ zipF ks Rs, outF (toName ks m) 0 H, false, H.length - ks.length⟩)
          else none
        | _ => none)
    else none
  | none => none
def evCall2 (ro : Bool) (Q : Req → Option Rsp) (hk : Nat → Option Rs) (m f : Nat) (vs : Fp) (all' : List AV) (K : Tr → Option R) : Option R :=
  forceNs (close hk 40 [] (namesL all')) fun ks => evCall3 ro Q hk m f vs all' ks K
def evCall (T : FT) (Q : Req → Option Rsp) (hk : Nat → Option Rs) (m : Nat) (fx : Option AV) (args : Option (List AV)) (K : Tr → Option R) : Option R := match fx, args with
  | some (.fn f a b), some l => (match filk f T with
    | some fi => bif fi.pown then forceL (normL fi.ps (a ++ l ++ b)) fun all => evCall2 fi.ro Q hk m f [] all K
      else forceL (normL fi.ps (vwL hk (a ++ l ++ b))) fun all => evCall2 fi.ro Q hk m f (rowsOf hk (nub [] (namesL (a ++ l ++ b)))) all K
    | none => none)
  | _, _ => none
def evAny (T : TT) (G : FT) (Q : Req → Option Rsp) (ev : Operand → Option AV) (hk : Nat → Option Rs) (m : Nat) (op : Op) (K : Tr → Option R) : Option R := match op with
  | .call { callee := .value fx, args := xs, .. } => evCall G Q hk m (ev fx) (evsX ev xs.toList) K
  | op => evOp T ev hk m op K
def hPut : Fp → HX → (HX → R) → R
  | [], H, K => K H
  | (k, r) :: F, H, K => forceR r fun r => hPut F H fun H => K ((k, some r) :: H)
def hDel : Fp → HX → (HX → R) → R
  | [], H, K => K H
  | (k, r) :: F, H, K => hDel F H fun H => K ((k, none) :: H)
def putL (d : Option Nat) (s : AV) (L : LX) : LX := match d with | some d => (d, s) :: L | none => L
def stepK (d : Option Nat) (t : Tr) (m : Nat) (L : LX) (H : HX) (K : Nat → LX → HX → R) : R := match t with
  | ⟨s, F, F', rd, nn⟩ => force s fun s => addN m nn fun m => match d with
    | some d => bif rd then K m ((d, s) :: L) H else hDel F H fun H => hPut F' H fun H => K m ((d, s) :: L) H
    | none => bif rd then K m L H else hDel F H fun H => hPut F' H fun H => K m L H
def dstB (n : Nat) (d : Option Nat) : Bool := match d with | some d => Nat.blt d n | none => true
def evOps (T : TT) (G : FT) (Q : Req → Option Rsp) (n : Nat) (ops : List Oper) : List Oper → Nat → LX → HX → (Nat → LX → HX → Option R) → Option R
  | [], m, L, H, K => K m L H
  | o :: r, m, L, H, K => match o.guard with
    | none => bif dstB n o.dst then evAny T G Q (evx L) (fun k => hlk k H) m o.op fun t => stepK o.dst t m L H fun m L H => evOps T G Q n ops r m L H K else none
    | some (j, want) => (match (ops[j]?).bind (·.dst) with
      | some d' => (match lkx d' L with
        | some (.b c) => bif dstB n o.dst && Nat.blt d' n then
            (bif c then
              bif want then evAny T G Q (evx ((d', .b true) :: L)) (fun k => hlk k H) m o.op fun t => stepK o.dst t m ((d', .b true) :: L) H fun m L H => evOps T G Q n ops r m L H K
              else evOps T G Q n ops r m (match o.dst with | some d => (d, .tup []) :: (d', .b true) :: L | none => (d', .b true) :: L) H K
            else
              bif want then evOps T G Q n ops r m (match o.dst with | some d => (d, .tup []) :: (d', .b false) :: L | none => (d', .b false) :: L) H K
              else evAny T G Q (evx ((d', .b false) :: L)) (fun k => hlk k H) m o.op fun t => stepK o.dst t m ((d', .b false) :: L) H fun m L H => evOps T G Q n ops r m L H K)
          else none
        | some (.tup []) => bif dstB n o.dst && Nat.blt d' n then evOps T G Q n ops r m (putL o.dst (.tup []) L) H K else none
        | _ => none)
      | none => none)
def rst (lk : List Nat) : LX → LX
  | [] => []
  | (t, s) :: L => bif memN t lk then (t, s) :: rst lk L else rst lk L
end
end Go.Ax
