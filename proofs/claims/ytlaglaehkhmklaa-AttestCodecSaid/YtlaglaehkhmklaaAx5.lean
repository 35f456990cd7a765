/-
  Own text. The abstract machine: what it computes of plain operations is what the model computes. It claims nothing of any program.
-/
import Derived.Test.YtlaglaehkhmklaaAx4
import Derived.Laws.StructEq
import Derived.ChangeKeysEq
namespace Go.Ax
open Go Go.RowKit Go.Eng
set_option linter.unusedVariables false
set_option linter.unusedSimpArgs false

theorem Ok.pure {c : Cx} {s : AV} {v : Value} {w' : World} (hr : Rep ⟨c.N, c.ν, c.O, w'⟩ s v) (hs : Stp No c.w w') : ∃ ν', Ok c [] [] s v w' ν' :=
  have hle : Cx.Le none ⟨c.N, c.ν, c.O, w'⟩ ⟨fun k => c.N k ∨ has k [], c.ν, fun b => (c.O b ∧ ¬ fblk c.ν [] b) ∨ fblk c.ν [] b, w'⟩ :=
    ⟨fun k _ h => ⟨.inl h, rfl⟩, fun w'' h => h.mono fun i _ hi => by
      rcases hi with h | ⟨k, R, h, _⟩
      · exact h.1
      · cases h⟩
  ⟨c.ν, ⟨fun _ _ => rfl, Rep.le hle s v (nq_none s) hr, (fun k R h => by cases h), (fun k k' R R' b h => by cases h), hs.mono fun i _ h => h.elim⟩⟩

section
variable {P : Program} {I : World → Prop} {L : LX} {ty : TypeId}
/-- an operation whose run is known -/
theorem OPL_run {op : Op} {F F' : Fp} {s : AV} (h : ∀ c e, Good I c → ValX c L e → Pre c F F' → ∃ v w' ν', (execOp e ⟨none, op, ty, "", #[], none⟩).run P c.w = .ok (.value v) w' ∧ Ok c F F' s v w' ν') : OPL P I L F op ty s F' := by
  intro c e hG he hP
  obtain ⟨v, w', ν', h1, h2⟩ := h c e hG he hP
  unfold opw
  rw [h1]
  exact ⟨ν', h2⟩
theorem OPL_skip {op : Op} {F F' : Fp} {s : AV} (h : ∀ c e, Good I c → ValX c L e → Pre c F F' → ∃ w' ν', (execOp e ⟨none, op, ty, "", #[], none⟩).run P c.w = .ok .skip w' ∧ Ok c F F' s undef w' ν') : OPL P I L F op ty s F' := by
  intro c e hG he hP
  obtain ⟨w', ν', h1, h2⟩ := h c e hG he hP
  unfold opw
  rw [h1]
  exact ⟨ν', h2⟩
theorem OPL_run0 {op : Op} {s : AV} (h : ∀ c e, Good I c → ValX c L e → ∃ v, (execOp e ⟨none, op, ty, "", #[], none⟩).run P c.w = .ok (.value v) c.w ∧ Rep c s v) : OPL P I L [] op ty s [] :=
  OPL_run fun c e hG he _ => by
    obtain ⟨v, h1, h2⟩ := h c e hG he
    obtain ⟨ν', ok⟩ := Ok.pure (c := c) (w' := c.w) h2 (Stp.refl _ _)
    exact ⟨v, c.w, ν', h1, ok⟩
end

/-- what is right of a step -/
structure TrOK (P : Program) (I : World → Prop) (L : LX) (hk : Nat → Option Rs) (m : Nat) (op : Op) (t : Tr) : Prop where
  opl : ∀ ty, OPL P I L t.F op ty t.s t.F'
  pre : ∀ k R, flk k t.F = some R → hk k = some R
  new : ∀ k, has k t.F' → has k t.F ∨ (m ≤ k ∧ k < m + t.nn)
  rd : t.rd = true → t.F' = t.F
theorem has_nil (k : Nat) : ¬ has k [] := by simp [has]
theorem TrOK.mk0 {P : Program} {I : World → Prop} {L : LX} {hk : Nat → Option Rs} {m : Nat} {op : Op} {s : AV} (h : ∀ ty, OPL P I L [] op ty s []) : TrOK P I L hk m op (.pure s) :=
  ⟨h, (fun k R h => by cases h), fun k h => absurd h (has_nil k), fun _ => rfl⟩

/-! ### Two operands -/
theorem run_bin {P : Program} {ty : TypeId} {w : World} {op : BinOp} {t yt : TypeId} {x y : Operand} {e : Operand → Value} {u v r : Value} (hx : e x = u) (hy : e y = v) (hg : (eqGuard op t x y u v).run P w = .ok () w) (hb : (binOp op t u v).run P w = .ok r w) :
    (execOp e ⟨none, .binOp op t x y yt, ty, "", #[], none⟩).run P w = .ok (.value r) w := by
  simp only [execOp, hx, hy, Sem.run_bind, hg, Result.andThen_ok, hb]
  rfl
theorem guard_int {P : Program} {w : World} (op : BinOp) (t : TypeId) (x y : Operand) (k k' : IntKind) (a b : Int) : (eqGuard op t x y (.int k a) (.int k' b)).run P w = .ok () w := by
  unfold eqGuard; split <;> simp
theorem guard_bool {P : Program} {w : World} (op : BinOp) (t : TypeId) (x y : Operand) (a b : Bool) : (eqGuard op t x y (.bool a) (.bool b)).run P w = .ok () w := by
  unfold eqGuard; split <;> simp
theorem guard_str {P : Program} {w : World} (op : BinOp) (t : TypeId) (x y : Operand) (a b : ByteArray) : (eqGuard op t x y (.string a) (.string b)).run P w = .ok () w := by
  unfold eqGuard; split <;> simp

/-- what is known of the types' table -/
structure E2 (P : Program) (t e' : TypeId) : Prop where
  ht : P.underlying t = some (.array 2 e')
  he : P.underlying e' = some (.int .i64)
  sz : (P.info? e').map (·.size) = some 1
  hc : P.cellsOf e' = 1
  hg : P.eqGuardType P.depth t = false
theorem E2.run {P : Program} {t e' : TypeId} (E : E2 P t e') (w : World) (a b c d : Int) : (Op.equal t (.agg #[.int .i64 a, .int .i64 b]) (.agg #[.int .i64 c, .int .i64 d])).run P w = .ok (a == c && b == d) w ∧ ∀ op x y, (eqGuard op t x y (.agg #[.int .i64 a, .int .i64 b]) (.agg #[.int .i64 c, .int .i64 d])).run P w = .ok () w := by
  obtain ⟨ht, he', hsz, hc, hg⟩ := E
  obtain ⟨i, hi, hs⟩ := Option.map_eq_some_iff.1 hsz
  refine ⟨?_, fun op x y => run_eqGuard_agg (P := P) w op t x y #[.int .i64 a, .int .i64 b] #[.int .i64 c, .int .i64 d] hg⟩
  have hpart : ∀ (w : World) (xs : Array Value) (j : Nat) (v : Value), xs[j]? = some v → (part e' xs j).run P w = .ok v w := fun w xs j v hj => by
    have hagg : (isAgg e').run P w = .ok false w := by simp [isAgg, run_underlying he']
    simp [part, hagg, hj]
  show (Op.equalIn 10000 t (.agg #[.int .i64 a, .int .i64 b]) (.agg #[.int .i64 c, .int .i64 d])).run P w = .ok (a == c && b == d) w
  rw [run_equalIn_array (P := P) w 9999 _ _ ht hi]
  rw [hc, show List.range 2 = [0, 1] from rfl]
  have p0 : (part e' #[.int .i64 a, .int .i64 b] 0).run P w = .ok (.int .i64 a) w := hpart w _ 0 _ rfl
  have p1 : (part e' #[.int .i64 a, .int .i64 b] 1).run P w = .ok (.int .i64 b) w := hpart w _ 1 _ rfl
  have r0 : (part e' #[.int .i64 c, .int .i64 d] 0).run P w = .ok (.int .i64 c) w := hpart w _ 0 _ rfl
  have r1 : (part e' #[.int .i64 c, .int .i64 d] 1).run P w = .ok (.int .i64 d) w := hpart w _ 1 _ rfl
  have e0 : (Op.equalIn 9999 e' (.int .i64 a) (.int .i64 c)).run P w = .ok (a == c) w := run_equalIn_int (P := P) w 9998 e' .i64 .i64 a c he'
  have e1 : (Op.equalIn 9999 e' (.int .i64 b) (.int .i64 d)).run P w = .ok (b == d) w := run_equalIn_int (P := P) w 9998 e' .i64 .i64 b d he'
  simp only [Op.eqItems, Sem.run_bind, Nat.zero_mul, Nat.one_mul, p0, r0, e0, Result.andThen_ok]
  cases h1 : a == c <;> cases h2 : b == d <;> simp [p1, r1, e1, h2]
def plOf (P : Program) (t : TypeId) : Option (List (Nat × Nat)) := match P.underlying t with
  | some (.struct fs) => fs.toList.mapM fun f => (P.info? f.type).map fun i => (f.offset, i.size)
  | _ => none
def scOf (P : Program) (t : TypeId) : Option (List Bool) := match P.underlying t with
  | some (.struct fs) => fs.toList.mapM fun f => (P.underlying f.type).map plainT
  | _ => none
structure TOK (P : Program) (t : TypeId) (i : TI) : Prop where
  und : match i.u with
    | .bool => P.underlying t = some .bool
    | .i64 => P.underlying t = some (.int .i64)
    | .u8 => P.underlying t = some (.int .u8)
    | .u32 => P.underlying t = some (.int .u32)
    | .u64 => P.underlying t = some (.int .u64)
    | .str => P.underlying t = some .string
    | .sl el => P.underlying t = some (.slice el)
    | .fld pl sc => plOf P t = some pl ∧ scOf P t = some sc
    | .arr n el => P.underlying t = some (.array n el)
    | .ptr el => P.underlying t = some (.pointer el)
    | .oth => ∃ d, P.underlying t = some d ∧ plainT d = true
  sz : (P.info? t).map (·.size) = some i.size
  zero : ∃ z, (P.info? t).map (fun i => (i.zero, i.size, i.bytes)) = some (some z, i.size, i.bytes) ∧ z.cells.toList.map AV.of = i.zero ∧ z.cells.size = i.size ∧ z.cells.toList.all (·.oneCell') = true ∧ 0 < i.bytes
  ty : ∀ τ, i.ty = some τ → τ.n = i.size
  eq2 : i.eq2 = true → ∃ e', E2 P t e'
theorem TOK.plain {P : Program} {t : TypeId} {i : TI} (h : TOK P t i) : ∃ d, P.underlying t = some d ∧ plainT d = scalar i.u := by
  have := h.und
  split at this <;> rename_i e <;> rw [e]
  · exact ⟨_, this, rfl⟩
  · exact ⟨_, this, rfl⟩
  · exact ⟨_, this, rfl⟩
  · exact ⟨_, this, rfl⟩
  · exact ⟨_, this, rfl⟩
  · exact ⟨_, this, rfl⟩
  · exact ⟨_, this, rfl⟩
  · have h1 := this.1
    unfold plOf at h1
    split at h1
    · rename_i fs hfs; exact ⟨_, hfs, rfl⟩
    · cases h1
  · exact ⟨_, this, rfl⟩
  · exact ⟨_, this, rfl⟩
  · obtain ⟨d, h1, h2⟩ := this; exact ⟨d, h1, h2⟩
def TTok (P : Program) (T : TT) : Prop := ∀ t i, tlk t T = some i → TOK P t i
end Go.Ax
