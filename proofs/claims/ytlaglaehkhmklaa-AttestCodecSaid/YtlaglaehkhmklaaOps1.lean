/-
  Own text. One lemma for each kind of operation on plain values (integers, booleans, strings): what it yields in a partial frame. It claims nothing of any program.
-/
import Derived.Test.YtlaglaehkhmklaaEng
namespace Go.Eng
open Go Go.RowKit
set_option linter.unusedVariables false

section
variable {P : Program} {L : Lst} {w : World} {ty : TypeId} {K : SV → World → Prop}

theorem OP_run {op : Op} {s : SV} {w' : World} (h : ∀ e, Val e L → (execOp e ⟨none, op, ty, "", #[], none⟩).run P w = .ok (.value s.den) w') (k : K s w') : OP P L op ty w K := by
  intro e he
  unfold opw
  rw [h e he]
  exact ⟨s, rfl, k⟩

theorem OP_move {x : Operand} {s : SV} (hx : evo L x = some s) (k : K s w) : OP P L (.move x) ty w K :=
  OP_run (fun e he => by simp [execOp, he x s hx]) k
theorem OP_assign {x : Operand} {s : SV} (hx : evo L x = some s) (k : K s w) : OP P L (.assign x) ty w K :=
  OP_run (fun e he => by simp [execOp, he x s hx]) k

/-! ### Integers -/
theorem run_bin_int (op : BinOp) (t : TypeId) (x y : Operand) (yt : TypeId) (e : Operand → Value) {k k' : IntKind} {a b : Int} (ha : e x = .int k a) (hb : e y = .int k' b) :
    (execOp e ⟨none, .binOp op t x y yt, ty, "", #[], none⟩).run P w = ((binOp op t (.int k a) (.int k' b)).run P w).andThen fun v w' => .ok (.value v) w' := by
  have hg : (eqGuard op t x y (.int k a) (.int k' b)).run P w = .ok () w := by
    unfold eqGuard
    split <;> simp
  simp only [execOp, ha, hb, Sem.run_bind, hg, Result.andThen_ok]
  cases (binOp op t (.int k a) (.int k' b)).run P w <;> rfl

theorem OP_int {op : BinOp} {t yt : TypeId} {x y : Operand} {k k' : IntKind} {a b : Int} {s sx sy : SV} (hx : evo L x = some sx) (hy : evo L y = some sy) (ex : sx.den = .int k a) (ey : sy.den = .int k' b)
    (h : (binOp op t (.int k a) (.int k' b)).run P w = .ok s.den w) (hk : K s w) : OP P L (.binOp op t x y yt) ty w K :=
  OP_run (fun e he => by rw [run_bin_int op t x y yt e ((he x _ hx).trans ex) ((he y _ hy).trans ey), h]; rfl) hk

section i64
variable {t yt : TypeId} {x y : Operand} {a b : Int} (hx : evo L x = some (.v (.int .i64 a))) (hy : evo L y = some (.v (.int .i64 b)))
include hx hy
theorem OP_add (hb : -9223372036854775808 ≤ a + b ∧ a + b ≤ 9223372036854775807) (hk : K (.v (.int .i64 (a + b))) w) : OP P L (.binOp .add t x y yt) ty w K :=
  OP_int hx hy rfl rfl (by simp [binOp, Op.intArith, IntWalk.i64_in _ hb, SV.den]) hk
theorem OP_sub (hb : -9223372036854775808 ≤ a - b ∧ a - b ≤ 9223372036854775807) (hk : K (.v (.int .i64 (a - b))) w) : OP P L (.binOp .sub t x y yt) ty w K :=
  OP_int hx hy rfl rfl (by simp [binOp, Op.intArith, IntWalk.i64_in _ hb, SV.den]) hk
theorem OP_mul (hb : -9223372036854775808 ≤ a * b ∧ a * b ≤ 9223372036854775807) (hk : K (.v (.int .i64 (a * b))) w) : OP P L (.binOp .mul t x y yt) ty w K :=
  OP_int hx hy rfl rfl (by simp [binOp, Op.intArith, IntWalk.i64_in _ hb, SV.den]) hk
theorem OP_addw (hk : K (.v (.int .i64 (IntKind.i64.wrap (a + b)))) w) : OP P L (.binOp .add t x y yt) ty w K :=
  OP_int hx hy rfl rfl (by simp [binOp, Op.intArith, SV.den]) hk
theorem OP_subw (hk : K (.v (.int .i64 (IntKind.i64.wrap (a - b)))) w) : OP P L (.binOp .sub t x y yt) ty w K :=
  OP_int hx hy rfl rfl (by simp [binOp, Op.intArith, SV.den]) hk
theorem OP_mulw (hk : K (.v (.int .i64 (IntKind.i64.wrap (a * b)))) w) : OP P L (.binOp .mul t x y yt) ty w K :=
  OP_int hx hy rfl rfl (by simp [binOp, Op.intArith, SV.den]) hk
theorem OP_quo (hb : 0 ≤ a ∧ a ≤ 9223372036854775807 ∧ 1 ≤ b) (hk : K (.v (.int .i64 (a / b))) w) : OP P L (.binOp .quo t x y yt) ty w K :=
  OP_int hx hy rfl rfl (by simp [binOp, Op.intDiv, show ¬ b = 0 from by omega, IntWalk.i64_quo _ _ hb, SV.den]) hk
theorem OP_rem (hb : 0 ≤ a ∧ 1 ≤ b) (hk : K (.v (.int .i64 (a % b))) w) : OP P L (.binOp .rem t x y yt) ty w K :=
  OP_int hx hy rfl rfl (by simp [binOp, Op.intDiv, show ¬ b = 0 from by omega, IntWalk.rem_in _ _ hb.1, SV.den]) hk
theorem OP_remt (hb : 1 ≤ b) (hk : K (.v (.int .i64 (a.tmod b))) w) : OP P L (.binOp .rem t x y yt) ty w K :=
  OP_int hx hy rfl rfl (by simp [binOp, Op.intDiv, show ¬ b = 0 from by omega, SV.den]) hk
theorem OP_ibits {op : BinOp} (ho : op = .and ∨ op = .or ∨ op = .xor ∨ op = .andNot) (hk : K (.v (.int .i64 (bits op .i64 a b))) w) : OP P L (.binOp op t x y yt) ty w K :=
  OP_int hx hy rfl rfl (by rcases ho with rfl | rfl | rfl | rfl <;> rfl) hk
end i64

theorem bits_i64_and (a b : Nat) (ha : a < 9223372036854775808) (hb : b < 9223372036854775808) : bits .and .i64 (a : Int) (b : Int) = ((a &&& b : Nat) : Int) := by
  have h : a &&& b ≤ a := Nat.and_le_left
  show IntKind.i64.wrap (((BitVec.ofInt 64 (a : Int) &&& BitVec.ofInt 64 (b : Int)).toNat : Nat) : Int) = _
  have e : (BitVec.ofInt 64 (a : Int) &&& BitVec.ofInt 64 (b : Int)).toNat = a &&& b := by
    simp only [BitVec.ofInt_natCast, BitVec.toNat_and, BitVec.toNat_ofNat]
    rw [Nat.mod_eq_of_lt (by omega), Nat.mod_eq_of_lt (by omega)]
  rw [e]
  exact IntWalk.i64_in _ ⟨by omega, by omega⟩
theorem bits_i64_xor (a b : Nat) (ha : a < 9223372036854775808) (hb : b < 9223372036854775808) : bits .xor .i64 (a : Int) (b : Int) = ((a ^^^ b : Nat) : Int) := by
  have h : a ^^^ b < 2 ^ 63 := Nat.xor_lt_two_pow (by omega) (by omega)
  show IntKind.i64.wrap (((BitVec.ofInt 64 (a : Int) ^^^ BitVec.ofInt 64 (b : Int)).toNat : Nat) : Int) = _
  have e : (BitVec.ofInt 64 (a : Int) ^^^ BitVec.ofInt 64 (b : Int)).toNat = a ^^^ b := by
    simp only [BitVec.ofInt_natCast, BitVec.toNat_xor, BitVec.toNat_ofNat]
    rw [Nat.mod_eq_of_lt (by omega), Nat.mod_eq_of_lt (by omega)]
  rw [e]
  exact IntWalk.i64_in _ ⟨by omega, by omega⟩
theorem bits_i64_or (a b : Nat) (ha : a < 9223372036854775808) (hb : b < 9223372036854775808) : bits .or .i64 (a : Int) (b : Int) = ((a ||| b : Nat) : Int) := by
  have h : a ||| b < 2 ^ 63 := Nat.or_lt_two_pow (by omega) (by omega)
  show IntKind.i64.wrap (((BitVec.ofInt 64 (a : Int) ||| BitVec.ofInt 64 (b : Int)).toNat : Nat) : Int) = _
  have e : (BitVec.ofInt 64 (a : Int) ||| BitVec.ofInt 64 (b : Int)).toNat = a ||| b := by
    simp only [BitVec.ofInt_natCast, BitVec.toNat_or, BitVec.toNat_ofNat]
    rw [Nat.mod_eq_of_lt (by omega), Nat.mod_eq_of_lt (by omega)]
  rw [e]
  exact IntWalk.i64_in _ ⟨by omega, by omega⟩

/-- comparisons of integers of any kind -/
def cmpB (op : BinOp) (a b : Int) : Bool := match op with
  | .eql => a == b
  | .neq => a != b
  | .lss => decide (a < b)
  | .leq => decide (a ≤ b)
  | .gtr => decide (a > b)
  | _ => decide (a ≥ b)
def isCmp : BinOp → Bool | .eql | .neq | .lss | .leq | .gtr | .geq => true | _ => false
def SV.num : SV → Option (IntKind × Int)
  | .v (.int k n) => some (k, n)
  | .u8 b => some (.u8, (b.toNat : Int))
  | .u32 b => some (.u32, (b.toNat : Int))
  | .u64 b => some (.u64, (b.toNat : Int))
  | _ => none
theorem SV.num_den {s : SV} {k : IntKind} {n : Int} (h : s.num = some (k, n)) : s.den = .int k n := by
  cases s with
  | v x => cases x <;> simp_all [SV.num, SV.den]
  | u8 b => simp only [SV.num, Option.some.injEq, Prod.mk.injEq] at h; obtain ⟨rfl, rfl⟩ := h; rfl
  | u32 b => simp only [SV.num, Option.some.injEq, Prod.mk.injEq] at h; obtain ⟨rfl, rfl⟩ := h; rfl
  | u64 b => simp only [SV.num, Option.some.injEq, Prod.mk.injEq] at h; obtain ⟨rfl, rfl⟩ := h; rfl
theorem run_cmp {op : BinOp} (ho : isCmp op = true) (t : TypeId) (k : IntKind) (a b : Int) : (binOp op t (.int k a) (.int k b)).run P w = .ok (SV.v (.bool (cmpB op a b))).den w := by
  cases op <;> first | (cases ho; done) | (simp [binOp, Op.intCmp, cmpB, SV.den]; done) | (simp only [binOp, ne_eq, not_true_eq_false, if_false, Op.intCmp, cmpB, SV.den]; rfl)
theorem OP_cmp {op : BinOp} {t yt : TypeId} {x y : Operand} {sx sy : SV} {k : IntKind} {a b : Int} (ho : isCmp op = true) (hx : evo L x = some sx) (hy : evo L y = some sy) (ex : sx.num = some (k, a)) (ey : sy.num = some (k, b))
    (hk : K (.v (.bool (cmpB op a b))) w) : OP P L (.binOp op t x y yt) ty w K :=
  OP_int hx hy (SV.num_den ex) (SV.num_den ey) (run_cmp ho t k a b) hk

theorem OP_not {t : TypeId} {x : Operand} {b : Bool} (hx : evo L x = some (.v (.bool b))) (hk : K (.v (.bool (!b))) w) : OP P L (.unOp .not t x) ty w K :=
  OP_run (fun e he => by simp [execOp, he x _ hx, SV.den, Op.unary]) hk
theorem OP_neg {t : TypeId} {x : Operand} {a : Int} (hx : evo L x = some (.v (.int .i64 a))) (hb : -9223372036854775807 ≤ a ∧ a ≤ 9223372036854775807) (hk : K (.v (.int .i64 (-a))) w) : OP P L (.unOp .neg t x) ty w K :=
  OP_run (fun e he => by simp [execOp, he x _ hx, SV.den, Op.unary, Op.intArith, IntWalk.i64_in (-a) (by omega)]) hk

/-! ### Words -/
theorem wrap_u8 (n : Nat) : IntKind.u8.wrap (n : Int) = ((UInt8.ofNat n).toNat : Int) := by
  simp [IntKind.wrap_u8]
theorem wrap_u32 (n : Nat) : IntKind.u32.wrap (n : Int) = ((UInt32.ofNat n).toNat : Int) := by
  simp [IntKind.wrap_u32]
theorem wrap_u64 (n : Nat) : IntKind.u64.wrap (n : Int) = ((UInt64.ofNat n).toNat : Int) := by
  simp [IntKind.wrap, IntKind.bits, IntKind.signed]

def bop8 : BinOp → UInt8 → UInt8 → UInt8
  | .add, a, b => a + b | .sub, a, b => a - b | .mul, a, b => a * b | .and, a, b => a &&& b | .or, a, b => a ||| b | .xor, a, b => a ^^^ b | _, a, _ => a
def bop32 : BinOp → UInt32 → UInt32 → UInt32
  | .add, a, b => a + b | .sub, a, b => a - b | .mul, a, b => a * b | .and, a, b => a &&& b | .or, a, b => a ||| b | .xor, a, b => a ^^^ b | _, a, _ => a
def bop64 : BinOp → UInt64 → UInt64 → UInt64
  | .add, a, b => a + b | .sub, a, b => a - b | .mul, a, b => a * b | .and, a, b => a &&& b | .or, a, b => a ||| b | .xor, a, b => a ^^^ b | _, a, _ => a
def isBop : BinOp → Bool | .add | .sub | .mul | .and | .or | .xor => true | _ => false

theorem sub_wrap (m a b : Nat) (hb : b ≤ m) (hm : 0 < m) : ((a : Int) - b) % m = ((m - b + a) % m : Nat) := by
  rw [Int.natCast_emod, Int.natCast_add, Int.natCast_sub hb, show ((m : Int) - b + a) = (a - b) + m from by omega, Int.add_emod_right]

theorem run_bop8 {op : BinOp} (ho : isBop op = true) (t : TypeId) (a b : UInt8) : (binOp op t (byteV a) (byteV b)).run P w = .ok (byteV (bop8 op a b)) w := by
  have ha := a.toNat_lt
  have hb := b.toNat_lt
  cases op <;> first | cases ho | skip
  · simp only [byteV, binOp, Op.intArith, bop8, ne_eq, not_true_eq_false, if_false, Sem.run_pure]
    rw [← Int.natCast_add, wrap_u8, ← UInt8.ofNat_toNat (x := a + b), UInt8.toNat_add]; simp
  · simp only [byteV, binOp, Op.intArith, bop8, ne_eq, not_true_eq_false, if_false, Sem.run_pure]
    rw [IntKind.wrap_u8, UInt8.toNat_sub, ← sub_wrap 256 _ _ (by omega) (by omega)]; rfl
  · simp only [byteV, binOp, Op.intArith, bop8, ne_eq, not_true_eq_false, if_false, Sem.run_pure]
    rw [← Int.natCast_mul, wrap_u8, UInt8.toNat_mul]; simp
  · show Result.ok (Value.int .u8 (IntKind.u8.wrap (((BitVec.ofInt 8 (a.toNat : Int) &&& BitVec.ofInt 8 (b.toNat : Int)).toNat : Nat) : Int))) w = .ok (.int .u8 ((a &&& b).toNat : Int)) w
    rw [wrap_u8]; simp
  · show Result.ok (Value.int .u8 (IntKind.u8.wrap (((BitVec.ofInt 8 (a.toNat : Int) ||| BitVec.ofInt 8 (b.toNat : Int)).toNat : Nat) : Int))) w = .ok (.int .u8 ((a ||| b).toNat : Int)) w
    rw [wrap_u8]; simp
  · show Result.ok (Value.int .u8 (IntKind.u8.wrap (((BitVec.ofInt 8 (a.toNat : Int) ^^^ BitVec.ofInt 8 (b.toNat : Int)).toNat : Nat) : Int))) w = .ok (.int .u8 ((a ^^^ b).toNat : Int)) w
    rw [wrap_u8]; simp
theorem run_bop32 {op : BinOp} (ho : isBop op = true) (t : TypeId) (a b : UInt32) : (binOp op t (wordV a) (wordV b)).run P w = .ok (wordV (bop32 op a b)) w := by
  have ha := a.toNat_lt
  have hb := b.toNat_lt
  cases op <;> first | cases ho | skip
  · simp only [wordV, binOp, Op.intArith, bop32, ne_eq, not_true_eq_false, if_false, Sem.run_pure]
    rw [← Int.natCast_add, wrap_u32, UInt32.toNat_add]; simp
  · simp only [wordV, binOp, Op.intArith, bop32, ne_eq, not_true_eq_false, if_false, Sem.run_pure]
    rw [IntKind.wrap_u32, UInt32.toNat_sub, ← sub_wrap 4294967296 _ _ (by omega) (by omega)]; rfl
  · simp only [wordV, binOp, Op.intArith, bop32, ne_eq, not_true_eq_false, if_false, Sem.run_pure]
    rw [← Int.natCast_mul, wrap_u32, UInt32.toNat_mul]; simp
  · show Result.ok (Value.int .u32 (IntKind.u32.wrap (((BitVec.ofInt 32 (a.toNat : Int) &&& BitVec.ofInt 32 (b.toNat : Int)).toNat : Nat) : Int))) w = .ok (.int .u32 ((a &&& b).toNat : Int)) w
    rw [wrap_u32]; simp
  · show Result.ok (Value.int .u32 (IntKind.u32.wrap (((BitVec.ofInt 32 (a.toNat : Int) ||| BitVec.ofInt 32 (b.toNat : Int)).toNat : Nat) : Int))) w = .ok (.int .u32 ((a ||| b).toNat : Int)) w
    rw [wrap_u32]; simp
  · show Result.ok (Value.int .u32 (IntKind.u32.wrap (((BitVec.ofInt 32 (a.toNat : Int) ^^^ BitVec.ofInt 32 (b.toNat : Int)).toNat : Nat) : Int))) w = .ok (.int .u32 ((a ^^^ b).toNat : Int)) w
    rw [wrap_u32]; simp
theorem run_bop64 {op : BinOp} (ho : isBop op = true) (t : TypeId) (a b : UInt64) : (binOp op t (longV a) (longV b)).run P w = .ok (longV (bop64 op a b)) w := by
  have ha := a.toNat_lt
  have hb := b.toNat_lt
  cases op <;> first | cases ho | skip
  · simp only [longV, binOp, Op.intArith, bop64, ne_eq, not_true_eq_false, if_false, Sem.run_pure]
    rw [← Int.natCast_add, wrap_u64, UInt64.toNat_add]; simp
  · simp only [longV, binOp, Op.intArith, bop64, ne_eq, not_true_eq_false, if_false, Sem.run_pure]
    rw [show IntKind.u64.wrap ((a.toNat : Int) - b.toNat) = ((a.toNat : Int) - b.toNat) % (18446744073709551616 : Nat) from by simp [IntKind.wrap, IntKind.bits, IntKind.signed], UInt64.toNat_sub, ← sub_wrap 18446744073709551616 _ _ (by omega) (by omega)]
  · simp only [longV, binOp, Op.intArith, bop64, ne_eq, not_true_eq_false, if_false, Sem.run_pure]
    rw [← Int.natCast_mul, wrap_u64, UInt64.toNat_mul]; simp
  · show Result.ok (Value.int .u64 (IntKind.u64.wrap (((BitVec.ofInt 64 (a.toNat : Int) &&& BitVec.ofInt 64 (b.toNat : Int)).toNat : Nat) : Int))) w = .ok (.int .u64 ((a &&& b).toNat : Int)) w
    rw [wrap_u64]; simp
  · show Result.ok (Value.int .u64 (IntKind.u64.wrap (((BitVec.ofInt 64 (a.toNat : Int) ||| BitVec.ofInt 64 (b.toNat : Int)).toNat : Nat) : Int))) w = .ok (.int .u64 ((a ||| b).toNat : Int)) w
    rw [wrap_u64]; simp
  · show Result.ok (Value.int .u64 (IntKind.u64.wrap (((BitVec.ofInt 64 (a.toNat : Int) ^^^ BitVec.ofInt 64 (b.toNat : Int)).toNat : Nat) : Int))) w = .ok (.int .u64 ((a ^^^ b).toNat : Int)) w
    rw [wrap_u64]; simp

theorem OP_b8 {op : BinOp} {t yt : TypeId} {x y : Operand} {a b : UInt8} (ho : isBop op = true) (hx : evo L x = some (.u8 a)) (hy : evo L y = some (.u8 b)) (hk : K (.u8 (bop8 op a b)) w) : OP P L (.binOp op t x y yt) ty w K :=
  OP_int hx hy rfl rfl (run_bop8 ho t a b) hk
theorem OP_b32 {op : BinOp} {t yt : TypeId} {x y : Operand} {a b : UInt32} (ho : isBop op = true) (hx : evo L x = some (.u32 a)) (hy : evo L y = some (.u32 b)) (hk : K (.u32 (bop32 op a b)) w) : OP P L (.binOp op t x y yt) ty w K :=
  OP_int hx hy rfl rfl (run_bop32 ho t a b) hk
theorem OP_b64 {op : BinOp} {t yt : TypeId} {x y : Operand} {a b : UInt64} (ho : isBop op = true) (hx : evo L x = some (.u64 a)) (hy : evo L y = some (.u64 b)) (hk : K (.u64 (bop64 op a b)) w) : OP P L (.binOp op t x y yt) ty w K :=
  OP_int hx hy rfl rfl (run_bop64 ho t a b) hk

theorem OP_xor32 {t : TypeId} {x : Operand} {a : UInt32} (hx : evo L x = some (.u32 a)) (hk : K (.u32 (~~~a)) w) : OP P L (.unOp .xor t x) ty w K :=
  OP_run (fun e he => by
    rw [show execOp e ⟨none, .unOp .xor t x, ty, "", #[], none⟩ = (do pure (.value (← Op.unary .xor (e x)))) from rfl, he x _ hx]
    have h1 : Op.unary .xor (SV.u32 a).den = pure (.int .u32 (IntKind.u32.wrap (((BitVec.ofInt 32 4294967295 ^^^ BitVec.ofInt 32 (a.toNat : Int)).toNat : Nat) : Int))) := rfl
    rw [h1, wrap_u32, show BitVec.ofInt 32 4294967295 = BitVec.allOnes 32 from by decide, BitVec.allOnes_xor]
    have := a.toNat_lt
    simp [SV.den, wordV]
    omega) hk

/-! ### Shifts -/
theorem run_sh32r (t : TypeId) (a : UInt32) (yk : IntKind) (c : Nat) (hc : c < 32) : (binOp .shr t (wordV a) (.int yk (c : Int))).run P w = .ok (wordV (a >>> UInt32.ofNat c)) w := by
  have h1 : (binOp .shr t (wordV a) (.int yk (c : Int))) = Op.shift .shr .u32 (a.toNat : Int) yk (c : Int) := rfl
  rw [h1, shift_shr _ _ _ _ (by omega) (by simp [IntKind.bits]; omega)]
  simp only [Sem.run_pure, wordV, Int.toNat_natCast]
  congr 2
  rw [UInt32.toNat_shiftRight, UInt32.toNat_ofNat', Nat.shiftRight_eq_div_pow, Nat.mod_eq_of_lt (show c < 2 ^ 32 by omega), Nat.mod_eq_of_lt hc]
  simp
theorem run_sh32l (t : TypeId) (a : UInt32) (yk : IntKind) (c : Nat) (hc : c < 32) : (binOp .shl t (wordV a) (.int yk (c : Int))).run P w = .ok (wordV (a <<< UInt32.ofNat c)) w := by
  have h1 : (binOp .shl t (wordV a) (.int yk (c : Int))) = Op.shift .shl .u32 (a.toNat : Int) yk (c : Int) := rfl
  rw [h1, shift_shl _ _ _ _ (by omega) (by simp [IntKind.bits]; omega)]
  simp only [Sem.run_pure, wordV, Int.toNat_natCast]
  congr 2
  rw [UInt32.toNat_shiftLeft, UInt32.toNat_ofNat', Nat.shiftLeft_eq, Nat.mod_eq_of_lt (show c < 2 ^ 32 by omega), Nat.mod_eq_of_lt hc]
  rw [show ((a.toNat : Int) * 2 ^ c) = ((a.toNat * 2 ^ c : Nat) : Int) from by simp, wrap_u32]
  simp
theorem run_sh64r (t : TypeId) (a : UInt64) (yk : IntKind) (c : Nat) (hc : c < 64) : (binOp .shr t (longV a) (.int yk (c : Int))).run P w = .ok (longV (a >>> UInt64.ofNat c)) w := by
  have h1 : (binOp .shr t (longV a) (.int yk (c : Int))) = Op.shift .shr .u64 (a.toNat : Int) yk (c : Int) := rfl
  rw [h1, shift_shr _ _ _ _ (by omega) (by simp [IntKind.bits]; omega)]
  simp only [Sem.run_pure, longV, Int.toNat_natCast]
  congr 2
  rw [UInt64.toNat_shiftRight, UInt64.toNat_ofNat', Nat.shiftRight_eq_div_pow, Nat.mod_eq_of_lt (show c < 2 ^ 64 by omega), Nat.mod_eq_of_lt hc]
  simp
theorem run_sh64l (t : TypeId) (a : UInt64) (yk : IntKind) (c : Nat) (hc : c < 64) : (binOp .shl t (longV a) (.int yk (c : Int))).run P w = .ok (longV (a <<< UInt64.ofNat c)) w := by
  have h1 : (binOp .shl t (longV a) (.int yk (c : Int))) = Op.shift .shl .u64 (a.toNat : Int) yk (c : Int) := rfl
  rw [h1, shift_shl _ _ _ _ (by omega) (by simp [IntKind.bits]; omega)]
  simp only [Sem.run_pure, longV, Int.toNat_natCast]
  congr 2
  rw [UInt64.toNat_shiftLeft, UInt64.toNat_ofNat', Nat.shiftLeft_eq, Nat.mod_eq_of_lt (show c < 2 ^ 64 by omega), Nat.mod_eq_of_lt hc]
  rw [show ((a.toNat : Int) * 2 ^ c) = ((a.toNat * 2 ^ c : Nat) : Int) from by simp, wrap_u64]
  simp
theorem run_sh8r (t : TypeId) (a : UInt8) (yk : IntKind) (c : Nat) (hc : c < 8) : (binOp .shr t (byteV a) (.int yk (c : Int))).run P w = .ok (byteV (a >>> UInt8.ofNat c)) w := by
  have h1 : (binOp .shr t (byteV a) (.int yk (c : Int))) = Op.shift .shr .u8 (a.toNat : Int) yk (c : Int) := rfl
  rw [h1, shift_shr _ _ _ _ (by omega) (by simp [IntKind.bits]; omega)]
  simp only [Sem.run_pure, byteV, Int.toNat_natCast]
  congr 2
  rw [UInt8.toNat_shiftRight, UInt8.toNat_ofNat', Nat.shiftRight_eq_div_pow, Nat.mod_eq_of_lt (show c < 2 ^ 8 by omega), Nat.mod_eq_of_lt hc]
  simp

section shifts
variable {t yt : TypeId} {x y : Operand}
/-- the count is a constant of the text: 'c' -/
theorem OP_shr32 {a : UInt32} {yk : IntKind} {c : Nat} {sy : SV} (hx : evo L x = some (.u32 a)) (hy : evo L y = some sy) (ey : sy.num = some (yk, (c : Int))) (hc : c < 32) (hk : K (.u32 (a >>> UInt32.ofNat c)) w) : OP P L (.binOp .shr t x y yt) ty w K :=
  OP_int hx hy rfl (SV.num_den ey) (run_sh32r t a yk c hc) hk
theorem OP_shl32 {a : UInt32} {yk : IntKind} {c : Nat} {sy : SV} (hx : evo L x = some (.u32 a)) (hy : evo L y = some sy) (ey : sy.num = some (yk, (c : Int))) (hc : c < 32) (hk : K (.u32 (a <<< UInt32.ofNat c)) w) : OP P L (.binOp .shl t x y yt) ty w K :=
  OP_int hx hy rfl (SV.num_den ey) (run_sh32l t a yk c hc) hk
theorem OP_shr64 {a : UInt64} {yk : IntKind} {c : Nat} {sy : SV} (hx : evo L x = some (.u64 a)) (hy : evo L y = some sy) (ey : sy.num = some (yk, (c : Int))) (hc : c < 64) (hk : K (.u64 (a >>> UInt64.ofNat c)) w) : OP P L (.binOp .shr t x y yt) ty w K :=
  OP_int hx hy rfl (SV.num_den ey) (run_sh64r t a yk c hc) hk
theorem OP_shl64 {a : UInt64} {yk : IntKind} {c : Nat} {sy : SV} (hx : evo L x = some (.u64 a)) (hy : evo L y = some sy) (ey : sy.num = some (yk, (c : Int))) (hc : c < 64) (hk : K (.u64 (a <<< UInt64.ofNat c)) w) : OP P L (.binOp .shl t x y yt) ty w K :=
  OP_int hx hy rfl (SV.num_den ey) (run_sh64l t a yk c hc) hk
theorem OP_shr8 {a : UInt8} {yk : IntKind} {c : Nat} {sy : SV} (hx : evo L x = some (.u8 a)) (hy : evo L y = some sy) (ey : sy.num = some (yk, (c : Int))) (hc : c < 8) (hk : K (.u8 (a >>> UInt8.ofNat c)) w) : OP P L (.binOp .shr t x y yt) ty w K :=
  OP_int hx hy rfl (SV.num_den ey) (run_sh8r t a yk c hc) hk
theorem OP_shri {a : Int} {yk : IntKind} {c : Nat} {sy : SV} (hx : evo L x = some (.v (.int .i64 a))) (hy : evo L y = some sy) (ey : sy.num = some (yk, (c : Int))) (hc : c ≤ 64) (hk : K (.v (.int .i64 (a / 2 ^ c))) w) : OP P L (.binOp .shr t x y yt) ty w K :=
  OP_int hx hy rfl (SV.num_den ey) (by
    have h1 : (binOp .shr t (.int .i64 a) (.int yk (c : Int))) = Op.shift .shr .i64 a yk (c : Int) := rfl
    rw [h1, shift_shr _ _ _ _ (by omega) (by simp [IntKind.bits]; omega)]
    simp [SV.den]) hk
theorem OP_shli {a : Int} {yk : IntKind} {c : Nat} {sy : SV} (hx : evo L x = some (.v (.int .i64 a))) (hy : evo L y = some sy) (ey : sy.num = some (yk, (c : Int))) (hc : c ≤ 64) (hb : -9223372036854775808 ≤ a * 2 ^ c ∧ a * 2 ^ c ≤ 9223372036854775807) (hk : K (.v (.int .i64 (a * 2 ^ c))) w) : OP P L (.binOp .shl t x y yt) ty w K :=
  OP_int hx hy rfl (SV.num_den ey) (by
    have h1 : (binOp .shl t (.int .i64 a) (.int yk (c : Int))) = Op.shift .shl .i64 a yk (c : Int) := rfl
    rw [h1, shift_shl _ _ _ _ (by omega) (by simp [IntKind.bits]; omega)]
    simp [SV.den, IntWalk.i64_in _ hb]) hk
theorem OP_shr64i {a : UInt64} {yk : IntKind} {c : Int} {sy : SV} (hx : evo L x = some (.u64 a)) (hy : evo L y = some sy) (ey : sy.num = some (yk, c)) (hc : 0 ≤ c ∧ c < 64) (hk : K (.u64 (a >>> UInt64.ofNat c.toNat)) w) : OP P L (.binOp .shr t x y yt) ty w K :=
  OP_shr64 (c := c.toNat) hx hy (by rw [ey]; congr 2; omega) (by omega) hk
theorem OP_shl64i {a : UInt64} {yk : IntKind} {c : Int} {sy : SV} (hx : evo L x = some (.u64 a)) (hy : evo L y = some sy) (ey : sy.num = some (yk, c)) (hc : 0 ≤ c ∧ c < 64) (hk : K (.u64 (a <<< UInt64.ofNat c.toNat)) w) : OP P L (.binOp .shl t x y yt) ty w K :=
  OP_shl64 (c := c.toNat) hx hy (by rw [ey]; congr 2; omega) (by omega) hk
theorem OP_shrii {a : Int} {yk : IntKind} {c : Int} {sy : SV} (hx : evo L x = some (.v (.int .i64 a))) (hy : evo L y = some sy) (ey : sy.num = some (yk, c)) (hc : 0 ≤ c ∧ c ≤ 64) (hk : K (.v (.int .i64 (a / 2 ^ c.toNat))) w) : OP P L (.binOp .shr t x y yt) ty w K :=
  OP_shri (c := c.toNat) hx hy (by rw [ey]; congr 2; omega) (by omega) hk
theorem OP_shlii {a : Int} {yk : IntKind} {c : Int} {sy : SV} (hx : evo L x = some (.v (.int .i64 a))) (hy : evo L y = some sy) (ey : sy.num = some (yk, c)) (hc : 0 ≤ c ∧ c ≤ 64) (hb : -9223372036854775808 ≤ a * 2 ^ c.toNat ∧ a * 2 ^ c.toNat ≤ 9223372036854775807) (hk : K (.v (.int .i64 (a * 2 ^ c.toNat))) w) : OP P L (.binOp .shl t x y yt) ty w K :=
  OP_shli (c := c.toNat) hx hy (by rw [ey]; congr 2; omega) (by omega) hb hk
end shifts

/-- numbers of type uint as bare numbers -/
theorem OP_umul {t yt : TypeId} {x y : Operand} {sx sy : SV} {a b : Int} (hx : evo L x = some sx) (hy : evo L y = some sy) (ex : sx.num = some (.u64, a)) (ey : sy.num = some (.u64, b)) (hb : 0 ≤ a * b ∧ a * b ≤ 18446744073709551615)
    (hk : K (.v (.int .u64 (a * b))) w) : OP P L (.binOp .mul t x y yt) ty w K :=
  OP_int hx hy (SV.num_den ex) (SV.num_den ey) (by simp [binOp, Op.intArith, IntWalk.u64_in _ hb, SV.den]) hk
theorem OP_usub {t yt : TypeId} {x y : Operand} {sx sy : SV} {a b : Int} (hx : evo L x = some sx) (hy : evo L y = some sy) (ex : sx.num = some (.u64, a)) (ey : sy.num = some (.u64, b)) (hb : 0 ≤ a - b ∧ a - b ≤ 18446744073709551615)
    (hk : K (.v (.int .u64 (a - b))) w) : OP P L (.binOp .sub t x y yt) ty w K :=
  OP_int hx hy (SV.num_den ex) (SV.num_den ey) (by simp [binOp, Op.intArith, IntWalk.u64_in _ hb, SV.den]) hk

/-! ### Conversions between integers -/
theorem run_conv (src dst : TypeId) (k k' : IntKind) (a : Int) {d : TypeDesc} (hs : P.underlying src = some d) (hd : P.underlying dst = some (.int k')) :
    (convert src dst (.int k a)).run P w = .ok (.int k' (k'.wrap a)) w := by
  unfold convert
  simp only [Sem.run_bind, run_underlying hs, run_underlying hd, Result.andThen_ok]
  rfl
section conv
variable {src dst : TypeId} {x : Operand} {d : TypeDesc}
theorem OP_conv {k k' : IntKind} {a : Int} {sx s : SV} (hs : P.underlying src = some d) (hd : P.underlying dst = some (.int k')) (hx : evo L x = some sx) (ex : sx.num = some (k, a)) (es : s.den = .int k' (k'.wrap a)) (hk : K s w) : OP P L (.convert src dst x) ty w K :=
  OP_run (fun e he => by
    have h1 : execOp e ⟨none, .convert src dst x, ty, "", #[], none⟩ = (do pure (.value (← convert src dst (e x)))) := rfl
    rw [h1, he x _ hx, SV.num_den ex, es]
    simp only [Sem.run_bind, run_conv src dst k k' a hs hd, Result.andThen_ok, Sem.run_pure]) hk
theorem wrap_u8_int (a : Int) : IntKind.u8.wrap a = ((UInt8.ofInt a).toNat : Int) := by
  rw [IntKind.wrap_u8]; simp [UInt8.ofInt]; omega
theorem wrap_u32_int (a : Int) : IntKind.u32.wrap a = ((UInt32.ofInt a).toNat : Int) := by
  rw [IntKind.wrap_u32]; simp [UInt32.ofInt]; omega
theorem wrap_u64_int (a : Int) : IntKind.u64.wrap a = ((UInt64.ofInt a).toNat : Int) := by
  simp [IntKind.wrap, IntKind.bits, IntKind.signed, UInt64.ofInt]; omega
theorem OP_c8 {a : Int} (hs : P.underlying src = some d) (hd : P.underlying dst = some (.int .u8)) (hx : evo L x = some (.v (.int .i64 a))) (hk : K (.u8 (UInt8.ofInt a)) w) : OP P L (.convert src dst x) ty w K :=
  OP_conv hs hd hx rfl (by rw [wrap_u8_int]; rfl) hk
theorem OP_c32 {a : Int} (hs : P.underlying src = some d) (hd : P.underlying dst = some (.int .u32)) (hx : evo L x = some (.v (.int .i64 a))) (hk : K (.u32 (UInt32.ofInt a)) w) : OP P L (.convert src dst x) ty w K :=
  OP_conv hs hd hx rfl (by rw [wrap_u32_int]; rfl) hk
theorem OP_c64 {a : Int} (hs : P.underlying src = some d) (hd : P.underlying dst = some (.int .u64)) (hx : evo L x = some (.v (.int .i64 a))) (hk : K (.u64 (UInt64.ofInt a)) w) : OP P L (.convert src dst x) ty w K :=
  OP_conv hs hd hx rfl (by rw [wrap_u64_int]; rfl) hk
/-- a count for a shift: kept as a bare number -/
theorem OP_cnt {a : Int} (hs : P.underlying src = some d) (hd : P.underlying dst = some (.int .u64)) (hx : evo L x = some (.v (.int .i64 a))) (hb : 0 ≤ a ∧ a ≤ 9223372036854775807) (hk : K (.v (.int .u64 a)) w) : OP P L (.convert src dst x) ty w K :=
  OP_conv hs hd hx rfl (by rw [IntWalk.u64_in _ (by omega)]; rfl) hk
theorem OP_c8i {b : UInt8} (hs : P.underlying src = some d) (hd : P.underlying dst = some (.int .i64)) (hx : evo L x = some (.u8 b)) (hk : K (.v (.int .i64 (b.toNat : Int))) w) : OP P L (.convert src dst x) ty w K :=
  OP_conv hs hd hx rfl (by have := b.toNat_lt; rw [IntWalk.i64_in _ (by omega)]; rfl) hk
theorem OP_c8_32 {b : UInt8} (hs : P.underlying src = some d) (hd : P.underlying dst = some (.int .u32)) (hx : evo L x = some (.u8 b)) (hk : K (.u32 b.toUInt32) w) : OP P L (.convert src dst x) ty w K :=
  OP_conv hs hd hx rfl (by have := b.toNat_lt; rw [IntWalk.u32_in _ (by omega)]; simp [SV.den, wordV]) hk
theorem OP_c8_64 {b : UInt8} (hs : P.underlying src = some d) (hd : P.underlying dst = some (.int .u64)) (hx : evo L x = some (.u8 b)) (hk : K (.u64 b.toUInt64) w) : OP P L (.convert src dst x) ty w K :=
  OP_conv hs hd hx rfl (by have := b.toNat_lt; rw [IntWalk.u64_in _ (by omega)]; simp [SV.den, longV]) hk
theorem OP_c32_8 {b : UInt32} (hs : P.underlying src = some d) (hd : P.underlying dst = some (.int .u8)) (hx : evo L x = some (.u32 b)) (hk : K (.u8 b.toUInt8) w) : OP P L (.convert src dst x) ty w K :=
  OP_conv hs hd hx rfl (by rw [IntKind.wrap_u8]; simp [SV.den, byteV]) hk
theorem OP_c64_8 {b : UInt64} (hs : P.underlying src = some d) (hd : P.underlying dst = some (.int .u8)) (hx : evo L x = some (.u64 b)) (hk : K (.u8 b.toUInt8) w) : OP P L (.convert src dst x) ty w K :=
  OP_conv hs hd hx rfl (by rw [IntKind.wrap_u8]; simp [SV.den, byteV]) hk
theorem OP_c64i {b : UInt64} (hs : P.underlying src = some d) (hd : P.underlying dst = some (.int .i64)) (hx : evo L x = some (.u64 b)) (hb : b.toNat ≤ 9223372036854775807) (hk : K (.v (.int .i64 (b.toNat : Int))) w) : OP P L (.convert src dst x) ty w K :=
  OP_conv hs hd hx rfl (by rw [IntWalk.i64_in _ (by omega)]; rfl) hk
end conv

end
end Go.Eng
