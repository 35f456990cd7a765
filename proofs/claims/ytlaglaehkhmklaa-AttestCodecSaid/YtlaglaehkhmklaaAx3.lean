/-
  Own text. The abstract machine: how it computes. It claims nothing of any program.
-/
import Derived.Test.YtlaglaehkhmklaaAx2
namespace Go.Ax
open Go Go.RowKit Go.Eng
set_option linter.unusedVariables false

/-! ### Arithmetic, under names that a computation does not unfold -/
def iadd0 (a b : Int) : Int := IntKind.i64.wrap (a + b)
def isub0 (a b : Int) : Int := IntKind.i64.wrap (a - b)
def imul0 (a b : Int) : Int := IntKind.i64.wrap (a * b)
def iquo0 (a b : Int) : Int := IntKind.i64.wrap (a.tdiv b)
def irem0 (a b : Int) : Int := a.tmod b
def ibit0 (op : BinOp) (a b : Int) : Int := bits op .i64 a b
def ineg0 (a : Int) : Int := IntKind.i64.wrap (-a)
def ieq0 (a b : Int) : Bool := a == b
def ine0 (a b : Int) : Bool := a != b
def ilt0 (a b : Int) : Bool := decide (a < b)
def ile0 (a b : Int) : Bool := decide (a ≤ b)
def ishl0 (a : Int) (c : Nat) : Int := IntKind.i64.wrap (a * 2 ^ min c 64)
def ishr0 (a : Int) (c : Nat) : Int := a / 2 ^ min c 64
def beq0 (a b : Bool) : Bool := a == b
def bnot0 (a : Bool) : Bool := !a
def and0 (a b : Bool) : Bool := a && b
def seq0 (a b : List UInt8) : Bool := decide (a = b)
def u8op0 (op : BinOp) (a b : UInt8) : UInt8 := bop8 op a b
def u32op0 (op : BinOp) (a b : UInt32) : UInt32 := bop32 op a b
def u64op0 (op : BinOp) (a b : UInt64) : UInt64 := bop64 op a b
def u8shr0 (a : UInt8) (c : Nat) : UInt8 := UInt8.ofNat (a.toNat / 2 ^ min c 8)
def u8shl0 (a : UInt8) (c : Nat) : UInt8 := UInt8.ofInt ((a.toNat : Int) * 2 ^ min c 8)
def u64shr0 (a : UInt64) (c : Nat) : UInt64 := UInt64.ofNat (a.toNat / 2 ^ min c 64)
def u64shl0 (a : UInt64) (c : Nat) : UInt64 := UInt64.ofInt ((a.toNat : Int) * 2 ^ min c 64)
def u32shr0 (a : UInt32) (c : Nat) : UInt32 := UInt32.ofNat (a.toNat / 2 ^ min c 32)
def u32shl0 (a : UInt32) (c : Nat) : UInt32 := UInt32.ofInt ((a.toNat : Int) * 2 ^ min c 32)
def i64w0 (a : Int) : Int := IntKind.i64.wrap a
def u8i0 (a : UInt8) : Int := (a.toNat : Int)
def u64i0 (a : UInt64) : Int := IntKind.i64.wrap (a.toNat : Int)
def iu80 (a : Int) : UInt8 := UInt8.ofInt a
def iu320 (a : Int) : UInt32 := UInt32.ofInt a
def iu640 (a : Int) : UInt64 := UInt64.ofInt a
def u8u640 (a : UInt8) : UInt64 := a.toUInt64
def u64u80 (a : UInt64) : UInt8 := a.toUInt8
def u32u80 (a : UInt32) : UInt8 := a.toUInt8
def u64cmp0 (op : BinOp) (a b : UInt64) : Bool := cmpB op (a.toNat : Int) (b.toNat : Int)
def u8cmp0 (op : BinOp) (a b : UInt8) : Bool := cmpB op (a.toNat : Int) (b.toNat : Int)
def u32cmp0 (op : BinOp) (a b : UInt32) : Bool := cmpB op (a.toNat : Int) (b.toNat : Int)
def llen0 {α : Type} (l : List α) : Int := (l.length : Int)
def lget0 {α : Type} (l : List α) (i : Int) : Option α := if 0 ≤ i then l[i.toNat]? else none
def linb0 {α : Type} (l : List α) (i : Int) : Bool := decide (0 ≤ i ∧ i < l.length)
def lset0 {α : Type} (l : List α) (i : Int) (a : α) : List α := l.set i.toNat a
/-- l[lo:hi] -/
def lcut0 {α : Type} (l : List α) (lo hi : Int) : Option (List α) := if 0 ≤ lo ∧ lo ≤ hi ∧ hi ≤ l.length then some ((l.drop lo.toNat).take (hi - lo).toNat) else none
def lrep0 {α : Type} (n : Int) (a : α) : List α := List.replicate n.toNat a
def lapp0 {α : Type} (l m : List α) : List α := l ++ m
def lcpy0 {α : Type} (l m : List α) : List α := m.take l.length ++ l.drop m.length
def lemp0 {α : Type} (l : List α) : Bool := l.isEmpty
/-- small enough for one array of the machine -/
def fits0 {α : Type} (l : List α) (bytes : Nat) : Bool := decide (l.length * bytes ≤ 140737488355328)
def fitn0 (n : Int) (bytes : Nat) : Bool := decide (0 ≤ n ∧ bytes * n.toNat ≤ 281474976710656)


/-- a function behind a name that nothing unfolds, the kernel neither -/
noncomputable def sealed {α : Type} (a : α) : α := Classical.choose (⟨a, rfl⟩ : ∃ x, x = a)
theorem sealed_eq {α : Type} (a : α) : sealed a = a := Classical.choose_spec (⟨a, rfl⟩ : ∃ x, x = a)
noncomputable def iadd : Int → Int → Int := sealed iadd0
theorem iadd_d : iadd = iadd0 := sealed_eq _
noncomputable def isub : Int → Int → Int := sealed isub0
theorem isub_d : isub = isub0 := sealed_eq _
noncomputable def imul : Int → Int → Int := sealed imul0
theorem imul_d : imul = imul0 := sealed_eq _
noncomputable def iquo : Int → Int → Int := sealed iquo0
theorem iquo_d : iquo = iquo0 := sealed_eq _
noncomputable def irem : Int → Int → Int := sealed irem0
theorem irem_d : irem = irem0 := sealed_eq _
noncomputable def ibit : BinOp → Int → Int → Int := sealed ibit0
theorem ibit_d : ibit = ibit0 := sealed_eq _
noncomputable def ineg : Int → Int := sealed ineg0
theorem ineg_d : ineg = ineg0 := sealed_eq _
noncomputable def ieq : Int → Int → Bool := sealed ieq0
theorem ieq_d : ieq = ieq0 := sealed_eq _
noncomputable def ine : Int → Int → Bool := sealed ine0
theorem ine_d : ine = ine0 := sealed_eq _
noncomputable def ilt : Int → Int → Bool := sealed ilt0
theorem ilt_d : ilt = ilt0 := sealed_eq _
noncomputable def ile : Int → Int → Bool := sealed ile0
theorem ile_d : ile = ile0 := sealed_eq _
noncomputable def ishl : Int → Nat → Int := sealed ishl0
theorem ishl_d : ishl = ishl0 := sealed_eq _
noncomputable def ishr : Int → Nat → Int := sealed ishr0
theorem ishr_d : ishr = ishr0 := sealed_eq _
noncomputable def beq' : Bool → Bool → Bool := sealed beq0
theorem beq_d : beq' = beq0 := sealed_eq _
noncomputable def bnot : Bool → Bool := sealed bnot0
theorem bnot_d : bnot = bnot0 := sealed_eq _
noncomputable def and' : Bool → Bool → Bool := sealed and0
theorem and_d : and' = and0 := sealed_eq _
noncomputable def seq' : List UInt8 → List UInt8 → Bool := sealed seq0
theorem seq_d : seq' = seq0 := sealed_eq _
noncomputable def u8op : BinOp → UInt8 → UInt8 → UInt8 := sealed u8op0
theorem u8op_d : u8op = u8op0 := sealed_eq _
noncomputable def u32op : BinOp → UInt32 → UInt32 → UInt32 := sealed u32op0
theorem u32op_d : u32op = u32op0 := sealed_eq _
noncomputable def u64op : BinOp → UInt64 → UInt64 → UInt64 := sealed u64op0
theorem u64op_d : u64op = u64op0 := sealed_eq _
noncomputable def u8shr : UInt8 → Nat → UInt8 := sealed u8shr0
theorem u8shr_d : u8shr = u8shr0 := sealed_eq _
noncomputable def u8shl : UInt8 → Nat → UInt8 := sealed u8shl0
theorem u8shl_d : u8shl = u8shl0 := sealed_eq _
noncomputable def u64shr : UInt64 → Nat → UInt64 := sealed u64shr0
theorem u64shr_d : u64shr = u64shr0 := sealed_eq _
noncomputable def u64shl : UInt64 → Nat → UInt64 := sealed u64shl0
theorem u64shl_d : u64shl = u64shl0 := sealed_eq _
noncomputable def u32shr : UInt32 → Nat → UInt32 := sealed u32shr0
theorem u32shr_d : u32shr = u32shr0 := sealed_eq _
noncomputable def u32shl : UInt32 → Nat → UInt32 := sealed u32shl0
theorem u32shl_d : u32shl = u32shl0 := sealed_eq _
noncomputable def i64w : Int → Int := sealed i64w0
theorem i64w_d : i64w = i64w0 := sealed_eq _
noncomputable def u8i : UInt8 → Int := sealed u8i0
theorem u8i_d : u8i = u8i0 := sealed_eq _
noncomputable def u64i : UInt64 → Int := sealed u64i0
theorem u64i_d : u64i = u64i0 := sealed_eq _
noncomputable def iu8 : Int → UInt8 := sealed iu80
theorem iu8_d : iu8 = iu80 := sealed_eq _
noncomputable def iu32 : Int → UInt32 := sealed iu320
theorem iu32_d : iu32 = iu320 := sealed_eq _
noncomputable def iu64 : Int → UInt64 := sealed iu640
theorem iu64_d : iu64 = iu640 := sealed_eq _
noncomputable def u8u64 : UInt8 → UInt64 := sealed u8u640
theorem u8u64_d : u8u64 = u8u640 := sealed_eq _
noncomputable def u64u8 : UInt64 → UInt8 := sealed u64u80
theorem u64u8_d : u64u8 = u64u80 := sealed_eq _
noncomputable def u32u8 : UInt32 → UInt8 := sealed u32u80
theorem u32u8_d : u32u8 = u32u80 := sealed_eq _
noncomputable def u64cmp : BinOp → UInt64 → UInt64 → Bool := sealed u64cmp0
theorem u64cmp_d : u64cmp = u64cmp0 := sealed_eq _
noncomputable def u8cmp : BinOp → UInt8 → UInt8 → Bool := sealed u8cmp0
theorem u8cmp_d : u8cmp = u8cmp0 := sealed_eq _
noncomputable def u32cmp : BinOp → UInt32 → UInt32 → Bool := sealed u32cmp0
theorem u32cmp_d : u32cmp = u32cmp0 := sealed_eq _
noncomputable def llen {α : Type} : List α → Int := sealed llen0
theorem llen_d {α : Type} : @llen α = llen0 := sealed_eq _
noncomputable def lget {α : Type} : List α → Int → Option α := sealed lget0
theorem lget_d {α : Type} : @lget α = lget0 := sealed_eq _
noncomputable def linb {α : Type} : List α → Int → Bool := sealed linb0
theorem linb_d {α : Type} : @linb α = linb0 := sealed_eq _
noncomputable def lset {α : Type} : List α → Int → α → List α := sealed lset0
theorem lset_d {α : Type} : @lset α = lset0 := sealed_eq _
noncomputable def lcut {α : Type} : List α → Int → Int → Option (List α) := sealed lcut0
theorem lcut_d {α : Type} : @lcut α = lcut0 := sealed_eq _
noncomputable def lrep {α : Type} : Int → α → List α := sealed lrep0
theorem lrep_d {α : Type} : @lrep α = lrep0 := sealed_eq _
noncomputable def lapp {α : Type} : List α → List α → List α := sealed lapp0
theorem lapp_d {α : Type} : @lapp α = lapp0 := sealed_eq _
noncomputable def lcpy {α : Type} : List α → List α → List α := sealed lcpy0
theorem lcpy_d {α : Type} : @lcpy α = lcpy0 := sealed_eq _
noncomputable def lemp {α : Type} : List α → Bool := sealed lemp0
theorem lemp_d {α : Type} : @lemp α = lemp0 := sealed_eq _
noncomputable def fits {α : Type} : List α → Nat → Bool := sealed fits0
theorem fits_d {α : Type} : @fits α = fits0 := sealed_eq _
noncomputable def fitn : Int → Nat → Bool := sealed fitn0
theorem fitn_d : fitn = fitn0 := sealed_eq _

noncomputable section
/-! ### Plain data out of cells -/
def unfE : (e e' : Ty) → List (El e') → Option (List (El e))
  | .u8, .u8, l => some l
  | .i64, .i64, l => some l
  | .sl .u8, .sl .u8, l => some l
  | .sl (.sl .u8), .sl (.sl .u8), l => some l
  | e, e', l => if h : e' = e then some (cast (by rw [h]) l) else none
theorem unfE_eq : ∀ {e e' : Ty} {l : List (El e')} {l' : List (El e)}, unfE e e' l = some l' → e' = e ∧ HEq l l' := by
  intro e e' l l' h
  unfold unfE at h
  split at h
  · exact ⟨rfl, heq_of_eq (Option.some.inj h)⟩
  · exact ⟨rfl, heq_of_eq (Option.some.inj h)⟩
  · exact ⟨rfl, heq_of_eq (Option.some.inj h)⟩
  · exact ⟨rfl, heq_of_eq (Option.some.inj h)⟩
  · split at h
    · rename_i e2; subst e2; exact ⟨rfl, heq_of_eq (Option.some.inj h)⟩
    · cases h
def unf : (t : Ty) → List AV → Option (El t × List AV)
  | .bool, .b x :: r => some (x, r)
  | .i64, .i x :: r => some (x, r)
  | .u8, .u8 x :: r => some (x, r)
  | .u32, .u32 x :: r => some (x, r)
  | .u64, .u64 x :: r => some (x, r)
  | .str, .str x :: r => some (x, r)
  | .unit, r => some ((), r)
  | .pair a b, r => match unf a r with
    | some (x, r) => (match unf b r with | some (y, r) => some ((x, y), r) | none => none)
    | none => none
  | .sl e, .sl e' l :: r => (match unfE e e' l with | some l => some (l, r) | none => none)
  | .sl e, .st e' l :: r => (match unfE e e' l with | some l => some (l, r) | none => none)
  | .sl e, .nil :: r => some ([], r)
  | _, _ => none
/-- many of them -/
def unfL (t : Ty) : List (List AV) → Option (List (El t))
  | [] => some []
  | c :: r => match unf t c with
    | some (x, []) => (match unfL t r with | some l => some (x :: l) | none => none)
    | _ => none

/-! ### Tables -/
inductive Und where
  | bool | i64 | u8 | u32 | u64 | str
  | sl (el : TypeId)
  | fld (pl : List (Nat × Nat)) (sc : List Bool)
  | arr (n el : Nat)
  | ptr (el : TypeId)
  | oth
structure TI where
  u : Und
  size : Nat
  bytes : Nat
  zero : List AV
  ty : Option Ty
  eq2 : Bool := false
abbrev TT := List (Nat × TI)
def tlk (k : Nat) : TT → Option TI
  | [] => none
  | (d, v) :: H => bif Nat.beq k d then some v else tlk k H

/-- a number, spelled out -/
def addN {R : Type} (m nn : Nat) (K : Nat → R) : R := match m + nn with | 0 => K 0 | n + 1 => K (n + 1)
theorem addN_eq {R : Type} (m nn : Nat) (K : Nat → R) : addN m nn K = K (m + nn) := by unfold addN; split <;> rename_i h <;> rw [h]
def forceNs {R : Type} : List Nat → (List Nat → R) → R
  | [], K => K []
  | a :: r, K => addN 0 a fun a => forceNs r fun r => K (a :: r)
theorem forceNs_eq {R : Type} : ∀ (l : List Nat) (K : List Nat → R), forceNs l K = K l
  | [], K => rfl
  | a :: r, K => by simp only [forceNs, addN_eq, forceNs_eq r, Nat.zero_add]
def withB {R : Type} (i : TI) (K : Nat → R) : R := match i with | ⟨_, _, b, _, _, _⟩ => K b
theorem withB_eq {R : Type} (i : TI) (K : Nat → R) : withB i K = K i.bytes := rfl
/-! ### Deep forcing: what it hands on is spelled out -/
mutual
def force {R : Type} : AV → (AV → R) → R
  | .pt l, K => forceL l fun l => K (.pt l)
  | .agg l, K => forceL l fun l => K (.agg l)
  | .tup l, K => forceL l fun l => K (.tup l)
  | .fn f a b, K => forceL a fun a => forceL b fun b => K (.fn f a b)
  | .un, K => K .un
  | .b x, K => K (.b x)
  | .i x, K => K (.i x)
  | .u8 x, K => K (.u8 x)
  | .u32 x, K => K (.u32 x)
  | .u64 x, K => K (.u64 x)
  | .str x, K => K (.str x)
  | .sl t l, K => K (.sl t l)
  | .st t l, K => K (.st t l)
  | .nil, K => K .nil
  | .nm k, K => addN 0 k fun k => K (.nm k)
  | .pa k o, K => addN 0 k fun k => K (.pa k o)
  | .pe k i s o, K => addN 0 k fun k => K (.pe k i s o)
def forceL {R : Type} : List AV → (List AV → R) → R
  | [], K => K []
  | s :: r, K => force s fun s => forceL r fun r => K (s :: r)
end
def forceR {R : Type} : Rs → (Rs → R) → R
  | .var l, K => forceL l fun l => K (.var l)
  | .row e t l, K => K (.row e t l)
  | .rowA e s n l, K => forceL l fun l => K (.rowA e s n l)
mutual
theorem force_eq {R : Type} : ∀ (s : AV) (K : AV → R), force s K = K s
  | .pt l, K => by simp only [force, forceL_eq]
  | .agg l, K => by simp only [force, forceL_eq]
  | .tup l, K => by simp only [force, forceL_eq]
  | .fn f a b, K => by simp only [force, forceL_eq]
  | .un, K | .b _, K | .i _, K | .u8 _, K | .u32 _, K | .u64 _, K | .str _, K | .sl _ _, K | .st _ _, K | .nil, K => by simp only [force]
  | .nm _, K | .pa _ _, K | .pe _ _ _ _, K => by simp only [force, addN_eq, Nat.zero_add]
theorem forceL_eq {R : Type} : ∀ (s : List AV) (K : List AV → R), forceL s K = K s
  | [], K => by simp only [forceL]
  | s :: r, K => by simp only [forceL, force_eq, forceL_eq]
end
theorem forceR_eq {R : Type} (s : Rs) (K : Rs → R) : forceR s K = K s := by cases s <;> simp only [forceR, forceL_eq]

/-! ### One operation -/
structure Tr where
  s : AV
  F : Fp
  F' : Fp
  rd : Bool
  nn : Nat
def Tr.pure (s : AV) : Tr := ⟨s, [], [], true, 0⟩
/-- the cells of a value -/
def cellsA : AV → Option (List AV)
  | .tup _ => none
  | .un => none
  | .agg l => some l
  | s => some [s]
mutual
/-- no part of it lies in memory that is read -/
def noRd : AV → Bool
  | .sl _ _ | .st _ _ | .pt _ => false
  | .agg l => noRdL l
  | .tup l => noRdL l
  | .fn _ a b => noRdL a && noRdL b
  | _ => true
def noRdL : List AV → Bool
  | [] => true
  | s :: r => noRd s && noRdL r
end
def Ty.plain : Ty → Bool
  | .sl _ => false
  | .pair a b => a.plain && b.plain
  | _ => true
def noRdR : Rs → Bool
  | .var l => noRdL l
  | .row _ t _ => t.plain
  | .rowA _ _ _ l => noRdL l
def noRdF : Fp → Bool
  | [] => true
  | (_, R) :: r => noRdR R && noRdF r
/-- an operand that is a slice: what it reads as, and the row that is looked at -/
def rdA (hk : Nat → Option Rs) : AV → Option (AV × Fp)
  | .nm k => match hk k with | some (.row e t l) => some (.sl t l, [(k, .row e t l)]) | _ => none
  | s => some (s, [])
def num? : AV → Option Int
  | .i x => some x
  | .u8 x => some (u8i x)
  | .u64 x => some (x.toNat : Int)
  | .u32 x => some (x.toNat : Int)
  | _ => none
def scalar : Und → Bool
  | .fld _ _ => false
  | .arr _ _ => false
  | _ => true
variable {R : Type}
def shiftBy (y : AV) (K : Nat → Option R) : Option R := match y with
  | .i c => bif ilt c 0 then none else K c.toNat
  | .u8 c => K c.toNat
  | .u32 c => K c.toNat
  | .u64 c => K c.toNat
  | _ => none
def evBin (bt : Bool) (e2 : Bool) (op : BinOp) (x y : AV) (K : AV → Option R) : Option R := match op with
  | .shl => shiftBy y fun c => (match x with
    | .i a => K (.i (ishl a c))
    | .u8 a => K (.u8 (u8shl a c))
    | .u64 a => K (.u64 (u64shl a c))
    | .u32 a => K (.u32 (u32shl a c))
    | _ => none)
  | .shr => shiftBy y fun c => (match x with
    | .i a => K (.i (ishr a c))
    | .u8 a => K (.u8 (u8shr a c))
    | .u64 a => K (.u64 (u64shr a c))
    | .u32 a => K (.u32 (u32shr a c))
    | _ => none)
  | op => match x, y with
    | .i a, .i b => (match op with
      | .add => K (.i (iadd a b))
      | .sub => K (.i (isub a b))
      | .mul => K (.i (imul a b))
      | .quo => bif ieq b 0 then none else K (.i (iquo a b))
      | .rem => bif ieq b 0 then none else K (.i (irem a b))
      | .eql => K (.b (ieq a b))
      | .neq => K (.b (ine a b))
      | .lss => K (.b (ilt a b))
      | .leq => K (.b (ile a b))
      | .gtr => K (.b (ilt b a))
      | .geq => K (.b (ile b a))
      | op => K (.i (ibit op a b)))
    | .u8 a, .u8 b => bif isBop op then K (.u8 (u8op op a b)) else bif isCmp op then K (.b (u8cmp op a b)) else none
    | .u32 a, .u32 b => bif isBop op then K (.u32 (u32op op a b)) else bif isCmp op then K (.b (u32cmp op a b)) else none
    | .u64 a, .u64 b => bif isBop op then K (.u64 (u64op op a b)) else bif isCmp op then K (.b (u64cmp op a b)) else none
    | .b a, .b b => bif bt then (match op with
      | .eql => K (.b (beq' a b))
      | .neq => K (.b (bnot (beq' a b)))
      | _ => none) else none
    | .str a, .str b => (match op with
      | .eql => K (.b (seq' a b))
      | .neq => K (.b (bnot (seq' a b)))
      | _ => none)
    | .agg [.i a, .i b], .agg [.i c, .i d] => bif e2 then (match op with
      | .eql => K (.b (and' (ieq a c) (ieq b d)))
      | .neq => K (.b (bnot (and' (ieq a c) (ieq b d))))
      | _ => none) else none
    | _, _ => none
def evConv (d : Und) (x : AV) (K : AV → Option R) : Option R := match d, x with
  | .i64, .i a => K (.i (i64w a))
  | .u8, .i a => K (.u8 (iu8 a))
  | .u32, .i a => K (.u32 (iu32 a))
  | .u64, .i a => K (.u64 (iu64 a))
  | .i64, .u8 a => K (.i (u8i a))
  | .u8, .u8 a => K (.u8 a)
  | .u64, .u8 a => K (.u64 (u8u64 a))
  | .i64, .u64 a => K (.i (u64i a))
  | .u8, .u64 a => K (.u8 (u64u8 a))
  | .u64, .u64 a => K (.u64 a)
  | .u8, .u32 a => K (.u8 (u32u8 a))
  | .str, .str a => K (.str a)
  | _, _ => none
/-- the parts of a struct or an array -/
def bldX (pl : List (Nat × Nat)) (ev : Operand → Option AV) : List AV → List (Nat × Operand) → Option (List AV)
  | cells, [] => some cells
  | cells, (i, x) :: r => match pl[i]?, (ev x).bind cellsA with
    | some (f, n), some l => bif Nat.beq l.length n && Nat.ble (f + n) cells.length then bldX pl ev (cells.take f ++ l ++ cells.drop (f + l.length)) r else none
    | _, _ => none
def partsX (ev : Operand → Option AV) : Nat → List (Nat × Operand) → Option (List AV)
  | _, [] => some []
  | k, (i, x) :: r => bif Nat.beq i k then (match ev x, partsX ev (k + 1) r with | some s, some l => some (s :: l) | _, _ => none) else none
/-- each of them as it is read, and the rows that are looked at -/
def rdAL (hk : Nat → Option Rs) : List AV → Option (List AV × Fp)
  | [] => some ([], [])
  | s :: r => match rdA hk s, rdAL hk r with
    | some (a, F), some (l, G) => some (a :: l, F ++ G)
    | _, _ => none
def cellsAL : List AV → Option (List (List AV))
  | [] => some []
  | s :: r => match cellsA s, cellsAL r with | some c, some l => some (c :: l) | _, _ => none
def plOf' (T : TT) (t : TypeId) : Option (List (Nat × Nat)) := match tlk t T with
  | some i => (match i.u with
    | .fld pl _ => some pl
    | .arr n el => (match tlk el T with | some e => some ((List.range n).map fun i => (i * e.size, e.size)) | none => none)
    | _ => none)
  | none => none
def ldCells (sc : Bool) (n : Nat) (l : List AV) : Option AV := bif sc then l.head? else bif Nat.ble n l.length then some (.agg (l.take n)) else none
def evK (a : Option AV) (K : AV → Option R) : Option R := match a with | some s => K s | none => none
def slOf (T : TT) (t : TypeId) : Option (TypeId × TI) := match tlk t T with
  | some i => (match i.u with
    | .sl el => (match tlk el T with | some e => bif Nat.blt 0 e.size then some (el, e) else none | none => none)
    | _ => none)
  | none => none
def uOf (T : TT) (t : TypeId) : Option Und := match tlk t T with | some i => some i.u | none => none
def isU8 (T : TT) (t : TypeId) : Bool := match uOf T t with | some .u8 => true | _ => false
def evLoad (T : TT) (hk : Nat → Option Rs) (t : TypeId) (x : Option AV) (K : Tr → Option R) : Option R := match tlk t T, x with
  | some i, some (.pa k o) => (match hk k with
    | some (.var cells) => (match ldCells (scalar i.u) i.size (cells.drop o) with | some s => K ⟨s, [(k, .var cells)], [(k, .var cells)], true, 0⟩ | none => none)
    | _ => none)
  | some i, some (.pe k j sz o) => (match hk k with
    | some (.row e t l) => bif Nat.beq sz t.n then (lget l j).bind fun x => (match ldCells (scalar i.u) i.size ((flat t x).drop o) with | some s => K ⟨s, [(k, .row e t l)], [(k, .row e t l)], true, 0⟩ | none => none) else none
    | some (.rowA e sz' n cells) => (match ldCells (scalar i.u) i.size (cells.drop (j.toNat * sz + o)) with | some s => K ⟨s, [(k, .rowA e sz' n cells)], [(k, .rowA e sz' n cells)], true, 0⟩ | none => none)
    | _ => none)
  | some i, some (.pt l) => (match ldCells (scalar i.u) i.size l with | some s => K (.pure s) | none => none)
  | _, _ => none
def evStore (T : TT) (hk : Nat → Option Rs) (t : TypeId) (x : Option AV) (y : Option (List AV)) (K : Tr → Option R) : Option R := match tlk t T, x, y with
  | some i, some (.pa k o), some l => (match hk k with
    | some (.var cells) => bif Nat.beq l.length i.size && Nat.ble (o + l.length) cells.length then K ⟨.un, [(k, .var cells)], [(k, .var (cells.take o ++ l ++ cells.drop (o + l.length)))], false, 0⟩ else none
    | _ => none)
  | some i, some (.pe k j sz o), some c => (match hk k with
    | some (.row e t l) => bif Nat.beq sz t.n && Nat.beq c.length i.size && Nat.ble (o + c.length) t.n then
        (lget l j).bind fun x => (match unf t ((flat t x).take o ++ c ++ (flat t x).drop (o + c.length)) with
          | some (a, []) => K ⟨.un, [(k, .row e t l)], [(k, .row e t (lset l j a))], false, 0⟩
          | _ => none)
      else none
    | _ => none)
  | _, _, _ => none
def fldOf (T : TT) (t : TypeId) : Option (List (Nat × Nat)) := match uOf T t with | some (.fld pl _) => some pl | _ => none
def evFldA (T : TT) (t : TypeId) (x : Option AV) (f : Nat) (K : Tr → Option R) : Option R := match (fldOf T t).bind (·[f]?), x with
  | some (o', n), some (.pa k o) => bif Nat.beq n 0 then none else K (.pure (.pa k (o + o')))
  | some (o', n), some (.pe k j s o) => bif Nat.beq n 0 then none else K (.pure (.pe k j s (o + o')))
  | some (o', n), some (.pt l) => bif Nat.beq n 0 then none else K (.pure (.pt (l.drop o')))
  | _, _ => none
/-- an operand as it is read -/
def evR (ev : Operand → Option AV) (hk : Nat → Option Rs) (x : Operand) : Option AV := match (ev x).bind (rdA hk) with | some (a, _) => some a | none => none
def evG (ev : Operand → Option AV) (hk : Nat → Option Rs) : List (Nat × Operand) → Fp
  | [] => []
  | (_, x) :: r => match (ev x).bind (rdA hk) with | some (_, G) => G ++ evG ev hk r | none => evG ev hk r
def repL {α : Type} (n : Nat) (l : List α) : List α := match n with | 0 => [] | n + 1 => l ++ repL n l
def unfN (τ : Ty) : Nat → List AV → Option (List (El τ))
  | 0, [] => some []
  | n + 1, l => (match unf τ l with | some (x, r) => (match unfN τ n r with | some xs => some (x :: xs) | none => none) | none => none)
  | _, _ => none
def evBldS (T : TT) (ev : Operand → Option AV) (hk : Nat → Option Rs) (m : Nat) (t : TypeId) (len : Nat) (parts : List (Nat × Operand)) (K : Tr → Option R) : Option R := match slOf T t with
  | some (el, i) => bif Nat.ble (len * i.size) 16777216 then
      (match i.ty with
      | some τ => (match bldX ((List.range len).map fun j => (j * i.size, i.size)) (evR ev hk) (repL len i.zero) parts with
        | some cells => (match unfN τ len cells with
          | some l => K ⟨.nm m, evG ev hk parts, [(m, .row el τ l)], false, 1⟩
          | none => none)
        | none => none)
      | none => (match bldX ((List.range len).map fun j => (j * i.size, i.size)) ev (repL len i.zero) parts with
        | some cells => K ⟨.nm m, [], [(m, .rowA el i.size len cells)], false, 1⟩
        | none => none))
    else none
  | none => none
def evMk (T : TT) (m : Nat) (t : TypeId) (l c : Option AV) (K : Tr → Option R) : Option R := match slOf T t, l, c with
  | some (el, i), some (.i n), some (.i c) => (match i.ty with
    | some τ => (match unf τ i.zero with
      | some (z, []) => withB i fun by' => bif fitn c by' then bif ieq n c then K ⟨.nm m, [], [(m, .row el τ (lrep n z))], false, 1⟩ else bif ieq n 0 then K ⟨.nm m, [], [(m, .row el τ [])], false, 1⟩ else none else none
      | _ => none)
    | none => none)
  | _, _, _ => none
def evIxA (T : TT) (hk : Nat → Option Rs) (t : TypeId) (x : Option AV) (j : Option Int) (K : Tr → Option R) : Option R := match x, j with
  | some (.pa k o), some i => (match uOf T t with
    | some (.arr n el) => (match tlk el T with | some e => bif ile 0 i then bif ilt i n then K (.pure (.pa k (o + i.toNat * e.size))) else none else none | none => none)
    | _ => none)
  | some a, some i => (match slOf T t with
    | some (_, ei) => (match a with
      | .sl τ l => bif Nat.beq ei.size τ.n then (lget l i).bind fun x => K (.pure (.pt (flat τ x))) else none
      | .st τ l => bif Nat.beq ei.size τ.n then (lget l i).bind fun x => K (.pure (.pt (flat τ x))) else none
      | .nm k => (match hk k with
        | some (.row e τ l) => bif Nat.beq ei.size τ.n then bif linb l i then K ⟨.pe k i τ.n 0, [(k, .row e τ l)], [(k, .row e τ l)], true, 0⟩ else none else none
        | some (.rowA e sz n cells) => bif Nat.beq ei.size sz then bif ile 0 i then bif ilt i n then K ⟨.pe k i sz 0, [(k, .rowA e sz n cells)], [(k, .rowA e sz n cells)], true, 0⟩ else none else none else none
        | _ => none)
      | _ => none)
    | none => none)
  | _, _ => none
def evIx (T : TT) (t : TypeId) (x : Option AV) (j : Option Int) (K : Tr → Option R) : Option R := match x, j, uOf T t with
  | some (.str l), some i, some .str => (lget l i).bind fun x => K (.pure (.u8 x))
  | some (.agg l), some i, some (.arr n el) => (match tlk el T with
    | some e => bif scalar e.u && Nat.beq e.size 1 && Nat.beq l.length n then bif ile 0 i then bif ilt i n then evK l[i.toNat]? (fun s => K (.pure s)) else none else none else none
    | none => none)
  | _, _, _ => none
def slsOf : AV → Option ((τ : Ty) × List (El τ))
  | .sl τ l => some ⟨τ, l⟩
  | .st τ l => some ⟨τ, l⟩
  | _ => none
def evCut (T : TT) (t : TypeId) (x : AV) (F : Fp) (lo : Int) (hi mx : Option (Option Int)) (K : Tr → Option R) : Option R := match x, uOf T t with
  | .str l, some .str => (match hi, mx with
    | none, none => (lcut l lo (llen l)).bind fun l => K (.pure (.str l))
    | some (some h), none => (lcut l lo h).bind fun l => K (.pure (.str l))
    | _, _ => none)
  | x, _ => (match slsOf x, slOf T t with
    | some ⟨τ, l⟩, some (_, ei) => bif Nat.beq ei.size τ.n then (match hi, mx with
      | none, none => (lcut l lo (llen l)).bind fun l => K ⟨.sl τ l, F, [], F.isEmpty, 0⟩
      | some (some h), none => (lcut l lo h).bind fun l => K ⟨.sl τ l, F, [], F.isEmpty, 0⟩
      | some (some h), some (some x) => bif ieq h x then (lcut l lo h).bind fun l => K ⟨.st τ l, F, [], F.isEmpty, 0⟩ else none
      | _, _ => none) else none
    | _, _ => none)
def evLen (T : TT) (t : TypeId) (hk : Nat → Option Rs) (x : Option AV) (K : Tr → Option R) : Option R := match uOf T t, x with
  | some (.sl _), some (.sl _ l) => K (.pure (.i (llen l)))
  | some (.sl _), some (.st _ l) => K (.pure (.i (llen l)))
  | some (.sl _), some .nil => K (.pure (.i 0))
  | some .str, some (.str l) => K (.pure (.i (llen l)))
  | some (.sl _), some (.nm k) => (match hk k with
    | some (.row e t l) => K ⟨.i (llen l), [(k, .row e t l)], [(k, .row e t l)], true, 0⟩
    | some (.rowA e sz n l) => K ⟨.i n, [(k, .rowA e sz n l)], [(k, .rowA e sz n l)], true, 0⟩
    | _ => none)
  | _, _ => none
def notIn (k : Nat) : Fp → Bool
  | [] => true
  | (d, _) :: r => !Nat.beq k d && notIn k r
/-- append and copy: the second operand as plain data -/
def unfS (τ : Ty) (b : AV) : Option (List (El τ)) := match unf (.sl τ) [b] with | some (l, []) => some l | _ => none
def evApp (T : TT) (hk : Nat → Option Rs) (m : Nat) (t : TypeId) (a : Option AV) (bG : Option (AV × Fp)) (K : Tr → Option R) : Option R := match slOf T t, a, bG with
  | some (el, i), some a, some (b, G) => withB i fun by' => (match i.ty with
    | some τ => (match unfS τ b with
      | some m' => (match a with
        | .nm k => (match hk k with
          | some (.row e t l) => (match unfS τ (.sl t l) with
            | some l' => bif Nat.beq e el && Nat.beq t.n τ.n && notIn k G then bif fits (lapp l' m') by' then K ⟨.nm m, G ++ [(k, .row e t l)], (bif τ.plain then G else []) ++ [(m, .row el τ (lapp l' m'))], false, 1⟩ else none else none
            | none => none)
          | _ => none)
        | .nil => bif fits m' by' then K ⟨.nm m, G, (bif τ.plain then G else []) ++ [(m, .row el τ m')], false, 1⟩ else none
        | .st t l => (match unfS τ (.st t l) with
          | some l' => bif lemp m' then K ⟨.st t l, G, [], G.isEmpty, 0⟩ else bif fits (lapp l' m') by' then K ⟨.nm m, G, (bif τ.plain then G else []) ++ [(m, .row el τ (lapp l' m'))], false, 1⟩ else none
          | none => none)
        | _ => none)
      | none => none)
    | none => none)
  | _, _, _ => none
def evCpy (T : TT) (hk : Nat → Option Rs) (t : TypeId) (a : Option AV) (bG : Option (AV × Fp)) (K : Tr → Option R) : Option R := match slOf T t, a, bG with
  | some (el, i), some (.nm k), some (b, G) => (match i.ty, hk k with
    | some τ, some (.row e t l) => (match unfS τ b, unfS τ (.sl t l) with
      | some m', some l' => bif Nat.beq e el && Nat.beq i.size 1 && Nat.beq t.n τ.n && τ.plain && notIn k G then
          K ⟨.i (min (llen m') (llen l')), G ++ [(k, .row e t l)], G ++ [(k, .row el τ (lcpy l' m'))], false, 0⟩ else none
      | _, _ => none)
    | _, _ => none)
  | _, _, _ => none
def evsX (ev : Operand → Option AV) : List Operand → Option (List AV)
  | [] => some []
  | x :: r => match ev x, evsX ev r with | some s, some l => some (s :: l) | _, _ => none
/-- the bytes of a constant: a row of one's own that is marked -/
def sameRow (T : TT) (hk : Nat → Option Rs) (s d : TypeId) : Option AV → Option (Nat × Nat × List UInt8)
  | some (.nm k) => (match uOf T s with
    | some (.sl el) => bif Nat.beq s d && isU8 T el then (match hk k with
      | some (.row e .u8 (a :: l)) => some (k, e, a :: l)
      | _ => none) else none
    | _ => none)
  | _ => none
def evOp (T : TT) (ev : Operand → Option AV) (hk : Nat → Option Rs) (m : Nat) (op : Op) (K : Tr → Option R) : Option R := match op with
  | .move x => evK (ev x) fun s => K (.pure s)
  | .assign x => evK (ev x) fun s => K (.pure s)
  | .pick b x y => (match ev b with
    | some (.b c) => bif c then evK (ev x) (fun s => K (.pure s)) else evK (ev y) (fun s => K (.pure s))
    | _ => none)
  | .nilCheck x => (match ev x with
    | some (.pa k o) => K (.pure (.pa k o))
    | some (.pe k i s o) => K (.pure (.pe k i s o))
    | some (.pt l) => K (.pure (.pt l))
    | _ => none)
  | .extract x i => (match ev x with
    | some (.tup l) => evK l[i]? fun s => K (.pure s)
    | _ => none)
  | .unOp .not _ x => (match ev x with | some (.b a) => K (.pure (.b (bnot a))) | _ => none)
  | .unOp .neg _ x => (match ev x with | some (.i a) => K (.pure (.i (ineg a))) | _ => none)
  | .binOp op t x y _ => (match ev x, ev y with
    | some a, some b => evBin (match uOf T t with | some .bool => true | _ => false) (match tlk t T with | some i => i.eq2 | none => false) op a b fun s => K (.pure s)
    | _, _ => none)
  | .convert s d x => (match sameRow T hk s d (ev x) with
    | some (k, e, l) => K ⟨.sl .u8 l, [(k, .row e .u8 l)], [], false, 0⟩
    | none => (match uOf T s, uOf T d, (ev x).bind (rdA hk) with
      | some (.sl el), some .str, some (.sl .u8 l, F) => bif isU8 T el then K ⟨.str l, F, F, true, 0⟩ else none
      | some (.sl el), some .str, some (.nil, F) => bif isU8 T el then K (.pure (.str [])) else none
      | some _, some d, some (a, F) => evConv d a fun s => K (.pure s)
      | _, _, _ => none))
  | .alloc t => (match tlk t T with | some i => K ⟨.pa m 0, [], [(m, .var i.zero)], false, 1⟩ | none => none)
  | .box _ x => (match (ev x).bind cellsA with | some l => K ⟨.pa m 0, [], [(m, .var l)], false, 1⟩ | none => none)
  | .load t x => evLoad T hk t (ev x) K
  | .store t x y => evStore T hk t (ev x) ((ev y).bind cellsA) K
  | .fieldAddr t x f => evFldA T t (ev x) f K
  | .field t x f => (match uOf T t, ev x with
    | some (.fld pl sc), some (.agg l) => (match pl[f]?, sc[f]? with
      | some (o', n), some b => evK (ldCells b n (l.drop o')) fun s => K (.pure s)
      | _, _ => none)
    | _, _ => none)
  | .build t parts => (match plOf' T t, tlk t T with
    | some pl, some i => (match bldX pl ev i.zero parts.toList with | some l => K (.pure (.agg l)) | none => none)
    | _, _ => none)
  | .buildSlice t len parts => evBldS T ev hk m t len parts.toList K
  | .makeSlice t l c => evMk T m t (ev l) (ev c) K
  | .makeFunc (.func f) xs ys => (match evsX ev xs.toList, evsX ev ys.toList with | some a, some b => K (.pure (.fn f a b)) | _, _ => none)
  | .indexAddr t x j => evIxA T hk t (ev x) ((ev j).bind num?) K
  | .index t x j => evIx T t (ev x) ((ev j).bind num?) K
  | .slice t x lo hi mx => (match (ev x).bind (rdA hk), (match lo with | some o => (ev o).bind num? | none => some 0) with
    | some (a, F), some lo => evCut T t a F lo (hi.map fun o => (ev o).bind num?) (mx.map fun o => (ev o).bind num?) K
    | _, _ => none)
  | .call { callee := .builtin b, args := xs, argTypes := ts } => (match b, xs.toList, ts.toList with
    | .len, [x], [t] => evLen T t hk (ev x) K
    | .min, [x, y], _ => (match ev x, ev y with | some (.i a), some (.i b) => K (.pure (.i (min a b))) | _, _ => none)
    | .max, [x, y], _ => (match ev x, ev y with | some (.i a), some (.i b) => K (.pure (.i (max a b))) | _, _ => none)
    | .append, [x, y], [t, t'] => bif Nat.beq t t' then evApp T hk m t (ev x) ((ev y).bind (rdA hk)) K else none
    | .copy, [x, y], [t, t'] => bif Nat.beq t t' then evCpy T hk t (ev x) ((ev y).bind (rdA hk)) K else none
    | _, _, _ => none)
  | _ => none
end
end Go.Ax
