/-
  Own text. The abstract machine: plain operations are computed rightly. It claims nothing of any program.
-/
import Derived.Test.YtlaglaehkhmklaaAx5
namespace Go.Ax
open Go Go.RowKit Go.Eng
set_option linter.unusedVariables false
set_option linter.unusedSimpArgs false
variable {P : Program} {w : World} {R : Type}

theorem shift_shr' (k : IntKind) (a : Int) (yk : IntKind) (c : Int) (hc : 0 ≤ c) : (Op.shift .shr k a yk c).run P w = .ok (.int k (a / 2 ^ (min c.toNat k.bits))) w := by
  unfold Op.shift
  rw [if_neg (by omega)]
  simp only [Sem.run_pure]
  rw [Int.fdiv_eq_ediv_of_nonneg _ (by exact Int.le_of_lt (Int.pow_pos (by omega)))]
theorem shift_shl' (k : IntKind) (a : Int) (yk : IntKind) (c : Int) (hc : 0 ≤ c) : (Op.shift .shl k a yk c).run P w = .ok (.int k (k.wrap (a * 2 ^ (min c.toNat k.bits)))) w := by
  unfold Op.shift
  rw [if_neg (by omega)]
  simp only [Sem.run_pure]
/-- the number of a count -/
theorem shiftBy_ok {y : AV} {K : Nat → Option R} {r : R} (h : shiftBy y K = some r) : ∃ q, K q = some r ∧ ∀ (c : Cx) (v : Value), Rep c y v → ∃ k n, v = .int k (n : Int) ∧ 0 ≤ n ∧ n.toNat = q := by
  unfold shiftBy at h
  simp only [ilt_d] at h
  split at h
  · rename_i n
    cases hb : ilt0 n 0 with
    | true => rw [hb] at h; cases h
    | false => rw [hb] at h; exact ⟨_, h, fun c v hy => ⟨_, n, by simp only [Rep] at hy; exact hy, by simp [ilt0] at hb; exact hb, rfl⟩⟩
  · rename_i n; exact ⟨_, h, fun c v hy => ⟨.u8, n.toNat, by simp only [Rep] at hy; exact hy, by omega, by simp⟩⟩
  · rename_i n; exact ⟨_, h, fun c v hy => ⟨.u32, n.toNat, by simp only [Rep] at hy; exact hy, by omega, by simp⟩⟩
  · rename_i n; exact ⟨_, h, fun c v hy => ⟨.u64, n.toNat, by simp only [Rep] at hy; exact hy, by omega, by simp⟩⟩
  · cases h
theorem div_lt' (a n m : Nat) (h : a < m) : a / 2 ^ n < m := Nat.lt_of_le_of_lt (Nat.div_le_self _ _) h
/-- what an operation on two values comes to -/
def BinIs (P : Program) (op : BinOp) (t : TypeId) (x y s : AV) : Prop := ∀ (c : Cx) (u v : Value) (w : World), Rep c x u → Rep c y v → (∀ (ox oy : Operand), (eqGuard op t ox oy u v).run P w = .ok () w) ∧ ∃ v', (binOp op t u v).run P w = .ok v' w ∧ Rep c s v'
theorem BinIs.int {op : BinOp} {t : TypeId} {x y s : AV} {k k' : IntKind} {a b : Int} {v' : Value} (hx : ∀ c u, Rep c x u → u = .int k a) (hy : ∀ c u, Rep c y u → u = .int k' b) (h : ∀ w, (binOp op t (.int k a) (.int k' b)).run P w = .ok v' w) (hs : ∀ c, Rep c s v') : BinIs P op t x y s := by
  intro c u v w h1 h2
  obtain rfl := hx c u h1
  obtain rfl := hy c v h2
  exact ⟨fun _ _ => guard_int _ _ _ _ _ _ _ _, v', h w, hs c⟩
theorem rep_i (c : Cx) (a : Int) (u : Value) (h : Rep c (.i a) u) : u = .int .i64 a := by simp only [Rep] at h; exact h
theorem rep_u8 (c : Cx) (a : UInt8) (u : Value) (h : Rep c (.u8 a) u) : u = .int .u8 (a.toNat : Int) := by simp only [Rep] at h; exact h
theorem rep_u32 (c : Cx) (a : UInt32) (u : Value) (h : Rep c (.u32 a) u) : u = .int .u32 (a.toNat : Int) := by simp only [Rep] at h; exact h
theorem rep_u64 (c : Cx) (a : UInt64) (u : Value) (h : Rep c (.u64 a) u) : u = .int .u64 (a.toNat : Int) := by simp only [Rep] at h; exact h
theorem evBin_ok {bt e2 : Bool} {op : BinOp} {x y : AV} {K : AV → Option R} {r : R} (h : evBin bt e2 op x y K = some r) {t : TypeId} (hbt : bt = true → P.underlying t = some .bool) (he2 : e2 = true → ∃ e', E2 P t e') :
    ∃ s, K s = some r ∧ BinIs P op t x y s := by
  have shf : ∀ {op : BinOp} {x y s : AV} {k : IntKind} {a : Int} {q : Nat} {z : Int}, (∀ (c : Cx) (v : Value), Rep c y v → ∃ k n, v = .int k (n : Int) ∧ 0 ≤ n ∧ n.toNat = q) → (∀ c u, Rep c x u → u = .int k a) → (∀ w k' n, 0 ≤ n → n.toNat = q → (binOp op t (.int k a) (.int k' n)).run P w = .ok (.int k z) w) → (∀ c, Rep c s (.int k z)) → BinIs P op t x y s := by
    intro op x y s k a q z hy hx hrun hs c u v w h1 h2
    obtain rfl := hx c u h1
    obtain ⟨k', n, rfl, hn, hq⟩ := hy c v h2
    exact ⟨fun _ _ => guard_int _ _ _ _ _ _ _ _, _, hrun w k' n hn hq, hs c⟩
  unfold evBin at h
  try simp only [iadd_d, isub_d, imul_d, iquo_d, irem_d, ibit_d, ineg_d, ieq_d, ine_d, ilt_d, ile_d, ishl_d, ishr_d, beq_d, bnot_d, and_d, seq_d, u8op_d, u32op_d, u64op_d, u8shr_d, u8shl_d, u64shr_d, u64shl_d, u32shr_d, u32shl_d, i64w_d, u8i_d, u64i_d, iu8_d, iu32_d, iu64_d, u8u64_d, u64u8_d, u32u8_d, u64cmp_d, u8cmp_d, u32cmp_d, llen_d, lget_d, linb_d, lset_d, lcut_d, lrep_d, lapp_d, lcpy_d, lemp_d, fits_d, fitn_d] at h
  split at h
  · obtain ⟨q, h', hy⟩ := shiftBy_ok h
    clear h
    split at h'
    · rename_i a
      exact ⟨_, h', shf (s := .i (ishl0 a q)) hy (fun c u => rep_i c _ u) (fun w k' n hn hq => by rw [show binOp .shl t _ (.int k' n) = Op.shift .shl _ _ k' n from rfl, shift_shl' _ _ _ _ hn, hq]) fun c' => by simp only [Rep, ishl0, IntKind.bits]⟩
    · rename_i a
      exact ⟨_, h', shf (s := .u8 (u8shl0 a q)) hy (fun c u => rep_u8 c _ u) (fun w k' n hn hq => by rw [show binOp .shl t _ (.int k' n) = Op.shift .shl _ _ k' n from rfl, shift_shl' _ _ _ _ hn, hq]) fun c' => by simp only [Rep, u8shl0, byteV, IntKind.bits]; rw [wrap_u8_int]⟩
    · rename_i a
      exact ⟨_, h', shf (s := .u64 (u64shl0 a q)) hy (fun c u => rep_u64 c _ u) (fun w k' n hn hq => by rw [show binOp .shl t _ (.int k' n) = Op.shift .shl _ _ k' n from rfl, shift_shl' _ _ _ _ hn, hq]) fun c' => by simp only [Rep, u64shl0, longV, IntKind.bits]; rw [wrap_u64_int]⟩
    · rename_i a
      exact ⟨_, h', shf (s := .u32 (u32shl0 a q)) hy (fun c u => rep_u32 c _ u) (fun w k' n hn hq => by rw [show binOp .shl t _ (.int k' n) = Op.shift .shl _ _ k' n from rfl, shift_shl' _ _ _ _ hn, hq]) fun c' => by simp only [Rep, u32shl0, wordV, IntKind.bits]; rw [wrap_u32_int]⟩
    · cases h'
  · obtain ⟨q, h', hy⟩ := shiftBy_ok h
    clear h
    split at h'
    · rename_i a
      exact ⟨_, h', shf (s := .i (ishr0 a q)) hy (fun c u => rep_i c _ u) (fun w k' n hn hq => by rw [show binOp .shr t _ (.int k' n) = Op.shift .shr _ _ k' n from rfl, shift_shr' _ _ _ _ hn, hq]) fun c' => by simp only [Rep, ishr0, IntKind.bits]⟩
    · rename_i a
      refine ⟨_, h', shf (s := .u8 (u8shr0 a q)) hy (fun c u => rep_u8 c _ u) (fun w k' n hn hq => by rw [show binOp .shr t _ (.int k' n) = Op.shift .shr _ _ k' n from rfl, shift_shr' _ _ _ _ hn, hq]) fun c' => ?_⟩
      simp only [Rep, u8shr0, byteV, IntKind.bits]
      rw [UInt8.toNat_ofNat', Nat.mod_eq_of_lt (div_lt' _ _ _ (UInt8.toNat_lt _))]; simp
    · rename_i a
      refine ⟨_, h', shf (s := .u64 (u64shr0 a q)) hy (fun c u => rep_u64 c _ u) (fun w k' n hn hq => by rw [show binOp .shr t _ (.int k' n) = Op.shift .shr _ _ k' n from rfl, shift_shr' _ _ _ _ hn, hq]) fun c' => ?_⟩
      simp only [Rep, u64shr0, longV, IntKind.bits]
      rw [UInt64.toNat_ofNat', Nat.mod_eq_of_lt (div_lt' _ _ _ (UInt64.toNat_lt _))]; simp
    · rename_i a
      refine ⟨_, h', shf (s := .u32 (u32shr0 a q)) hy (fun c u => rep_u32 c _ u) (fun w k' n hn hq => by rw [show binOp .shr t _ (.int k' n) = Op.shift .shr _ _ k' n from rfl, shift_shr' _ _ _ _ hn, hq]) fun c' => ?_⟩
      simp only [Rep, u32shr0, wordV, IntKind.bits]
      rw [UInt32.toNat_ofNat', Nat.mod_eq_of_lt (div_lt' _ _ _ (UInt32.toNat_lt _))]; simp
    · cases h'
  · rename_i h1 h2
    split at h
    · rename_i a b
      have arith : ∀ (s : AV) (v' : Value), K s = some r → (∀ w, (binOp op t (.int .i64 a) (.int .i64 b)).run P w = .ok v' w) → (∀ c', Rep c' s v') → ∃ s, K s = some r ∧ BinIs P op t (.i a) (.i b) s :=
        fun s v' hs hb hr => ⟨s, hs, BinIs.int (fun c u => rep_i c _ u) (fun c u => rep_i c _ u) hb hr⟩
      split at h
      · exact arith _ _ h (fun w => by simp [binOp, Op.intArith]; rfl) (fun c' => by simp only [Rep]; rfl)
      · exact arith _ _ h (fun w => by simp [binOp, Op.intArith]; rfl) (fun c' => by simp only [Rep]; rfl)
      · exact arith _ _ h (fun w => by simp [binOp, Op.intArith]; rfl) (fun c' => by simp only [Rep]; rfl)
      · cases hb : ieq0 b 0 with
        | true => rw [hb] at h; cases h
        | false =>
          rw [hb] at h
          have hb0 : ¬ b = 0 := by simpa [ieq0] using hb
          exact arith _ (.int .i64 (iquo0 a b)) h (fun w => by simp [binOp, Op.intDiv, hb0, iquo0]) (fun c' => by simp only [Rep])
      · cases hb : ieq0 b 0 with
        | true => rw [hb] at h; cases h
        | false =>
          rw [hb] at h
          have hb0 : ¬ b = 0 := by simpa [ieq0] using hb
          exact arith _ (.int .i64 (irem0 a b)) h (fun w => by simp [binOp, Op.intDiv, hb0, irem0]) (fun c' => by simp only [Rep])
      · exact arith _ _ h (fun w => run_cmp rfl t .i64 a b) (fun c' => by simp only [Rep]; rfl)
      · exact arith _ _ h (fun w => run_cmp rfl t .i64 a b) (fun c' => by simp only [Rep]; rfl)
      · exact arith _ _ h (fun w => run_cmp rfl t .i64 a b) (fun c' => by simp only [Rep]; rfl)
      · exact arith _ _ h (fun w => run_cmp rfl t .i64 a b) (fun c' => by simp only [Rep]; rfl)
      · exact arith _ _ h (fun w => run_cmp rfl t .i64 a b) (fun c' => by simp only [Rep]; rfl)
      · exact arith _ _ h (fun w => run_cmp rfl t .i64 a b) (fun c' => by simp only [Rep]; rfl)
      · refine arith _ (.int .i64 (bits op .i64 a b)) h (fun w => ?_) (fun c' => by simp only [Rep, ibit0])
        cases op <;> first | rfl | contradiction
    · rename_i a b
      cases hb : isBop op with
      | true => rw [hb] at h; exact ⟨_, h, BinIs.int (fun c u => rep_u8 c _ u) (fun c u => rep_u8 c _ u) (fun w => run_bop8 hb t a b) fun c' => by simp only [Rep]; rfl⟩
      | false =>
        rw [hb] at h
        cases hc : isCmp op with
        | true => rw [hc] at h; exact ⟨_, h, BinIs.int (fun c u => rep_u8 c _ u) (fun c u => rep_u8 c _ u) (fun w => run_cmp hc t .u8 _ _) fun c' => by simp only [Rep]; rfl⟩
        | false => rw [hc] at h; cases h
    · rename_i a b
      cases hb : isBop op with
      | true => rw [hb] at h; exact ⟨_, h, BinIs.int (fun c u => rep_u32 c _ u) (fun c u => rep_u32 c _ u) (fun w => run_bop32 hb t a b) fun c' => by simp only [Rep]; rfl⟩
      | false =>
        rw [hb] at h
        cases hc : isCmp op with
        | true => rw [hc] at h; exact ⟨_, h, BinIs.int (fun c u => rep_u32 c _ u) (fun c u => rep_u32 c _ u) (fun w => run_cmp hc t .u32 _ _) fun c' => by simp only [Rep]; rfl⟩
        | false => rw [hc] at h; cases h
    · rename_i a b
      cases hb : isBop op with
      | true => rw [hb] at h; exact ⟨_, h, BinIs.int (fun c u => rep_u64 c _ u) (fun c u => rep_u64 c _ u) (fun w => run_bop64 hb t a b) fun c' => by simp only [Rep]; rfl⟩
      | false =>
        rw [hb] at h
        cases hc : isCmp op with
        | true => rw [hc] at h; exact ⟨_, h, BinIs.int (fun c u => rep_u64 c _ u) (fun c u => rep_u64 c _ u) (fun w => run_cmp hc t .u64 _ _) fun c' => by simp only [Rep]; rfl⟩
        | false => rw [hc] at h; cases h
    · rename_i a b
      cases hb : bt with
      | false => rw [hb] at h; cases h
      | true =>
        rw [hb] at h
        have ht := hbt hb
        simp only [cond_true] at h
        have heq : ∀ w, (Op.equal t (.bool a) (.bool b)).run P w = .ok (a == b) w := fun w => run_equal_bool (P := P) w t a b ht
        split at h
        · refine ⟨_, h, fun c u v w hx hy => ?_⟩
          simp only [Rep] at hx hy
          subst hx; subst hy
          exact ⟨fun _ _ => guard_bool _ _ _ _ _ _, .bool (a == b), by simp only [binOp, Sem.run_bind, heq, Result.andThen_ok, Sem.run_pure], by simp only [Rep]; rfl⟩
        · refine ⟨_, h, fun c u v w hx hy => ?_⟩
          simp only [Rep] at hx hy
          subst hx; subst hy
          exact ⟨fun _ _ => guard_bool _ _ _ _ _ _, .bool (!(a == b)), by simp only [binOp, Sem.run_bind, heq, Result.andThen_ok, Sem.run_pure], by simp only [Rep]; rfl⟩
        · cases h
    · rename_i a b
      have hbq : (a == b) = decide (a = b) := by rw [Bool.eq_iff_iff, beq_iff_eq, decide_eq_true_eq]
      split at h
      · refine ⟨_, h, fun c u v w hx hy => ?_⟩
        simp only [Rep] at hx hy
        subst hx; subst hy
        exact ⟨fun _ _ => guard_str _ _ _ _ _ _, .bool (decide (a = b)), by simp [binOp, Op.stringOp, ← hbq], by simp only [Rep]; rfl⟩
      · refine ⟨_, h, fun c u v w hx hy => ?_⟩
        simp only [Rep] at hx hy
        subst hx; subst hy
        exact ⟨fun _ _ => guard_str _ _ _ _ _ _, .bool (!decide (a = b)), by simp [binOp, Op.stringOp, ← hbq], by simp only [Rep]; rfl⟩
      · cases h
    · rename_i a b c d
      cases hb : e2 with
      | false => rw [hb] at h; cases h
      | true =>
        rw [hb] at h
        obtain ⟨e', E⟩ := he2 hb
        simp only [cond_true] at h
        split at h
        · refine ⟨_, h, fun cx u v w hx hy => ?_⟩
          simp only [Rep, Reps] at hx hy
          obtain ⟨us, rfl, ⟨u1, _, rfl, rfl, u2, _, rfl, rfl, rfl⟩, _⟩ := hx
          obtain ⟨vs, rfl, ⟨v1, _, rfl, rfl, v2, _, rfl, rfl, rfl⟩, _⟩ := hy
          obtain ⟨q1, q2⟩ := E.run w a b c d
          exact ⟨fun _ _ => q2 _ _ _, .bool (a == c && b == d), by simp only [binOp, Sem.run_bind, q1, Result.andThen_ok, Sem.run_pure], by simp only [Rep]; rfl⟩
        · refine ⟨_, h, fun cx u v w hx hy => ?_⟩
          simp only [Rep, Reps] at hx hy
          obtain ⟨us, rfl, ⟨u1, _, rfl, rfl, u2, _, rfl, rfl, rfl⟩, _⟩ := hx
          obtain ⟨vs, rfl, ⟨v1, _, rfl, rfl, v2, _, rfl, rfl, rfl⟩, _⟩ := hy
          obtain ⟨q1, q2⟩ := E.run w a b c d
          exact ⟨fun _ _ => q2 _ _ _, .bool (!(a == c && b == d)), by simp only [binOp, Sem.run_bind, q1, Result.andThen_ok, Sem.run_pure], by simp only [Rep]; rfl⟩
        · cases h
    · cases h
end Go.Ax
