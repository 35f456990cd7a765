/-
  Own text. Operations on slices, blocks and strings, continued. It claims nothing of any program.
-/
import Derived.Test.YtlaglaehkhmklaaDat
namespace Go.Eng
open Go Go.RowKit
set_option linter.unusedVariables false

section
variable {P : Program} {L : Lst} {w : World} {ty : TypeId} {K : SV → World → Prop} {t e sz bytes : Nat} {z : Value}

/-! ### Slices of slices -/
theorem cut_sl {a : Option Addr} {n cap lo hi mx sz : Nat} {c : List Value} (hl : c.length = n * sz) (h3 : n ≤ cap) (h4 : cap ≤ maxLen) (h5 : a = none → n = 0 ∧ cap = 0) (h6 : ∀ p, a = some p → Cs w p c)
    (b1 : lo ≤ hi) (b2 : hi ≤ n) (b3 : hi ≤ mx) (b4 : mx ≤ cap) :
    Sl w sz (.slice (if mx = lo then a else a.map (·.add (lo * sz))) (hi - lo) (mx - lo)) ((c.drop (lo * sz)).take ((hi - lo) * sz)) (hi - lo) := by
  refine ⟨_, _, rfl, ?_, by omega, by omega, ?_, ?_⟩
  · rw [List.length_take, List.length_drop, hl]
    have h1 : hi * sz ≤ n * sz := Nat.mul_le_mul_right _ b2
    rw [Nat.sub_mul]; omega
  · intro h
    split at h
    · have := h5 h; omega
    · cases a with
      | none => have := h5 rfl; omega
      | some p => simp at h
  · intro p hp
    split at hp
    · have : hi - lo = 0 := by omega
      rw [this]; simp [Cs]
    · cases a with
      | none => simp at hp
      | some q =>
        simp only [Option.map_some, Option.some.injEq] at hp
        subst hp
        exact ((h6 q rfl).drop _).take _

theorem ownBlock_cut (a : Option Addr) (m l k n c n' c' : Nat) : (Value.slice (if m = l then a else a.map (·.add k)) n c).ownBlock = (Value.slice a n' c').ownBlock := by
  by_cases h : m = l
  · rw [if_pos h]; cases a <;> rfl
  · rw [if_neg h]
    cases a with
    | none => rfl
    | some p => simp [Value.ownBlock, add_block]
theorem run_slice_op (T : SliceT P t e z sz bytes) {a : Option Addr} {n cap : Nat} (lo hi mx : Option Value) (l h m : Nat)
    (hb : (Instr.sliceBounds true n cap lo hi mx).run P w = .ok (l, h, m) w) :
    (Instr.sliceAt t (.slice a n cap) lo hi mx).run P w = .ok (.slice (if m = l then a else a.map (·.add (l * sz))) (h - l) (m - l)) w := by
  simp only [Instr.sliceAt, Sem.run_bind, run_underlying T.ht, Result.andThen_ok, Instr.slice, hb, T.run_size, Sem.run_pure]

theorem bound_ok (k : IntKind) (i : Int) (y : Nat) (code : BoundsCode) (h0 : 0 ≤ i) (h1 : i ≤ y) : (Instr.sliceBound (.int k i) y code).run P w = .ok i.toNat w := by
  simp [Instr.sliceBound, asIntOf, h0, h1]

theorem OP_slice_core {x : Operand} {v : Value} {n lo hi mx : Nat} {c : List Value} {olo ohi omx : Option Operand} (T : SliceT P t e z sz bytes) (hx : evo L x = some (.v v)) (hv : Sl w sz v c n)
    (hbd : ∀ ρ : Operand → Value, Val ρ L → ∀ cap, n ≤ cap → (Instr.sliceBounds true n cap (olo.map ρ) (ohi.map ρ) (omx.map ρ)).run P w = .ok (lo, hi, if omx.isSome then mx else cap) w)
    (b1 : lo ≤ hi) (b2 : hi ≤ n) (b3 : omx.isSome → hi ≤ mx ∧ mx ≤ n)
    (hk : ∀ v', Sl w sz v' ((c.drop (lo * sz)).take ((hi - lo) * sz)) (hi - lo) → v'.ownBlock = v.ownBlock → (omx.isSome → hi = mx → Tight v') → K (.v v') w) :
    OP P L (.slice t x olo ohi omx) ty w K := by
  obtain ⟨a, cap, rfl, hl, h3, h4, h5, h6⟩ := hv
  have hmc : hi ≤ (if omx.isSome then mx else cap) ∧ (if omx.isSome then mx else cap) ≤ cap := by
    split
    · rename_i h; have := b3 h; omega
    · omega
  refine OP_run (s := .v _) (fun ρ he => ?_) (hk _ (cut_sl hl h3 h4 h5 h6 b1 b2 hmc.1 hmc.2) (ownBlock_cut _ _ _ _ _ _ _ _) ?_)
  · have h1 : execOp ρ ⟨none, .slice t x olo ohi omx, ty, "", #[], none⟩ = (do pure (.value (← Instr.sliceAt t (ρ x) (olo.map ρ) (ohi.map ρ) (omx.map ρ)))) := rfl
    rw [h1, he x _ hx]
    simp only [Sem.run_bind, SV.den, run_slice_op T _ _ _ _ _ _ (hbd ρ he cap h3), Result.andThen_ok, Sem.run_pure]
  · intro h e
    exact ⟨_, hi - lo, by rw [if_pos h, ← e]⟩

section
variable {x l h m : Operand} {v : Value} {n : Nat} {c : List Value} {il ih im : Int}
theorem OP_slice_lh (T : SliceT P t e z sz bytes) (hx : evo L x = some (.v v)) (hv : Sl w sz v c n) (hl : evo L l = some (.v (.int .i64 il))) (hh : evo L h = some (.v (.int .i64 ih))) (b : 0 ≤ il ∧ il ≤ ih ∧ ih ≤ n)
    (hk : ∀ v', Sl w sz v' ((c.drop (il.toNat * sz)).take ((ih.toNat - il.toNat) * sz)) (ih.toNat - il.toNat) → v'.ownBlock = v.ownBlock → K (.v v') w) : OP P L (.slice t x (some l) (some h) none) ty w K :=
  OP_slice_core (mx := 0) (lo := il.toNat) (hi := ih.toNat) T hx hv (fun ρ he cap hc => by
    have e1 := he l _ hl; have e2 := he h _ hh
    simp only [Instr.sliceBounds, Option.map_some, Option.map_none, e1, e2, SV.den, Sem.run_bind, Sem.run_pure, Result.andThen_ok, Option.isSome_none, Bool.false_eq_true, if_false, if_true, bound_ok _ _ _ _ (show (0:Int) ≤ ih by omega) (show ih ≤ (cap:Int) by omega), bound_ok _ _ _ _ b.1 (show il ≤ ((ih.toNat : Nat) : Int) by omega)]) (by omega) (by omega) (by intro h; cases h) (fun v' h1 ho _ => hk v' h1 ho)
theorem OP_slice_h (T : SliceT P t e z sz bytes) (hx : evo L x = some (.v v)) (hv : Sl w sz v c n) (hh : evo L h = some (.v (.int .i64 ih))) (b : 0 ≤ ih ∧ ih ≤ n)
    (hk : ∀ v', Sl w sz v' (c.take (ih.toNat * sz)) ih.toNat → v'.ownBlock = v.ownBlock → K (.v v') w) : OP P L (.slice t x none (some h) none) ty w K :=
  OP_slice_core (mx := 0) (lo := 0) (hi := ih.toNat) T hx hv (fun ρ he cap hc => by
    have e2 := he h _ hh
    simp only [Instr.sliceBounds, Option.map_some, Option.map_none, e2, SV.den, Sem.run_bind, Sem.run_pure, Result.andThen_ok, Option.isSome_none, Bool.false_eq_true, if_false, if_true, bound_ok _ _ _ _ b.1 (show ih ≤ (cap:Int) by omega)]) (by omega) (by omega) (by intro h; cases h) (fun v' h1 ho _ => hk v' (by simpa using h1) ho)
theorem OP_slice_l (T : SliceT P t e z sz bytes) (hx : evo L x = some (.v v)) (hv : Sl w sz v c n) (hl : evo L l = some (.v (.int .i64 il))) (b : 0 ≤ il ∧ il ≤ n)
    (hk : ∀ v', Sl w sz v' (c.drop (il.toNat * sz)) (n - il.toNat) → v'.ownBlock = v.ownBlock → K (.v v') w) : OP P L (.slice t x (some l) none none) ty w K :=
  OP_slice_core (mx := 0) (lo := il.toNat) (hi := n) T hx hv (fun ρ he cap hc => by
    have e1 := he l _ hl
    simp only [Instr.sliceBounds, Option.map_some, Option.map_none, e1, SV.den, Sem.run_bind, Sem.run_pure, Result.andThen_ok, Option.isSome_none, Bool.false_eq_true, if_false, bound_ok _ _ _ _ b.1 b.2]) (by omega) (by omega) (by intro h; cases h) (fun v' h1 ho _ => hk v' (by
      have hl := hv.len
      rwa [List.take_of_length_le (by rw [List.length_drop, hl, Nat.sub_mul]; omega)] at h1) ho)
theorem OP_slice_lhm (T : SliceT P t e z sz bytes) (hx : evo L x = some (.v v)) (hv : Sl w sz v c n) (hl : evo L l = some (.v (.int .i64 il))) (hh : evo L h = some (.v (.int .i64 ih))) (hm : evo L m = some (.v (.int .i64 im))) (b : 0 ≤ il ∧ il ≤ ih ∧ ih = im ∧ im ≤ n)
    (hk : ∀ v', Sl w sz v' ((c.drop (il.toNat * sz)).take ((ih.toNat - il.toNat) * sz)) (ih.toNat - il.toNat) → v'.ownBlock = v.ownBlock → Tight v' → K (.v v') w) : OP P L (.slice t x (some l) (some h) (some m)) ty w K :=
  OP_slice_core (mx := im.toNat) (lo := il.toNat) (hi := ih.toNat) T hx hv (fun ρ he cap hc => by
    have e1 := he l _ hl; have e2 := he h _ hh; have e3 := he m _ hm
    simp only [Instr.sliceBounds, Option.map_some, e1, e2, e3, SV.den, Sem.run_bind, Sem.run_pure, Result.andThen_ok, Option.isSome_some, if_true, bound_ok _ _ _ _ (show (0:Int) ≤ im by omega) (show im ≤ (cap:Int) by omega), bound_ok _ _ _ _ (show (0:Int) ≤ ih by omega) (show ih ≤ ((im.toNat : Nat):Int) by omega), bound_ok _ _ _ _ b.1 (show il ≤ ((ih.toNat : Nat) : Int) by omega)]) (by omega) (by omega) (by intro h; omega) (fun v' h1 ho h2 => hk v' h1 ho (h2 rfl (by omega)))
theorem OP_slice_hm (T : SliceT P t e z sz bytes) (hx : evo L x = some (.v v)) (hv : Sl w sz v c n) (hh : evo L h = some (.v (.int .i64 ih))) (hm : evo L m = some (.v (.int .i64 im))) (b : 0 ≤ ih ∧ ih = im ∧ im ≤ n)
    (hk : ∀ v', Sl w sz v' (c.take (ih.toNat * sz)) ih.toNat → v'.ownBlock = v.ownBlock → Tight v' → K (.v v') w) : OP P L (.slice t x none (some h) (some m)) ty w K :=
  OP_slice_core (mx := im.toNat) (lo := 0) (hi := ih.toNat) T hx hv (fun ρ he cap hc => by
    have e2 := he h _ hh; have e3 := he m _ hm
    simp only [Instr.sliceBounds, Option.map_some, Option.map_none, e2, e3, SV.den, Sem.run_bind, Sem.run_pure, Result.andThen_ok, Option.isSome_some, if_true, bound_ok _ _ _ _ (show (0:Int) ≤ im by omega) (show im ≤ (cap:Int) by omega), bound_ok _ _ _ _ (show (0:Int) ≤ ih by omega) (show ih ≤ ((im.toNat : Nat):Int) by omega)]) (by omega) (by omega) (by intro h; omega) (fun v' h1 ho h2 => hk v' (by simpa using h1) ho (h2 rfl (by omega)))
end

/-! ### Elements -/
theorem OP_ix {x j : Operand} {v : Value} {n : Nat} {c : List Value} {i : Int} {k : IntKind} {sj : SV} (T : SliceT P t e z sz bytes) (hx : evo L x = some (.v v)) (hv : Sl w sz v c n) (hj : evo L j = some sj) (ej : sj.num = some (k, i)) (b : 0 ≤ i ∧ i < n)
    (hk : ∀ p, Cs w p ((c.drop (i.toNat * sz)).take sz) → K (.v (.pointer (some p))) w) : OP P L (.indexAddr t x j) ty w K := by
  obtain ⟨a, cap, rfl, hl, h3, h4, h5, h6⟩ := hv
  cases a with
  | none => have := h5 rfl; omega
  | some q =>
    refine OP_run (s := .v _) (fun ρ he => ?_) (hk (q.add (i.toNat * sz)) (((h6 q rfl).drop _).take _))
    have h1 : execOp ρ ⟨none, .indexAddr t x j, ty, "", #[], none⟩ = (do pure (.value (← Instr.indexAt t (ρ x) (ρ j)))) := rfl
    rw [h1, he x _ hx, (he j _ hj).trans (SV.num_den ej)]
    simp only [Instr.indexAt, asIntOf, Sem.run_bind, Sem.run_pure, Result.andThen_ok, run_underlying T.ht, SV.den]
    rw [if_pos b]
    simp [T.run_size]
/-- an element of one cell -/
theorem OP_ix1 {x j : Operand} {v : Value} {n : Nat} {c : List Value} {i : Int} {k : IntKind} {sj : SV} {z : Value} (T : SliceT P t e z 1 bytes) (hx : evo L x = some (.v v)) (hv : Sl w 1 v c n) (hj : evo L j = some sj) (ej : sj.num = some (k, i)) (b : 0 ≤ i ∧ i < n)
    (hk : ∀ p u, c[i.toNat]? = some u → w.cell? p = some u → K (.v (.pointer (some p))) w) : OP P L (.indexAddr t x j) ty w K :=
  OP_ix T hx hv hj ej b fun p hp => by
    have hl := hv.len
    have hlt : i.toNat < c.length := by omega
    refine hk p _ (List.getElem?_eq_getElem hlt) ?_
    have := hp 0 c[i.toNat] (by rw [Nat.mul_one, List.getElem?_take_of_lt (by omega), List.getElem?_drop]; simp)
    simpa [Addr.add] using this

def plainT (d : TypeDesc) : Bool := match d with | .struct _ | .array _ _ => false | _ => true
theorem run_loadVar_one {d : TypeDesc} (ht : P.underlying t = some d) (hd : plainT d = true) {p : Addr} {u : Value} (hc : w.cell? p = some u) : (loadVar t p).run P w = .ok u w := by
  have h1 : (isAgg t).run P w = .ok false w := by
    simp only [isAgg, Sem.run_bind, run_underlying ht, Result.andThen_ok]
    cases d <;> first | (cases hd; done) | rfl
  simp [loadVar, h1, hc]
theorem OP_load {x : Operand} {p : Addr} {u : Value} {s : SV} {d : TypeDesc} (ht : P.underlying t = some d) (hd : plainT d = true) (hx : evo L x = some (.v (.pointer (some p)))) (hc : w.cell? p = some u) (es : s.den = u) (hk : K s w) : OP P L (.load t x) ty w K :=
  OP_run (fun ρ he => by
    have h1 : execOp ρ ⟨none, .load t x, ty, "", #[], none⟩ = (do pure (.value (← Instr.loadAt t (ρ x)))) := rfl
    rw [h1, he x _ hx, es, show (SV.v (.pointer (some p))).den = .pointer (some p) from rfl]
    simp [Instr.loadAt, Instr.sureAddr, run_loadVar_one ht hd hc]) hk
theorem OP_nilCheck {x : Operand} {p : Addr} (hx : evo L x = some (.v (.pointer (some p)))) (hk : K (.v (.pointer (some p))) w) : OP P L (.nilCheck x) ty w K :=
  OP_run (fun ρ he => by
    have h1 := he x _ hx
    simp [execOp, h1, SV.den]) hk

/-! ### Making slices -/
theorem OP_make0 {l c : Operand} {base n : Nat} (T : SliceT P t e z sz bytes) (hl : evo L l = some (.v (.int .i64 0))) (hc : evo L c = some (.v (.int .i64 (n : Int)))) (hb : bytes * n ≤ 281474976710656 ∧ n ≤ maxLen) (hbase : base ≤ w.heap.size)
    (hk : ∀ v' w', w'.ownsRow base e sz v' 0 [] → Ext w w' → K (.v v') w') : OP P L (.makeSlice t l c) ty w K := by
  obtain ⟨i, hi, hz, hsize, hby⟩ := info_parts T.hi
  obtain ⟨w', hrun, r1, r2⟩ := run_make_own (P := P) w base t e i z sz T.ht hi hz hsize .i64 .i64 n (by rw [hby]; exact hb.1) hb.2 hbase
  refine OP_run (s := .v _) (fun ρ he => ?_) (hk _ w' r1 ((Below.refl _ _).grown r2 (Nat.le_refl _) (fun k hk => by cases hk)))
  have h1 : execOp ρ ⟨none, .makeSlice t l c, ty, "", #[], none⟩ = (do pure (.value (← Instr.makeSlice t (ρ l) (ρ c)))) := rfl
  rw [h1, he l _ hl, he c _ hc]
  simp only [SV.den, Sem.run_bind, hrun, Result.andThen_ok, Sem.run_pure]
theorem OP_make {l c : Operand} {base n : Nat} (T : SliceT P t e z sz bytes) (hl : evo L l = some (.v (.int .i64 (n : Int)))) (hc : evo L c = some (.v (.int .i64 (n : Int)))) (hb : bytes * n ≤ 281474976710656 ∧ n ≤ maxLen) (hbase : base ≤ w.heap.size)
    (hk : ∀ v' w', w'.ownsRow base e sz v' n (madeCells z.cells (n * sz)).toList → Tight v' → v'.ownBlock = some w.heap.size → Ext w w' → K (.v v') w') : OP P L (.makeSlice t l c) ty w K := by
  obtain ⟨i, hi, hz, hsize, hby⟩ := info_parts T.hi
  obtain ⟨w', hrun, r1, r2⟩ := run_make_full (P := P) w base t e i z sz T.ht hi hz hsize .i64 .i64 n (by rw [hby]; exact hb.1) hb.2 hbase
  refine OP_run (s := .v _) (fun ρ he => ?_) (hk _ w' r1 ⟨_, _, rfl⟩ rfl ((Below.refl _ _).grown r2 (Nat.le_refl _) (fun k hk => by cases hk)))
  have h1 : execOp ρ ⟨none, .makeSlice t l c, ty, "", #[], none⟩ = (do pure (.value (← Instr.makeSlice t (ρ l) (ρ c)))) := rfl
  rw [h1, he l _ hl, he c _ hc]
  simp only [SV.den, Sem.run_bind, hrun, Result.andThen_ok, Sem.run_pure]

/-- the parts of a literal, in order from k on -/
def evparts (L : Lst) (k : Nat) : List (Nat × Operand) → Option (List SV)
  | [] => some []
  | (i, x) :: r => bif Nat.beq i k then (match evo L x, evparts L (k + 1) r with | some s, some ss => some (s :: ss) | _, _ => none) else none

theorem evparts_val {ρ : Operand → Value} (he : Val ρ L) : ∀ (ps : List (Nat × Operand)) (k : Nat) (ss : List SV), evparts L k ps = some ss → (ps.map fun (i, x) => (i, ρ x)) = (((ss.map SV.den).zipIdx k).map fun (v, i) => (i, v)) := by
  intro ps
  induction ps with
  | nil => intro k ss h; simp only [evparts, Option.some.injEq] at h; subst h; rfl
  | cons p r ih =>
    intro k ss h
    obtain ⟨i, x⟩ := p
    simp only [evparts] at h
    cases hb : Nat.beq i k with
    | false => rw [hb] at h; cases h
    | true =>
      rw [hb] at h
      have hik : i = k := by simpa using hb
      subst hik
      simp only [cond_true] at h
      split at h
      · rename_i s ss' h1 h2
        obtain rfl := Option.some.inj h
        simp only [List.map_cons, List.zipIdx_cons, ih _ _ h2, he x s h1]
      · cases h

theorem fill_ones (vs : List Value) (h1 : ∀ v ∈ vs, v.oneCell' = true) : ∀ (k : Nat) (cells : Array Value), cells.size = k + vs.length →
    Instr.fill (fun i => some (i * 1, 1)) cells ((vs.zipIdx k).map fun (v, i) => (i, v)) = some (cells.toList.take k ++ vs).toArray := by
  induction vs with
  | nil =>
    intro k cells hs
    simp only [List.length_nil, Nat.add_zero] at hs
    simp only [List.zipIdx_nil, List.map_nil, Instr.fill, List.append_nil]
    rw [List.take_of_length_le (by simp [hs])]
  | cons v r ih =>
    intro k cells hs
    have hv : v.cells = #[v] := by
      have := h1 v (by simp)
      cases v <;> first | rfl | (simp [Value.oneCell'] at this)
    simp only [List.length_cons] at hs
    simp only [List.zipIdx_cons, List.map_cons, Instr.fill, hv, Nat.mul_one]
    rw [if_neg (by simp; omega)]
    have hz : (#[v].zipIdx.foldl (fun cs (x : Value × Nat) => match x with | (c, j) => cs.setIfInBounds (k + j) c) cells) = cells.setIfInBounds k v := rfl
    have := ih (fun v hv => h1 v (by simp [hv])) (k + 1) (cells.setIfInBounds k v) (by simp; omega)
    simp only [Nat.mul_one] at this
    refine Eq.trans (b := _) ?_ (this.trans ?_)
    · rfl
    · congr 2
      rw [Array.toList_setIfInBounds, List.take_succ_eq_append_getElem (by simp; omega)]
      simp [List.take_set_of_le (Nat.le_refl k)]

theorem OP_lit {parts : Array (Nat × Operand)} {len base : Nat} {ss : List SV} {z : Value} (T : SliceT P t e z 1 bytes) (hp : evparts L 0 parts.toList = some ss) (hlen : Nat.beq ss.length len = true) (h1 : ∀ s ∈ ss, s.den.oneCell' = true) (hmax : Nat.ble len 16777216 = true) (hbase : base ≤ w.heap.size)
    (hk : ∀ v' w', w'.ownsRow base e 1 v' len (ss.map SV.den) → Tight v' → v'.ownBlock = some w.heap.size → Ext w w' → K (.v v') w') : OP P L (.buildSlice t len parts) ty w K := by
  have hlen : ss.length = len := by simpa using hlen
  have hmax : len ≤ 16777216 := by simpa using hmax
  obtain ⟨i, hi, hz, hsize, hby⟩ := info_parts T.hi
  have hown : (w.alloc (.cells (ss.map SV.den).toArray e)).ownsRow base e 1 (.slice (some ⟨w.heap.size, 0, none⟩) len len) len (ss.map SV.den) := by
    refine ⟨by simp [hlen], .inr ⟨w.heap.size, len, _, rfl, hbase, heap_alloc_new w _, Nat.le_refl _, by simp [maxLen]; omega, by simp [hlen], ?_⟩⟩
    rw [List.take_of_length_le (by simp [hlen])]
  refine OP_run (s := .v _) (fun ρ he => ?_) (hk _ _ hown ⟨_, _, rfl⟩ rfl (Ext.alloc w _))
  have h2 : execOp ρ ⟨none, .buildSlice t len parts, ty, "", #[], none⟩ = (do pure (.value (← Instr.buildSlice t len (parts.map fun (i, x) => (i, ρ x))))) := rfl
  have hps : (parts.map fun (i, x) => (i, ρ x)).toList = ((ss.map SV.den).zipIdx 0).map fun (v, i) => (i, v) := by
    rw [Array.toList_map]; exact evparts_val he _ _ _ hp
  have hzc : z.cells.size = 1 := T.hzs
  have hfill : ∀ cells : Array Value, cells.size = len → Instr.fill (fun i => some (i * 1, 1)) cells (((ss.map SV.den).zipIdx 0).map fun (v, i) => (i, v)) = some (ss.map SV.den).toArray := by
    intro cells hs
    have := fill_ones (ss.map SV.den) (by intro v hv; obtain ⟨s, hs, rfl⟩ := List.mem_map.1 hv; exact h1 s hs) 0 cells (by simp [hlen, hs])
    simpa using this
  rw [h2]
  simp only [Instr.buildSlice, Sem.run_bind, run_underlying T.ht, Result.andThen_ok, T.run_size, Nat.mul_one]
  rw [if_neg (by omega)]
  have hf := hfill ((Array.range len).map (z.cells[· % z.cells.size]!)) (by simp)
  simp only [Nat.mul_one] at hf
  by_cases h0 : len = 0
  · have hf0 := hfill #[] (by simp [h0])
    have hr0 : (Array.range len) = #[] := by rw [h0]; rfl
    simp only [Nat.mul_one] at hf0
    simp only [if_pos h0, Sem.run_bind, Sem.run_pure, Result.andThen_ok, hps, hr0, List.map_toArray, List.map_nil]
    rw [hf0]
    simp [newRow, SV.den]
  · simp only [if_neg h0, Sem.run_bind, zeroValue, typeInfo, run_program, hi, Result.andThen_ok, hz, Sem.run_pure, hps]
    rw [hf]
    simp [newRow, SV.den]

/-! ### Strings -/
theorem OP_str {x : Operand} {v : Value} {l : List UInt8} {src dst : TypeId} (hs : P.underlying src = some (.slice e)) (he : P.underlying e = some (.int .u8)) (hd : P.underlying dst = some .string) (hx : evo L x = some (.v v)) (hv : Bytes w v l)
    (hk : K (.v (.string ⟨l.toArray⟩)) w) : OP P L (.convert src dst x) ty w K := by
  obtain ⟨a, cap, rfl, hl, h3, h4, h5, h6⟩ := hv
  refine OP_run (fun ρ hρ => ?_) hk
  have h1 : execOp ρ ⟨none, .convert src dst x, ty, "", #[], none⟩ = (do pure (.value (← convert src dst (ρ x)))) := rfl
  rw [h1, hρ x _ hx]
  have hconv : (Conv.bytesToString (.slice a l.length cap)).run P w = .ok (.string ⟨l.toArray⟩) w := by
    cases a with
    | none =>
      have : l = [] := List.eq_nil_of_length_eq_zero (h5 rfl).1
      subst this
      rfl
    | some p =>
      have hcs := h6 p rfl
      have hload : (loadCells p l.length).run P w = .ok (l.map byteV).toArray w := by
        have := run_loadCells_list (P := P) (w := w) p (l.map byteV) hcs
        simpa using this
      have hm : (l.map byteV) = (l.map fun b => (b.toNat : Int)).map (Value.int .u8) := by simp [byteV]
      rw [hm] at hload
      rw [run_bytesToString w p _ cap _ hload, foldl_push_bytes]
      congr 2
      have : (List.map (fun n : Int => UInt8.ofNat n.toNat) (l.map fun b => (b.toNat : Int))) = l := by
        rw [List.map_map]; refine (List.map_congr_left (g := id) ?_).trans (List.map_id l); intro b _; simp
      rw [this]
      show (⟨ByteArray.empty.data ++ l.toArray⟩ : ByteArray) = _
      congr 1
      show #[] ++ l.toArray = _
      simp
  simp only [Sem.run_bind, convert, run_underlying hs, run_underlying hd, run_underlying he, Result.andThen_ok, SV.den, hconv, Sem.run_pure]
end
end Go.Eng
