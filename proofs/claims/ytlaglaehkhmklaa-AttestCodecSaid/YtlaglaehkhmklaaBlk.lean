/-
  Own text. Blocks (variables and arrays of the call's own), calls, tuples, and the rules for drawn regions in the form that walks use. It claims nothing of any program.
-/
import Derived.Test.YtlaglaehkhmklaaDrw
namespace Go.Eng
open Go Go.RowKit
set_option linter.unusedVariables false

/-- block b holds just these cells -/
def Blk (w : World) (b : Nat) (cells : List Value) : Prop := ∃ T, w.heap[b]? = some (.cells cells.toArray T (0, 0))
theorem Blk.lt {w : World} {b : Nat} {c : List Value} (h : Blk w b c) : b < w.heap.size := by
  obtain ⟨T, h⟩ := h; exact (Array.getElem?_eq_some_iff.1 h).1
theorem Blk.ext {w w' : World} {b : Nat} {c : List Value} (h : Blk w b c) (he : Ext w w') : Blk w' b c := by
  have hl := h.lt
  obtain ⟨T, h⟩ := h; exact ⟨T, by rw [he.block b hl]; exact h⟩
theorem Blk.grown {w w' : World} {b : Nat} {c : List Value} {r : Option Nat} (h : Blk w b c) (hg : w.grownBy w' r) (hne : r ≠ some b) : Blk w' b c := by
  have hl := h.lt
  obtain ⟨T, h⟩ := h; exact ⟨T, by rw [hg.block b hl (fun e => hne e.symm)]; exact h⟩
theorem Blk.cell {w : World} {b : Nat} {c : List Value} (h : Blk w b c) {j : Nat} {u : Value} (hu : c[j]? = some u) : w.cell? ⟨b, j, none⟩ = some u := by
  obtain ⟨T, h⟩ := h; simp [World.cell?, h, hu]
theorem Blk.frozen {w : World} {b : Nat} {c : List Value} (h : Blk w b c) (j : Nat) : w.frozen? ⟨b, j, none⟩ = false := by
  obtain ⟨T, h⟩ := h; simp [World.frozen?, h]
theorem Blk.cs {w : World} {b : Nat} {c : List Value} (h : Blk w b c) (j : Nat) : Cs w ⟨b, j, none⟩ (c.drop j) := fun i u hu => by
  rw [Addr.add_lit]; exact h.cell (by rw [← hu, List.getElem?_drop])
theorem Blk.set {w : World} {b : Nat} {c : List Value} (h : Blk w b c) (j : Nat) (u : Value) : Blk (w.setCell ⟨b, j, none⟩ u) b (c.set j u) := by
  obtain ⟨T, h⟩ := h
  refine ⟨T, ?_⟩
  simp only [World.setCell, Array.getElem?_modify, ↓reduceIte, h, Option.map_some]
  simp
theorem grownBy_setCell (w : World) (b j : Nat) (u : Value) : w.grownBy (w.setCell ⟨b, j, none⟩ u) (some b) :=
  ⟨rfl, rfl, rfl, by simp, fun k hk hne => Below.heap_setCell w _ _ k (fun e => hne (by rw [e]))⟩
theorem Blk.setRow {w : World} {b : Nat} {c c' : List Value} (h : Blk w b c) : Blk (w.setRow b c'.toArray) b c' := by
  obtain ⟨T, h⟩ := h; exact ⟨T, setRow_heap w b _ _ T _ h⟩
theorem grownBy_setRow (w : World) (b : Nat) (c : Array Value) : w.grownBy (w.setRow b c) (some b) := by
  refine ⟨rfl, rfl, rfl, by simp [World.setRow], fun k hk hne => ?_⟩
  simp only [World.setRow, Array.getElem?_modify]
  rw [if_neg (fun e => hne (by rw [e]))]
theorem Blk.sl {w : World} {b : Nat} {c : List Value} {sz n : Nat} (h : Blk w b c) (hl : c.length = n * sz) (hm : n ≤ maxLen) : Sl w sz (.slice (some ⟨b, 0, none⟩) n n) c n :=
  ⟨_, n, rfl, hl, Nat.le_refl _, hm, (fun h => by cases h), fun p hp => by obtain rfl := Option.some.inj hp; have := h.cs 0; simpa using this⟩

section
variable {P : Program} {L : Lst} {w : World} {ty : TypeId} {K : SV → World → Prop} {t e : Nat}

theorem OP_alloc {z : Value} (hz : (P.info? t).map (·.zero) = some (some z)) (hk : ∀ b w', Blk w' b z.cells.toList → w.heap.size ≤ b → Ext w w' → K (.v (.pointer (some ⟨b, 0, none⟩))) w') : OP P L (.alloc t) ty w K := by
  obtain ⟨i, hi, hzi⟩ := Option.map_eq_some_iff.1 hz
  refine OP_run (s := .v _) (fun ρ he => ?_) (hk w.heap.size (w.alloc (.cells z.cells t)) ⟨t, by rw [heap_alloc_new]⟩ (Nat.le_refl _) (Ext.alloc w _))
  have h1 : execOp ρ ⟨none, .alloc t, ty, "", #[], none⟩ = (do pure (.value (← Instr.alloc t true (.tuple #[])))) := rfl
  rw [h1]
  simp [Instr.alloc, zeroValue, typeInfo, hi, hzi, newVar, newRow, SV.den]
theorem OP_box {x : Operand} {s : SV} (hx : evo L x = some s) (hk : ∀ b w', Blk w' b s.den.cells.toList → w.heap.size ≤ b → Ext w w' → K (.v (.pointer (some ⟨b, 0, none⟩))) w') : OP P L (.box t x) ty w K := by
  refine OP_run (s := .v _) (fun ρ he => ?_) (hk w.heap.size (w.alloc (.cells s.den.cells t)) ⟨t, by rw [heap_alloc_new]⟩ (Nat.le_refl _) (Ext.alloc w _))
  have h1 : execOp ρ ⟨none, .box t x, ty, "", #[], none⟩ = (do pure (.value (← Instr.box t (ρ x)))) := rfl
  rw [h1, he x _ hx]
  simp [Instr.box, newVar, newRow, SV.den]

structure ArrT (P : Program) (t n e : Nat) : Prop where
  ht : P.underlying t = some (.array n e)
  h1 : (P.info? e).map (·.size) = some 1
theorem run_size_one (h : (P.info? e).map (·.size) = some 1) (w : World) : (sizeOf e).run P w = .ok 1 w := by
  obtain ⟨i, hi, hs⟩ := Option.map_eq_some_iff.1 h
  simp [sizeOf, typeInfo, hi, hs]
/-- the address of an element of an array variable -/
theorem OP_ixa {x j : Operand} {b o n : Nat} {i : Int} {k : IntKind} {sj : SV} (T : ArrT P t n e) (hx : evo L x = some (.v (.pointer (some ⟨b, o, none⟩)))) (hj : evo L j = some sj) (ej : sj.num = some (k, i)) (hb : 0 ≤ i ∧ i < n)
    (hk : K (.v (.pointer (some ⟨b, o + i.toNat, none⟩))) w) : OP P L (.indexAddr t x j) ty w K := by
  refine OP_run (fun ρ he => ?_) hk
  have h1 : execOp ρ ⟨none, .indexAddr t x j, ty, "", #[], none⟩ = (do pure (.value (← Instr.indexAt t (ρ x) (ρ j)))) := rfl
  rw [h1, he x _ hx, (he j _ hj).trans (SV.num_den ej)]
  simp only [Instr.indexAt, asIntOf, Sem.run_bind, Sem.run_pure, Result.andThen_ok, run_underlying T.ht, SV.den, Instr.sureAddr]
  rw [if_pos hb]
  simp [run_size_one T.h1, Addr.add_lit]

/-- a store into a block -/
theorem OP_store {x y : Operand} {b j : Nat} {c : List Value} {s : SV} {d : TypeDesc} (hsz : (P.info? t).map (·.size) = some 1) (hx : evo L x = some (.v (.pointer (some ⟨b, j, none⟩)))) (hy : evo L y = some s) (h1 : s.den.oneCell' = true) (hb : Blk w b c) (hj : j < c.length)
    (hk : ∀ s' w', Blk w' b (c.set j s.den) → w.grownBy w' (some b) → K s' w') : OP P L (.store t x y) ty w K := by
  intro ρ he
  unfold opw
  have h2 : execOp ρ ⟨none, .store t x y, ty, "", #[], none⟩ = (do Instr.storeAt t (ρ x) (ρ y); pure .skip) := rfl
  have hcells : s.den.cells = #[s.den] := by
    cases hd : s.den <;> first | rfl | (rw [hd] at h1; cases h1)
  rw [h2, he x _ hx, he y _ hy]
  generalize s.den = u at h1 hk hcells
  have hst : (store (⟨b, j, none⟩ : Addr) u).run P w = .ok () (w.setCell ⟨b, j, none⟩ u) := by
    rw [run_store P w _ _ _ h1, hb.cell (List.getElem?_eq_getElem hj), hb.frozen]
    simp
  have hrun : (Instr.storeAt t (SV.v (.pointer (some ⟨b, j, none⟩))).den u).run P w = .ok () (w.setCell ⟨b, j, none⟩ u) := by
    simp only [Instr.storeAt, SV.den, Instr.sureAddr, Sem.run_bind, Sem.run_pure, Result.andThen_ok, storeVar, hcells, run_size_one hsz]
    simp [storeCells, hst, Addr.add]
  simp only [Sem.run_bind, hrun, Result.andThen_ok, Sem.run_pure]
  exact ⟨.v undef, rfl, hk _ _ (hb.set j _) (grownBy_setCell w b j _)⟩

/-- a whole array out of a block, and into it -/
theorem OP_loada {x : Operand} {b n : Nat} {c : List Value} {d : TypeDesc} (ht : P.underlying t = some d) (hd : plainT d = false) (hsz : (P.info? t).map (·.size) = some n) (hx : evo L x = some (.v (.pointer (some ⟨b, 0, none⟩)))) (hb : Blk w b c) (hn : c.length = n)
    (hk : K (.v (.agg c.toArray)) w) : OP P L (.load t x) ty w K := by
  refine OP_run (fun ρ he => ?_) hk
  obtain ⟨i, hi, hs⟩ := Option.map_eq_some_iff.1 hsz
  have h1 : execOp ρ ⟨none, .load t x, ty, "", #[], none⟩ = (do pure (.value (← Instr.loadAt t (ρ x)))) := rfl
  have hagg : (isAgg t).run P w = .ok true w := by
    simp only [isAgg, Sem.run_bind, run_underlying ht, Result.andThen_ok]
    cases d <;> first | (cases hd; done) | rfl
  have hl : (loadCells ⟨b, 0, none⟩ n).run P w = .ok c.toArray w := by
    have := run_loadCells_list (P := P) (w := w) ⟨b, 0, none⟩ c (by have := hb.cs 0; rw [List.drop_zero] at this; exact this)
    rw [hn] at this; exact this
  rw [h1, he x _ hx]
  simp [Instr.loadAt, Instr.sureAddr, SV.den, loadVar, hagg, sizeOf, typeInfo, hi, hs, hl]
theorem OP_storea {x y : Operand} {b n : Nat} {c c' : List Value} {d : TypeDesc} (hsz : (P.info? t).map (·.size) = some n) (hx : evo L x = some (.v (.pointer (some ⟨b, 0, none⟩)))) (hy : evo L y = some (.v (.agg c'.toArray))) (h1 : ∀ u ∈ c', u.oneCell' = true) (hb : Blk w b c) (hn : c.length = n) (hn' : c'.length = n)
    (hk : ∀ s' w', Blk w' b c' → w.grownBy w' (some b) → K s' w') : OP P L (.store t x y) ty w K := by
  intro ρ he
  unfold opw
  obtain ⟨i, hi, hs⟩ := Option.map_eq_some_iff.1 hsz
  have h2 : execOp ρ ⟨none, .store t x y, ty, "", #[], none⟩ = (do Instr.storeAt t (ρ x) (ρ y); pure .skip) := rfl
  rw [h2, he x _ hx, he y _ hy]
  obtain ⟨T, hT⟩ := id hb
  have hst := run_storeCells_at P b 0 T c' 0 c.toArray w hT (by simp; omega) h1
  simp only [Nat.add_zero, Nat.zero_add, List.take_zero, List.nil_append] at hst
  have hdrop : c.toArray.toList.drop c'.length = [] := List.drop_of_length_le (by simp; omega)
  rw [hdrop, List.append_nil] at hst
  have hrun : (Instr.storeAt t (SV.v (.pointer (some ⟨b, 0, none⟩))).den (SV.v (.agg c'.toArray)).den).run P w = .ok () (w.setRow b c'.toArray) := by
    simp only [Instr.storeAt, SV.den, Instr.sureAddr, Sem.run_bind, Sem.run_pure, Result.andThen_ok, storeVar, sizeOf, typeInfo, run_program, hi, hs, Value.cells]
    simp [hn', hst]
  simp only [Sem.run_bind, hrun, Result.andThen_ok, Sem.run_pure]
  exact ⟨.v undef, rfl, hk _ _ hb.setRow (grownBy_setRow w b _)⟩

/-- an array's value out of its parts -/
theorem OP_builda {parts : Array (Nat × Operand)} {n : Nat} {ss : List SV} {z : Value} (T : ArrT P t n e) (hz : (P.info? t).map (·.zero) = some (some z)) (hzn : z.cells.size = n) (hp : evparts L 0 parts.toList = some ss) (hlen : ss.length = n) (h1 : ∀ s ∈ ss, s.den.oneCell' = true)
    (hk : K (.v (.agg (ss.map SV.den).toArray)) w) : OP P L (.build t parts) ty w K := by
  refine OP_run (fun ρ he => ?_) hk
  obtain ⟨i, hi, hzi⟩ := Option.map_eq_some_iff.1 hz
  have h2 : execOp ρ ⟨none, .build t parts, ty, "", #[], none⟩ = (do pure (.value (← Instr.build t (parts.map fun (i, x) => (i, ρ x))))) := rfl
  have hps : (parts.map fun (i, x) => (i, ρ x)).toList = ((ss.map SV.den).zipIdx 0).map fun (v, i) => (i, v) := by
    rw [Array.toList_map]; exact evparts_val he _ _ _ hp
  have hf := fill_ones (ss.map SV.den) (by intro v hv; obtain ⟨s, hs, rfl⟩ := List.mem_map.1 hv; exact h1 s hs) 0 z.cells (by simp [hlen, hzn])
  simp only [Nat.mul_one, List.take_zero, List.nil_append] at hf
  rw [h2]
  simp only [Instr.build, Sem.run_bind, zeroValue, typeInfo, run_program, hi, Result.andThen_ok, hzi, Sem.run_pure, run_underlying T.ht, run_size_one T.h1, hps, Nat.mul_one, hf, SV.den]

/-- 'a[:]' of an array variable -/
theorem OP_slicea {x : Operand} {b n : Nat} (T : ArrT P t n e) (hx : evo L x = some (.v (.pointer (some ⟨b, 0, none⟩)))) (hk : K (.v (.slice (some ⟨b, 0, none⟩) n n)) w) : OP P L (.slice t x none none none) ty w K := by
  refine OP_run (fun ρ he => ?_) hk
  have h1 : execOp ρ ⟨none, .slice t x none none none, ty, "", #[], none⟩ = (do pure (.value (← Instr.sliceAt t (ρ x) none none none))) := rfl
  rw [h1, he x _ hx]
  simp only [Instr.sliceAt, SV.den, Sem.run_bind, run_underlying T.ht, Result.andThen_ok, Instr.sureAddr, Sem.run_pure, Instr.sliceBounds, run_size_one T.h1]
  simp [Addr.add]

/-- the address of an element of a slice whose array is known -/
theorem OP_ixk {x j : Operand} {p : Addr} {n cap sz bytes : Nat} {i : Int} {k : IntKind} {sj : SV} {z : Value} (T : SliceT P t e z sz bytes) (hx : evo L x = some (.v (.slice (some p) n cap))) (hj : evo L j = some sj) (ej : sj.num = some (k, i)) (b : 0 ≤ i ∧ i < n)
    (hk : K (.v (.pointer (some (p.add (i.toNat * sz))))) w) : OP P L (.indexAddr t x j) ty w K := by
  refine OP_run (fun ρ he => ?_) hk
  have h1 : execOp ρ ⟨none, .indexAddr t x j, ty, "", #[], none⟩ = (do pure (.value (← Instr.indexAt t (ρ x) (ρ j)))) := rfl
  rw [h1, he x _ hx, (he j _ hj).trans (SV.num_den ej)]
  simp only [Instr.indexAt, asIntOf, Sem.run_bind, Sem.run_pure, Result.andThen_ok, run_underlying T.ht, SV.den]
  rw [if_pos b]
  simp [T.run_size]

/-! ### Tuples, calls -/
theorem OP_extract {x : Operand} {vs : Array Value} {i : Nat} {u : Value} (hx : evo L x = some (.v (.tuple vs))) (hu : vs[i]? = some u) (hk : K (.v u) w) : OP P L (.extract x i) ty w K :=
  OP_run (fun ρ he => by
    have h1 : execOp ρ ⟨none, .extract x i, ty, "", #[], none⟩ = (do pure (.value (← Instr.extract (ρ x) i))) := rfl
    rw [h1, he x _ hx]
    simp [Instr.extract, SV.den, hu]) hk

def evs (L : Lst) : List Operand → Option (List SV)
  | [] => some []
  | x :: r => match evo L x, evs L r with | some s, some ss => some (s :: ss) | _, _ => none
theorem evs_val {ρ : Operand → Value} (he : Val ρ L) : ∀ (xs : List Operand) (ss : List SV), evs L xs = some ss → xs.map ρ = ss.map SV.den := by
  intro xs
  induction xs with
  | nil => intro ss h; simp only [evs, Option.some.injEq] at h; subst h; rfl
  | cons x r ih =>
    intro ss h
    simp only [evs] at h
    split at h
    · rename_i s ss' h1 h2
      obtain rfl := Option.some.inj h
      rw [List.map_cons, List.map_cons, ih _ h2, he x s h1]
    · cases h

/-- function f is entered when it is called -/
def Ent (P : Program) (f : FuncId) : Prop := ∀ args w, (callFunc f args).run P w = .ok (.enter f args) w
theorem Ent.mk {f : FuncId} {fn : Func} {c : Code} (hf : P.funcs[f]? = some fn) (hn : (fn.name == "runtime.NumGoroutine") = false) (hb : fn.body = some c) : Ent P f := by
  intro args w
  have hn' : fn.name ≠ "runtime.NumGoroutine" := by simpa using hn
  simp [callFunc, hf, hn', hb]

theorem OP_callv {fx : Operand} {xs : Array Operand} {ats : Array TypeId} {f : FuncId} {first cap : Array Value} {ss : List SV} {R : Value → World → Prop} (hen : Ent P f) (hf : evo L fx = some (.v (.func (.func f) first cap))) (ha : evs L xs.toList = some ss)
    (hc : Calls P f (first ++ (ss.map SV.den).toArray ++ cap) w (Ret R)) (hk : ∀ v w', R v w' → K (.v v) w') : OP P L (.call { callee := .value fx, args := xs, argTypes := ats }) ty w K := by
  intro ρ he
  unfold opw
  have h1 : execOp ρ ⟨none, .call { callee := .value fx, args := xs, argTypes := ats }, ty, "", #[], none⟩ = (do let d ← resolve ρ { callee := .value fx, args := xs, argTypes := ats } ty; invoke d.target d.args) := rfl
  have hargs : xs.map ρ = (ss.map SV.den).toArray := by
    have := evs_val he _ _ ha
    apply Array.ext'
    rw [Array.toList_map]; exact this
  have hr : (execOp ρ ⟨none, .call { callee := .value fx, args := xs, argTypes := ats }, ty, "", #[], none⟩).run P w = .ok (.enter f (first ++ (ss.map SV.den).toArray ++ cap)) w := by
    rw [h1]
    simp only [resolve, he fx _ hf, SV.den, Deferred.ofValue, Sem.run_bind, Sem.run_pure, Result.andThen_ok, invoke, hargs, hen _ w]
  rw [hr]
  refine hc.mono fun e w' h => ?_
  cases e with
  | returned v => exact ⟨.v v, rfl, hk v w' h⟩
  | panicked ch => exact h
  | outgrown => exact h
/-- a call of a named function -/
theorem OP_call {xs : Array Operand} {ats : Array TypeId} {f : FuncId} {ss : List SV} {R : Value → World → Prop} (hen : Ent P f) (ha : evs L xs.toList = some ss)
    (hc : Calls P f (ss.map SV.den).toArray w (Ret R)) (hk : ∀ v w', R v w' → K (.v v) w') : OP P L (.call { callee := .value (.func f), args := xs, argTypes := ats }) ty w K :=
  OP_callv hen rfl ha (by simpa using hc) hk
/-- .. that returns a word -/
theorem OP_call32 {xs : Array Operand} {ats : Array TypeId} {f : FuncId} {ss : List SV} {y : UInt32} {R : World → Prop} (hen : Ent P f) (ha : evs L xs.toList = some ss)
    (hc : Calls P f (ss.map SV.den).toArray w (Ret fun v w' => v = wordV y ∧ R w')) (hk : ∀ w', R w' → K (.u32 y) w') : OP P L (.call { callee := .value (.func f), args := xs, argTypes := ats }) ty w K := by
  intro ρ he
  refine opw_mono (OP_call (K := fun s w' => s.den = wordV y ∧ R w') hen ha hc (fun v w' h => h) ρ he) ?_
  rintro v w' ⟨s, rfl, h1, h2⟩
  exact ⟨.u32 y, h1.symm, hk w' h2⟩
/-- .. and leaves the world alone -/
theorem OP_call32s {xs : Array Operand} {ats : Array TypeId} {f : FuncId} {ss : List SV} {y : UInt32} (hen : Ent P f) (ha : evs L xs.toList = some ss)
    (hc : Calls P f (ss.map SV.den).toArray w (Ret fun v w' => v = wordV y ∧ w = w')) (hk : K (.u32 y) w) : OP P L (.call { callee := .value (.func f), args := xs, argTypes := ats }) ty w K :=
  OP_call32 hen ha hc fun w' h => h ▸ hk
end

/-! ### Rules for drawn regions -/
section
variable {P : Program} {ops : Array Oper} {w0 : World} {fin : Lst → World → Prop} {d : Nat} {op : Op} {ty : TypeId} {pos : String} {af : Array Edge} {r : List Oper} {L : Lst} {F : Flx}

/-- no slot that is looked at is known by a sentence alone -/
def freeF (lk : List Nat) : Flx → Bool
  | [] => true
  | (t, _) :: r => !lk.contains t && freeF lk r
theorem InstF_free {lk : List Nat} {w : World} {kk : Lst → Prop} : ∀ {F : Flx} {L : Lst}, freeF lk F = true → kk L → InstF lk w kk F L := by
  intro F
  induction F with
  | nil => intro L _ h; exact h
  | cons p r ih =>
    intro L hf h
    obtain ⟨t, R⟩ := p
    simp only [freeF, Bool.and_eq_true, Bool.not_eq_true'] at hf
    unfold InstF
    rw [hf.1]
    exact ih hf.2 h
def lks (op : Op) : List Nat := (op.operands.toList.filterMap fun | .tmp t => some t | _ => none) ++ []
/-- an operation over known values that yields a known value -/
theorem dr {s : SV} (hf : freeF (lks op) F = true) (h : ∀ w, Ext w0 w → OP P L op ty w fun s' w' => Ext w w' ∧ s'.den = s.den) (hr : DR P ops w0 fin r ((d, s) :: L) F) : DR P ops w0 fin (⟨some d, op, ty, pos, af, none⟩ :: r) L F :=
  ⟨.rig s, Sp.stable_rig s, fun w he => InstF_free hf (h w he), hr⟩
/-- .. a value of which a sentence is known -/
theorem drR (R : Value → World → Prop) (hst : ∀ v w w', R v w → Ext w w' → R v w') (hf : freeF (lks op) F = true) (h : ∀ w, Ext w0 w → OP P L op ty w fun s' w' => Ext w w' ∧ R s'.den w') (hr : DR P ops w0 fin r L ((d, R) :: F)) : DR P ops w0 fin (⟨some d, op, ty, pos, af, none⟩ :: r) L F :=
  ⟨.flx R, hst, fun w he => InstF_free hf (h w he), hr⟩
/-- an operation over values of which sentences are known -/
theorem drf {s : SV} (h : ∀ w, Ext w0 w → InstF (lks op) w (fun Lx => OP P Lx op ty w fun s' w' => Ext w w' ∧ s'.den = s.den) F L) (hr : DR P ops w0 fin r ((d, s) :: L) F) : DR P ops w0 fin (⟨some d, op, ty, pos, af, none⟩ :: r) L F :=
  ⟨.rig s, Sp.stable_rig s, h, hr⟩
theorem drfR (R : Value → World → Prop) (hst : ∀ v w w', R v w → Ext w w' → R v w') (h : ∀ w, Ext w0 w → InstF (lks op) w (fun Lx => OP P Lx op ty w fun s' w' => Ext w w' ∧ R s'.den w') F L) (hr : DR P ops w0 fin r L ((d, R) :: F)) : DR P ops w0 fin (⟨some d, op, ty, pos, af, none⟩ :: r) L F :=
  ⟨.flx R, hst, h, hr⟩
theorem dr_end (h : ∀ w, Ext w0 w → fin L w) : DR P ops w0 fin [] L [] := h
theorem dr_end1 {t : Nat} {R : Value → World → Prop} (h : ∀ w, Ext w0 w → ∀ v, R v w → fin ((t, .v v) :: L) w) : DR P ops w0 fin [] L [(t, R)] := h
theorem dr_end2 {t t' : Nat} {R R' : Value → World → Prop} (h : ∀ w, Ext w0 w → ∀ v, R v w → ∀ v', R' v' w → fin ((t', .v v') :: (t, .v v) :: L) w) : DR P ops w0 fin [] L [(t, R), (t', R')] := h
theorem dr_nil (h : ∀ w, Ext w0 w → InstAll w (fun L' => fin L' w) F L) : DR P ops w0 fin [] L F := h
end
end Go.Eng
