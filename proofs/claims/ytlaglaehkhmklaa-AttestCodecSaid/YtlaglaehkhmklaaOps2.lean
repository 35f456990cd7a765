/-
  Own text: choices, guards whose yield is known, comparisons of strings and bools, calls that return a bool.
-/
import Derived.Test.YtlaglaehkhmklaaSha
namespace Go.Eng
open Go
set_option linter.unusedVariables false
section
variable {P : Program} {L : Lst} {w : World} {ty : TypeId} {K : SV → World → Prop} {t : TypeId}

theorem OP_pickT {c a b : Operand} {s : SV} (hc : evo L c = some (.v (.bool true))) (ha : evo L a = some s) (hk : K s w) : OP P L (.pick c a b) ty w K :=
  OP_run (fun e he => by simp [execOp, he c _ hc, he a _ ha, SV.den, asBool]) hk
theorem OP_pickF {c a b : Operand} {s : SV} (hc : evo L c = some (.v (.bool false))) (hb : evo L b = some s) (hk : K s w) : OP P L (.pick c a b) ty w K :=
  OP_run (fun e he => by simp [execOp, he c _ hc, he b _ hb, SV.den, asBool]) hk
/-- a comparison whose answer is known -/
theorem OP_cmpv (v : Bool) {op : BinOp} {t yt : TypeId} {x y : Operand} {sx sy : SV} {k : IntKind} {a b : Int} (ho : isCmp op = true) (hx : evo L x = some sx) (hy : evo L y = some sy) (ex : sx.num = some (k, a)) (ey : sy.num = some (k, b))
    (hv : cmpB op a b = v) (hk : K (.v (.bool v)) w) : OP P L (.binOp op t x y yt) ty w K := OP_cmp ho hx hy ex ey (hv ▸ hk)
/-- .. that parts the ways -/
theorem OP_cmps {op : BinOp} {t yt : TypeId} {x y : Operand} {sx sy : SV} {k : IntKind} {a b : Int} (ho : isCmp op = true) (hx : evo L x = some sx) (hy : evo L y = some sy) (ex : sx.num = some (k, a)) (ey : sy.num = some (k, b))
    (ht : cmpB op a b = true → K (.v (.bool true)) w) (hf : cmpB op a b = false → K (.v (.bool false)) w) : OP P L (.binOp op t x y yt) ty w K := OP_cmp ho hx hy ex ey (by
  cases h : cmpB op a b
  · exact hf h
  · exact ht h)
end
section
variable {P : Program} {n : Nat} {L : Lst} {w : World} {ops : Array Oper} {Q : Post} {rest : List Oper}
theorem stgY {d d' j : Nat} {want : Bool} {op : Op} {ty : TypeId} {pos : String} {af : Array Edge} (hj : (ops[j]?).bind (·.dst) = some d') (hb : lkp d' L = some (.v (.bool want)))
    (hy : OP P L op ty w fun s w' => RL P n ops Q rest ((d, s) :: L) w') (hd : Nat.blt d n = true) (hd' : Nat.blt d' n = true) :
    RL P n ops Q (⟨some d, op, ty, pos, af, some (j, want)⟩ :: rest) L w := stg hj hb (fun _ => hy) (fun h => by cases want <;> cases h) hd hd'
theorem stgN {d d' j : Nat} {want b : Bool} {op : Op} {ty : TypeId} {pos : String} {af : Array Edge} (hj : (ops[j]?).bind (·.dst) = some d') (hb : lkp d' L = some (.v (.bool b))) (hw : b = !want)
    (hy : RL P n ops Q rest ((d, .v undef) :: L) w) (hd : Nat.blt d n = true) (hd' : Nat.blt d' n = true) :
    RL P n ops Q (⟨some d, op, ty, pos, af, some (j, want)⟩ :: rest) L w := stg hj hb (fun h => by rw [h] at hw; cases want <;> cases hw) (fun _ => hy) hd hd'
end
/-- []byte of a constant: the row gets a mark behind its last cell -/
theorem cell_freeze (w : World) (g k n : Nat) (a : Addr) : (w.freeze ⟨g, k, none⟩ n).cell? a = w.cell? a := by
  unfold World.freeze
  split
  · rfl
  · simp only [World.cell?, Array.getElem?_modify]
    by_cases h : g = a.block
    · subst h
      rw [if_pos rfl]
      cases hh : w.heap[a.block]? with
      | none => rfl
      | some o => cases o <;> rfl
    · rw [if_neg h]
theorem grownBy_freeze (w : World) (g k n : Nat) : w.grownBy (w.freeze ⟨g, k, none⟩ n) (some g) := by
  unfold World.freeze
  split
  · exact ⟨rfl, rfl, rfl, Nat.le_refl _, fun _ _ _ => rfl⟩
  · refine ⟨rfl, rfl, rfl, by simp, fun i hi hne => ?_⟩
    simp only [Array.getElem?_modify]
    rw [if_neg (fun e => hne (by rw [e]))]
theorem OP_convb {P : Program} {L : Lst} {w : World} {ty : TypeId} {K : SV → World → Prop} {t e e' base : Nat} {x : Operand} {v : Value} {l : List UInt8} (ht : P.underlying t = some (.slice e)) (he : P.underlying e = some (.int .u8)) (hx : evo L x = some (.v v)) (ho : Own byteV e' base w v l) (hne : Nat.blt 0 l.length = true)
    (hk : ∀ w', Bytes w' v l → w.grownBy w' v.ownBlock → K (.v v) w') : OP P L (.convert t t x) ty w K := by
  have hne : 0 < l.length := by simpa using hne
  have hh := ho.hold
  obtain ⟨_, h0⟩ := id ho
  rcases h0 with ⟨rfl, h0⟩ | ⟨g, cap, cur, rfl, hb, hg, _⟩
  · omega
  have hsh : w.shape? g = some (e', cur.size) := by simp [World.shape?, hg]
  refine OP_run (s := .v (.slice (some ⟨g, 0, none⟩) l.length cap)) (w' := w.freeze ⟨g, cur.size, none⟩ 1) (fun ρ hρ => ?_) (hk _ ?_ (grownBy_freeze w _ _ _))
  · have h1 : execOp ρ ⟨none, .convert t t x, ty, "", #[], none⟩ = (do pure (.value (← convert t t (ρ x)))) := rfl
    rw [h1, hρ x _ hx]
    simp [SV.den, convert, run_underlying ht, run_underlying he, markStringish, hsh]
  · obtain ⟨a, cap', he', h2, h3, h4, h5, h6⟩ := hh
    exact ⟨a, cap', he', h2, h3, h4, h5, fun p hp j u hu => by rw [cell_freeze]; exact h6 p hp j u hu⟩
abbrev BlkB (w : World) (b : Nat) (l : List UInt8) : Prop := Blk w b (l.map byteV)
theorem OP_stbk {P : Program} {L : Lst} {w : World} {ty : TypeId} {K : SV → World → Prop} {t : Nat} {x y : Operand} {b j : Nat} {ws : List UInt8} {a : UInt8} (hsz : (P.info? t).map (·.size) = some 1) (hx : evo L x = some (.v (.pointer (some ((⟨b, 0, none⟩ : Addr).add j))))) (hy : evo L y = some (.u8 a)) (hb : BlkB w b ws) (hj : j < ws.length)
    (hk : ∀ s' w', BlkB w' b (ws.set j a) → w.grownBy w' (some b) → K s' w') : OP P L (.store t x y) ty w K :=
  OP_store (d := .bool) (j := 0 + j) hsz (by rw [hx, Addr.add_lit]) hy rfl hb (by simpa using hj) fun s' w' h g => hk s' w' (by
    unfold BlkB; rw [List.map_set]; simpa [SV.den] using h) g
theorem blk_bytes {w : World} {b : Nat} {hs : List UInt8} (h : BlkB w b hs) (hn : hs.length ≤ 100000) : Bytes w (.slice (some ⟨b, 0, none⟩) hs.length hs.length) hs :=
  Blk.sl (sz := 1) (n := hs.length) h (by simp) (Nat.le_trans hn (by decide))
/-- a call that returns a bool -/
theorem OP_callb {P : Program} {L : Lst} {w : World} {ty : TypeId} {K : SV → World → Prop} {xs : Array Operand} {ats : Array TypeId} {f : FuncId} {ss : List SV} {b : Bool} {R : World → Prop} (hen : Ent P f) (ha : evs L xs.toList = some ss)
    (hc : Calls P f (ss.map SV.den).toArray w (Ret fun v w' => v = .bool b ∧ R w')) (hk : ∀ w', R w' → K (.v (.bool b)) w') : OP P L (.call { callee := .value (.func f), args := xs, argTypes := ats }) ty w K :=
  OP_call hen ha hc fun v w' ⟨hv, hr⟩ => by subst hv; exact hk w' hr
theorem OP_calln {P : Program} {L : Lst} {w : World} {ty : TypeId} {K : SV → World → Prop} {xs : Array Operand} {ats : Array TypeId} {f : FuncId} {ss : List SV} {b : Int} {R : World → Prop} (hen : Ent P f) (ha : evs L xs.toList = some ss)
    (hc : Calls P f (ss.map SV.den).toArray w (Ret fun v w' => v = .int .i64 b ∧ R w')) (hk : ∀ w', R w' → K (.v (.int .i64 b)) w') : OP P L (.call { callee := .value (.func f), args := xs, argTypes := ats }) ty w K :=
  OP_call hen ha hc fun v w' ⟨hv, hr⟩ => by subst hv; exact hk w' hr
end Go.Eng
