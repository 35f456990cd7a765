/-
  Own text. The abstract machine: variables, fields, parts of structs. It claims nothing of any program.
-/
import Derived.Test.YtlaglaehkhmklaaAx7
namespace Go.Ax
open Go Go.RowKit Go.Eng
set_option linter.unusedVariables false
set_option linter.unusedSimpArgs false

theorem Rep.cast_sl {c : Cx} {e e' : Ty} {l : List (El e')} {l' : List (El e)} {u : Value} (h : unfE e e' l = some l') (hr : ∀ w', Stp c.O c.w w' → Rd e' l u w') : Rep c (.sl e l') u := by
  obtain ⟨rfl, h2⟩ := unfE_eq h
  obtain rfl := eq_of_heq h2
  simp only [Rep]; exact hr
theorem Rd.nil (t : Ty) (w : World) : Rd t [] (.slice none 0 0) w := ⟨[], by simp [All2], by simpa using Sl.nil w t.n⟩
theorem unf_ok {c : Cx} : ∀ {t : Ty} {l r : List AV} {x : El t} {us : List Value}, unf t l = some (x, r) → Reps c l us → ∃ u1 u2, us = u1 ++ u2 ∧ Reps c (flat t x) u1 ∧ Reps c r u2 := by
  intro t
  induction t with
  | unit => intro l r x us h hr; simp only [unf, Option.some.injEq, Prod.mk.injEq] at h; obtain ⟨_, rfl⟩ := h; exact ⟨[], us, rfl, by simp only [flat, Reps], hr⟩
  | pair a b iha ihb =>
    intro l r x us h hr
    simp only [unf] at h
    split at h
    · rename_i x1 r1 h1
      split at h
      · rename_i y r2 h2
        simp only [Option.some.injEq, Prod.mk.injEq] at h
        obtain ⟨rfl, rfl⟩ := h
        obtain ⟨u1, u2, rfl, h3, h4⟩ := iha h1 hr
        obtain ⟨u3, u4, rfl, h5, h6⟩ := ihb h2 h4
        exact ⟨u1 ++ u3, u4, by rw [List.append_assoc], by simp only [flat]; exact h3.app h5, h6⟩
      · cases h
    · cases h
  | sl e ih =>
    intro l r x us h hr
    cases l with
    | nil => simp [unf] at h
    | cons s l =>
      simp only [Reps] at hr
      obtain ⟨u, us', rfl, h1, h2⟩ := hr
      refine ⟨[u], us', rfl, ?_⟩
      simp only [flat]
      cases s <;> try (simp [unf] at h; done)
      · rename_i e' l'
        simp only [unf] at h
        split at h
        · rename_i l2 h3
          simp only [Option.some.injEq, Prod.mk.injEq] at h
          obtain ⟨rfl, rfl⟩ := h
          simp only [Rep] at h1
          exact ⟨Reps.one (Rep.cast_sl h3 h1), h2⟩
        · cases h
      · rename_i e' l'
        simp only [unf] at h
        split at h
        · rename_i l2 h3
          simp only [Option.some.injEq, Prod.mk.injEq] at h
          obtain ⟨rfl, rfl⟩ := h
          simp only [Rep] at h1
          exact ⟨Reps.one (Rep.cast_sl h3 h1.2), h2⟩
        · cases h
      · simp only [unf, Option.some.injEq, Prod.mk.injEq] at h
        obtain ⟨rfl, rfl⟩ := h
        simp only [Rep] at h1
        subst h1
        exact ⟨Reps.one (by simp only [Rep]; exact fun w' _ => Rd.nil e w'), h2⟩
  | _ =>
    intro l r x us h hr
    cases l with
    | nil => simp [unf] at h
    | cons s l =>
      simp only [Reps] at hr
      obtain ⟨u, us', rfl, h1, h2⟩ := hr
      refine ⟨[u], us', rfl, ?_⟩
      cases s <;> first
        | (simp [unf] at h; done)
        | (simp only [unf, Option.some.injEq, Prod.mk.injEq] at h; obtain ⟨rfl, rfl⟩ := h; simp only [flat]; exact ⟨Reps.one h1, h2⟩)
theorem unf_all {c : Cx} {t : Ty} {l : List AV} {x : El t} {us : List Value} (h : unf t l = some (x, [])) (hr : Reps c l us) : Reps c (flat t x) us := by
  obtain ⟨u1, u2, rfl, h1, h2⟩ := unf_ok h hr
  simp only [Reps] at h2
  subst h2
  rw [List.append_nil]; exact h1

/-! ### Cells -/
theorem cellsA_ok {c : Cx} {s : AV} {u : Value} {l : List AV} (h : Rep c s u) (hc : cellsA s = some l) : ∃ us, u.cells = us.toArray ∧ Reps c l us ∧ ∀ x ∈ us, x.oneCell' = true := by
  have one : u.oneCell' = true → [s] = l → ∃ us, u.cells = us.toArray ∧ Reps c l us ∧ ∀ x ∈ us, x.oneCell' = true := by
    intro h1 h3
    subst h3
    refine ⟨[u], ?_, Reps.one h, by simpa using h1⟩
    cases u <;> first | rfl | cases h1
  cases s <;> simp only [cellsA] at hc <;> try (cases hc; done)
  case agg l' =>
    obtain rfl := Option.some.inj hc
    simp only [Rep] at h
    obtain ⟨us, rfl, h1, h2⟩ := h
    exact ⟨us, rfl, h1, h2⟩
  all_goals refine one ?_ (Option.some.inj hc)
  case b => simp only [Rep] at h; subst h; rfl
  case i => simp only [Rep] at h; subst h; rfl
  case u8 => simp only [Rep] at h; subst h; rfl
  case u32 => simp only [Rep] at h; subst h; rfl
  case u64 => simp only [Rep] at h; subst h; rfl
  case str => simp only [Rep] at h; subst h; rfl
  case sl => simp only [Rep] at h; obtain ⟨cs, _, h2⟩ := h c.w (Stp.refl _ _); exact Sl.one h2
  case st => simp only [Rep] at h; obtain ⟨cs, _, h2⟩ := h.2 c.w (Stp.refl _ _); exact Sl.one h2
  case nil => simp only [Rep] at h; subst h; rfl
  case nm => simp only [Rep] at h; exact h.2.2
  case pa => simp only [Rep] at h; obtain ⟨_, b, _, rfl⟩ := h; rfl
  case pe => simp only [Rep] at h; obtain ⟨_, b, _, rfl⟩ := h; rfl
  case pt => simp only [Rep] at h; obtain ⟨p, us, rfl, _⟩ := h; rfl
  case fn => simp only [Rep] at h; obtain ⟨us, vs, rfl, _⟩ := h; rfl

section
variable {P : Program} {I : World → Prop} {L : LX} {ty : TypeId} {T : TT}
theorem Cs.zero {w : World} {p : Addr} {u : Value} {us : List Value} (h : Cs w p (u :: us)) : w.cell? p = some u := by
  have := h 0 u rfl
  simpa [Addr.add] using this
/-- a load -/
theorem run_ld {c : Cx} {t : TypeId} {i : TI} (hi : TOK P t i) {p : Addr} {l : List AV} {us : List Value} {s : AV} {w : World} (h : ldCells (scalar i.u) i.size l = some s) (hr : Reps c l us) (h1 : ∀ u ∈ us, u.oneCell' = true) (hc : Cs w p us) : ∃ v, (loadVar t p).run P w = .ok v w ∧ Rep c s v := by
  obtain ⟨d, ht, hd⟩ := hi.plain
  unfold ldCells at h
  cases hsc : scalar i.u with
  | true =>
    rw [hsc] at h hd
    cases l with
    | nil => cases h
    | cons a l =>
      simp only [cond_true, List.head?_cons, Option.some.injEq] at h
      subst h
      simp only [Reps] at hr
      obtain ⟨u, us', rfl, h2, h3⟩ := hr
      exact ⟨u, run_loadVar_one ht hd (Cs.zero hc), h2⟩
  | false =>
    rw [hsc] at h hd
    simp only [cond_false] at h
    cases hle : Nat.ble i.size l.length with
    | false => rw [hle] at h; cases h
    | true =>
      rw [hle] at h
      obtain rfl := Option.some.inj h
      have hle : i.size ≤ l.length := by simpa using hle
      have hlen := hr.len
      obtain ⟨inf, hinf, hs⟩ := Option.map_eq_some_iff.1 hi.sz
      have hagg : (isAgg t).run P w = .ok true w := by
        simp only [isAgg, Sem.run_bind, run_underlying ht, Result.andThen_ok]
        cases d <;> first | (cases hd; done) | rfl
      have hl : (loadCells p i.size).run P w = .ok (us.take i.size).toArray w := by
        have := run_loadCells_list (P := P) (w := w) p (us.take i.size) (hc.take _)
        rw [show (us.take i.size).length = i.size from by rw [List.length_take]; omega] at this; exact this
      refine ⟨.agg (us.take i.size).toArray, by simp [loadVar, hagg, sizeOf, typeInfo, hinf, hs, hl], ?_⟩
      simp only [Rep]
      exact ⟨_, rfl, hr.take _, fun u hu => h1 u (List.mem_of_mem_take hu)⟩
theorem exec_load {e : Operand → Value} {t : TypeId} {x : Operand} {p : Addr} {v : Value} {w : World} (hx : e x = .pointer (some p)) (h : (loadVar t p).run P w = .ok v w) : (execOp e ⟨none, .load t x, ty, "", #[], none⟩).run P w = .ok (.value v) w := by
  have h1 : execOp e ⟨none, .load t x, ty, "", #[], none⟩ = (do pure (.value (← Instr.loadAt t (e x)))) := rfl
  rw [h1, hx]
  simp [Instr.loadAt, Instr.sureAddr, h]
theorem pre_one {c : Cx} {k : Nat} {R : Rs} {F' : Fp} (hP : Pre c [(k, R)] F') : c.N k ∧ Holds c k R ∧ ∀ b, blk (c.ν k) = some b → c.O b := hP.res k R (by rw [flk_cons, if_pos rfl])
theorem flk_one_eq {k q : Nat} {R R' : Rs} (h : flk q [(k, R)] = some R') : q = k ∧ R' = R := by
  rw [flk_cons] at h
  split at h
  · rename_i e; exact ⟨e, (Option.some.inj h).symm⟩
  · cases h
/-- a step that looks at one resource -/
theorem TrOK.look {hk : Nat → Option Rs} {m : Nat} {op : Op} {s : AV} {k : Nat} {R : Rs} (hkk : hk k = some R) (h : ∀ (c : Cx) (e : Operand → Value) (ty : TypeId), Good I c → ValX c L e → c.N k → Holds c k R → (∀ b, blk (c.ν k) = some b → c.O b) → ∃ v, (execOp e ⟨none, op, ty, "", #[], none⟩).run P c.w = .ok (.value v) c.w ∧ Rep c s v) : TrOK P I L hk m op ⟨s, [(k, R)], [(k, R)], true, 0⟩ := by
  refine ⟨fun ty => OPL_run fun c e hG he hP => ?_, fun q R' hq => by obtain ⟨rfl, rfl⟩ := flk_one_eq hq; exact hkk, fun q hq => .inl hq, fun _ => rfl⟩
  obtain ⟨h1, h2, h3⟩ := pre_one hP
  obtain ⟨v, hv, hr⟩ := h c e ty hG he h1 h2 h3
  exact ⟨v, c.w, c.ν, hv, Ok.same hG.lt (fun k R hk => hP.res k R hk) (fun k k' R R' b h h' => hP.dist k k' R R' b h h') hr⟩
theorem pa_eq {c : Cx} {k off b : Nat} {u : Value} (h : Rep c (.pa k off) u) (hν : c.ν k = .pointer (some ⟨b, 0, none⟩)) : u = .pointer (some ⟨b, off, none⟩) := by
  simp only [Rep] at h
  obtain ⟨_, b', hb, rfl⟩ := h
  rw [hν] at hb
  simp only [blk, Option.some.injEq] at hb
  rw [hb]
theorem Blk.cs' {w : World} {b : Nat} {us : List Value} (h : Blk w b us) (o : Nat) : Cs w ⟨b, o, none⟩ (us.drop o) := h.cs o
theorem ownsM_cs {w : World} {e sz n : Nat} {v : Value} {vs : List Value} {b : Nat} (h : w.ownsRow 0 e sz v n vs) (hb : blk v = some b) (o : Nat) : Cs w ⟨b, o, none⟩ (vs.drop o) := by
  rcases h.2 with ⟨rfl, _⟩ | ⟨g, cap, cur, rfl, _⟩
  · cases hb
  · simp only [blk, Option.some.injEq] at hb
    subst hb
    have h0 : Cs w ⟨g, 0, none⟩ vs := fun j u hu => h.cells (g := g) rfl j u hu
    have := h0.drop o
    rw [show (⟨g, 0, none⟩ : Addr).add o = ⟨g, o, none⟩ from by unfold Addr.add; split <;> simp_all] at this
    exact this
theorem lget_some {α : Type} {l : List α} {i : Int} {a : α} (h : lget0 l i = some a) : 0 ≤ i ∧ l[i.toNat]? = some a := by
  unfold lget0 at h
  split at h
  · rename_i h0; exact ⟨h0, h⟩
  · cases h
theorem flatten_at {β : Type} (sz : Nat) : ∀ (cs : List (List β)) (i : Nat) (c : List β), (∀ c ∈ cs, c.length = sz) → cs[i]? = some c → ∃ r, cs.flatten.drop (i * sz) = c ++ r
  | [], i, c, _, h => by simp at h
  | a :: cs, 0, c, hs, h => by
    simp only [List.getElem?_cons_zero, Option.some.injEq] at h
    subst h
    exact ⟨cs.flatten, by simp⟩
  | a :: cs, i + 1, c, hs, h => by
    obtain ⟨r, hr⟩ := flatten_at sz cs i c (fun c hc => hs c (List.mem_cons_of_mem _ hc)) (by simpa using h)
    refine ⟨r, ?_⟩
    rw [List.flatten_cons, Nat.add_mul, Nat.one_mul, Nat.add_comm, ← List.drop_drop]
    have ha := hs a (List.mem_cons_self ..)
    rw [show (a ++ cs.flatten).drop sz = cs.flatten from by rw [← ha]; simp]
    exact hr
theorem All2.lens {t : Ty} {c : Cx} : ∀ {l : List (El t)} {cs : List (List Value)}, All2 (fun x m => Reps c (flat t x) m) l cs → ∀ m ∈ cs, m.length = t.n
  | [], [], _, m, hm => by simp at hm
  | x :: l, a :: cs, h, m, hm => by
    rcases List.mem_cons.1 hm with rfl | hm
    · rw [h.1.len, flat_len]
    · exact All2.lens h.2 m hm
  | [], _ :: _, h, _, _ => h.elim
  | _ :: _, [], h, _, _ => h.elim
theorem evLoad_ok (hT : TTok P T) {hk : Nat → Option Rs} {m : Nat} {t : TypeId} {x : Operand} {R : Type} {K : Tr → Option R} {r : R} (h : evLoad T hk t (evx L x) K = some r) : ∃ tr, K tr = some r ∧ TrOK P I L hk m (.load t x) tr := by
  unfold evLoad at h
  try simp only [iadd_d, isub_d, imul_d, iquo_d, irem_d, ibit_d, ineg_d, ieq_d, ine_d, ilt_d, ile_d, ishl_d, ishr_d, beq_d, bnot_d, and_d, seq_d, u8op_d, u32op_d, u64op_d, u8shr_d, u8shl_d, u64shr_d, u64shl_d, u32shr_d, u32shl_d, i64w_d, u8i_d, u64i_d, iu8_d, iu32_d, iu64_d, u8u64_d, u64u8_d, u32u8_d, u64cmp_d, u8cmp_d, u32cmp_d, llen_d, lget_d, linb_d, lset_d, lcut_d, lrep_d, lapp_d, lcpy_d, lemp_d, fits_d, fitn_d] at h
  split at h
  · rename_i i k o hi hx
    have hti := hT _ _ hi
    split at h
    · rename_i cells hkk
      split at h
      · rename_i s hs
        refine ⟨_, h, TrOK.look hkk fun c e ty hG he hN hH hO => ?_⟩
        obtain ⟨b, us, h2, h3, h4, h5⟩ := hH
        obtain ⟨v, hv, hr⟩ := run_ld (w := c.w) hti hs (h4.drop o) (fun u hu => h5 u (List.mem_of_mem_drop hu)) (h3.cs o)
        exact ⟨v, exec_load (pa_eq (he x _ hx) h2) hv, hr⟩
      · cases h
    · cases h
  · rename_i i k j sz o hi hx
    have hti := hT _ _ hi
    split at h
    · rename_i e t' l hkk
      cases hsz : Nat.beq sz t'.n with
      | false => rw [hsz] at h; cases h
      | true =>
        rw [hsz] at h
        have hsz : sz = t'.n := by simpa using hsz
        simp only [cond_true] at h
        obtain ⟨a, ha, h⟩ := Option.bind_eq_some_iff.1 h
        split at h
        · rename_i s hs
          refine ⟨_, h, TrOK.look hkk fun c e ty hG he hN hH hO => ?_⟩
          obtain ⟨vs, h2, h3, h4⟩ := hH
          have hp := he x _ hx
          simp only [Rep] at hp
          obtain ⟨_, b, hb, hu⟩ := hp
          obtain ⟨hj, hla⟩ := lget_some ha
          obtain ⟨cs, rfl, hcs⟩ := h3.flatL
          obtain ⟨us, hus, hru⟩ := hcs.get hla
          obtain ⟨rest, hrest⟩ := flatten_at t'.n cs j.toNat us (All2.lens hcs) hus
          have hcell := ownsM_cs h2 hb (j.toNat * sz + o)
          rw [← List.drop_drop, hsz, hrest] at hcell
          have hul : us.length = t'.n := by rw [hru.len, flat_len]
          have hcell2 : Cs c.w ⟨b, j.toNat * sz + o, none⟩ (us.drop o) := fun q u hq => by
            rw [hsz]
            refine hcell q u ?_
            rw [List.drop_append, List.getElem?_append_left (List.getElem?_eq_some_iff.1 hq).1]; exact hq
          obtain ⟨v, hv, hr⟩ := run_ld (w := c.w) hti hs (hru.drop o) (fun u hu => flat_one hru u (List.mem_of_mem_drop hu)) hcell2
          exact ⟨v, exec_load hu hv, hr⟩
        · cases h
    · rename_i e sz' n cells hkk
      split at h
      · rename_i s hs
        refine ⟨_, h, TrOK.look hkk fun c e ty hG he hN hH hO => ?_⟩
        obtain ⟨vs, h2, h3, h4⟩ := hH
        have hp := he x _ hx
        simp only [Rep] at hp
        obtain ⟨_, b, hb, hu⟩ := hp
        obtain ⟨v, hv, hr⟩ := run_ld (w := c.w) hti hs (h3.drop _) (fun u hu => h4 u (List.mem_of_mem_drop hu)) (ownsM_cs h2 hb (j.toNat * sz + o))
        exact ⟨v, exec_load hu hv, hr⟩
      · cases h
    · cases h
  · rename_i i l hi hx
    have hti := hT _ _ hi
    split at h
    · rename_i s hs
      refine ⟨_, h, TrOK.mk0 fun ty => OPL_run0 fun c e hG he => ?_⟩
      have hp := he x _ hx
      simp only [Rep] at hp
      obtain ⟨p, us, hu, h2, h3, h4⟩ := hp
      obtain ⟨v, hv, hr⟩ := run_ld (w := c.w) hti hs h2 h3 (h4 c.w (Stp.refl _ _))
      exact ⟨v, exec_load hu hv, hr⟩
    · cases h
  · cases h
end
end Go.Ax
