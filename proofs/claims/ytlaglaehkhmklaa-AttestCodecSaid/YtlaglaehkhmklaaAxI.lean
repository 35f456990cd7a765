/-
  Own text. The abstract machine: regions in the order of their text, code. It claims nothing of any program.
-/
import Derived.Test.YtlaglaehkhmklaaAxH
namespace Go.Ax
open Go Go.RowKit Go.Eng
set_option linter.unusedVariables false
set_option linter.unusedSimpArgs false

section
variable {P : Program} {I : World → Prop} {L : LX} {T : TT} {G : FT} {Q : Req → Option Rsp} {R : Type} {K : Tr → Option R} {r : R} {hk : Nat → Option Rs} {m : Nat}
theorem evAny_ok (hT : TTok P T) (hG : FTok P G) (hQ : QOK P I Q) (hm : ∀ k R, hk k = some R → k < m) {op : Op} (h : evAny T G Q (evx L) hk m op K = some r) : ∃ tr, K tr = some r ∧ TrOK P I L hk m op tr := by
  unfold evAny at h
  split at h
  · exact evCall_ok hG hQ hm h
  · exact evOp_ok hT hm h
end

/-! ### States after a step -/
def putF : Fp → HX → HX
  | [], H => H
  | (k, r) :: F, H => (k, some r) :: putF F H
def delF : Fp → HX → HX
  | [], H => H
  | (k, r) :: F, H => (k, none) :: delF F H
def stH (t : Tr) (H : HX) : HX := bif t.rd then H else putF t.F' (delF t.F H)
theorem hPut_eq {R : Type} : ∀ (F : Fp) (H : HX) (K : HX → R), hPut F H K = K (putF F H)
  | [], H, K => rfl
  | (k, r) :: F, H, K => by simp only [hPut, forceR_eq, hPut_eq F, putF]
theorem hDel_eq {R : Type} : ∀ (F : Fp) (H : HX) (K : HX → R), hDel F H K = K (delF F H)
  | [], H, K => rfl
  | (k, r) :: F, H, K => by simp only [hDel, hDel_eq F, delF]
theorem stepK_eq {R : Type} (d : Option Nat) (t : Tr) (m : Nat) (L : LX) (H : HX) (K : Nat → LX → HX → R) : stepK d t m L H K = K (m + t.nn) (putL d t.s L) (stH t H) := by
  obtain ⟨s, F, F', rd, nn⟩ := t
  cases d <;> cases rd <;> simp [stepK, force_eq, addN_eq, hDel_eq, hPut_eq, putL, stH]
theorem hlk_put (k : Nat) : ∀ (F : Fp) (H : HX), hlk k (putF F H) = match flk k F with | some R => some R | none => hlk k H
  | [], H => rfl
  | (d, r) :: F, H => by rw [putF, hlk_cons, flk_cons, hlk_put k F]; split <;> simp_all
theorem hlk_del (k : Nat) : ∀ (F : Fp) (H : HX), hlk k (delF F H) = match flk k F with | some R => none | none => hlk k H
  | [], H => rfl
  | (d, r) :: F, H => by rw [delF, hlk_cons, flk_cons, hlk_del k F]; split <;> simp_all
theorem hlk_stH {t : Tr} {H : HX} (hpre : ∀ k R, flk k t.F = some R → hlk k H = some R) (hrd : t.rd = true → t.F' = t.F) (k : Nat) : hlk k (stH t H) = upd t.F t.F' (fun k => hlk k H) k := by
  unfold stH upd
  cases h : t.rd with
  | false => simp only [cond_false, hlk_put, hlk_del]; cases flk k t.F' <;> cases flk k t.F <;> rfl
  | true =>
    rw [hrd h]
    simp only [cond_true]
    cases h2 : flk k t.F with
    | none => rfl
    | some R => exact hpre k R h2

section
variable {P : Program} {I : World → Prop} {n : Nat} {g : Gx} {Q : PostX} {m : Nat} {L : LX} {H : HX} {ops : Array Oper} {rest : List Oper}
theorem RS_hm (h : (∀ k R, hlk k H = some R → k < m) → RS P I n g ops Q rest m L H) : RS P I n g ops Q rest m L H := fun a w ν S => h (fun k R hk => (S.res k R hk).1) a w ν S
theorem RS_same {L' : LX} (hL : ∀ t, lkx t L' = lkx t L) (h : RS P I n g ops Q rest m L' H) : RS P I n g ops Q rest m L H := fun a w ν S => h a w ν (S.fewer fun t s hs => by rw [← hL]; exact hs)
theorem OS_tr {op : Op} {ty : TypeId} {t : Tr} {K : AV → Nat → HX → Prop} (h : TrOK P I L (fun k => hlk k H) m op t) (hm : ∀ k R, hlk k H = some R → k < m) (hK : K t.s (m + t.nn) (stH t H)) : OS P I n g op ty m L H K := by
  refine OS_of (h.opl ty) h.pre (fun k hk => (h.new k hk).imp id fun e => by omega) (fun k hk => ?_) (Nat.le_add_right _ _) (hlk_stH h.pre h.rd) hK
  rcases h.new k hk with h1 | h1
  · obtain ⟨R, h2⟩ := (has_iff _ _).1 h1
    have := hm k R (h.pre k R h2); omega
  · exact h1.2
theorem lkx_twice {d : Nat} {s : AV} (h : lkx d L = some s) (t : Nat) : lkx t ((d, s) :: L) = lkx t L := by
  rw [lkx_cons]; split
  · rename_i e; rw [e, h]
  · rfl
end

section
variable {P : Program} {I : World → Prop} {n : Nat} {g : Gx} {T : TT} {G : FT} {Q : Req → Option Rsp} {r : Rsp}
theorem dstB_some {n d : Nat} (h : dstB n (some d) = true) : d < n := by simpa [dstB] using h
theorem evOps_ok (hT : TTok P T) (hG : FTok P G) (hQ : QOK P I Q) {ops : List Oper} {Φ : PostX} {K : Nat → LX → HX → Option Rsp} (hK : ∀ m L H, K m L H = some r → Φ .normal m L H) (l : List Oper) : ∀ (m : Nat) (L : LX) (H : HX), evOps T G Q n ops l m L H K = some r → RS P I n g ops.toArray Φ l m L H := by
  induction l with
  | nil => intro m L H h; exact RS_nil (hK _ _ _ h)
  | cons o l ih =>
    intro m L H h
    refine RS_hm fun hm => ?_
    obtain ⟨dst, op, ty, pos, af, gd⟩ := o
    rw [evOps] at h
    cases gd with
    | none =>
      simp only at h
      cases hd : dstB n dst with
      | false => rw [hd] at h; cases h
      | true =>
        rw [hd, cond_true] at h
        obtain ⟨t, ht, ok⟩ := evAny_ok hT hG hQ hm h
        rw [stepK_eq] at ht
        have hn := ih _ _ _ ht
        cases dst with
        | none => exact sx0 (OS_tr ok hm hn)
        | some d => exact sx (OS_tr ok hm hn) (dstB_some hd)
    | some p =>
      obtain ⟨j, want⟩ := p
      simp only at h
      split at h
      · rename_i d' hd'
        have hj : (ops.toArray[j]?).bind (·.dst) = some d' := by simpa using hd'
        split at h
        · rename_i c hc
          cases hd : (dstB n dst && Nat.blt d' n) with
          | false => rw [hd] at h; cases h
          | true =>
            rw [hd, cond_true] at h
            rw [Bool.and_eq_true] at hd
            have hdn : d' < n := by simpa using hd.2
            refine RS_same (L' := (d', .b c) :: L) (lkx_twice hc) ?_
            have hb : lkx d' ((d', .b c) :: L) = some (.b c) := by rw [lkx_cons, if_pos rfl]
            have run : c = want → evAny T G Q (evx ((d', .b c) :: L)) (fun k => hlk k H) m op (fun t => stepK dst t m ((d', .b c) :: L) H fun m L H => evOps T G Q n ops l m L H K) = some r → RS P I n g ops.toArray Φ (⟨dst, op, ty, pos, af, some (j, want)⟩ :: l) m ((d', .b c) :: L) H := by
              clear h
              intro e1 h9
              subst e1
              obtain ⟨t, ht, ok⟩ := evAny_ok hT hG hQ hm h9
              rw [stepK_eq] at ht
              have hn := ih _ _ _ ht
              cases dst with
              | none => exact sxY0 hj hb hdn (OS_tr ok hm hn)
              | some d => exact sxY hj hb hdn (OS_tr ok hm hn) (dstB_some hd.1)
            have skip : c = !want → evOps T G Q n ops l m (putL dst (AV.tup []) ((d', AV.b c) :: L)) H K = some r → RS P I n g ops.toArray Φ (⟨dst, op, ty, pos, af, some (j, want)⟩ :: l) m ((d', .b c) :: L) H := by
              clear h run
              intro e1 h9
              have hn := ih _ _ _ h9
              cases dst with
              | none => exact sxN0 hj hb e1 hn hdn
              | some d => exact sxN hj hb e1 hn (dstB_some hd.1) hdn
            cases c with
            | true =>
              cases want with
              | true => exact run rfl h
              | false => exact skip rfl (by cases dst <;> exact h)
            | false =>
              cases want with
              | true => exact skip rfl (by cases dst <;> exact h)
              | false => exact run rfl h
        · rename_i hc
          cases hd : (dstB n dst && Nat.blt d' n) with
          | false => rw [hd] at h; cases h
          | true =>
            rw [hd, cond_true] at h
            rw [Bool.and_eq_true] at hd
            have hdn : d' < n := by simpa using hd.2
            have hn := ih _ _ _ h
            cases dst with
            | none => exact sxU0 hj hc hn hdn
            | some d => exact sxU hj hc hn (dstB_some hd.1) hdn
        · cases h
      · cases h
end
end Go.Ax
