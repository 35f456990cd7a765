/-
  Own text: the readers of quotes.
-/
import Derived.Test.YtlaglaehkhmklaaAxU9
namespace Go.Proofs.Ytlaglaehkhmklaa
open Go Go.Ax
set_option linter.unusedVariables false
set_option linter.unusedSimpArgs false
attribute [local irreducible] iadd isub imul iquo irem ibit ineg ieq ine ilt ile ishl ishr beq' bnot and' seq' u8op u32op u64op u8shr u8shl u64shr u64shl u32shr u32shl i64w u8i u64i iu8 iu32 iu64 u8u64 u64u8 u32u8 u64cmp u8cmp u32cmp llen lget linb lset lcut lrep lapp lcpy lemp fits fitn sealed drawChk
set_option maxHeartbeats 4000000
set_option maxRecDepth 100000
theorem ev_r16_decode (b : List UInt8) (hb : b.length ≤ 4294967296) : Y E0 (.call 13 [.sl .u8 b] []) = some (.ret (.tup [.agg (attX (decA b).1), .i (decA b).2]) []) := by
  rw [Y_go]; conv => lhs; whnf
  rw [toReq_call]
  rw [ev_r3new _]
  conv => lhs; whnf
  rw [toReq_call]
  rw [show Y E0 (.call 28 [.pa 0 0, .i 4] [.var [.sl .u8 b, .i 0, .i 0]]) = _ from ev_r3raw b 0 0 4 hb (Nat.zero_le _) (by decide)]; generalize g0 : rdR b 0 0 4 = x0; obtain ⟨v0, p0, er0⟩ := x0; have k0 : p0 ≤ b.length := (by have := rdR_le (b := b) (at' := 0) (e := 0) (n := 4) (Nat.zero_le _); rw [g0] at this; exact this); have l0 : v0.length ≤ b.length := (by have := rdR_len (b := b) (at' := 0) (e := 0) (n := 4); rw [g0] at this; exact this)
  conv => lhs; whnf
  rcases Bool.eq_false_or_eq_true (ine (v0, p0, er0).snd.snd 0) with hc0 | hc0
  · rw [hc0]; replace hc0 := of_ine_t hc0; try simp only [llen_eq] at hc0
    conv => lhs; whnf
    rw [drw (by kernel_rfl)]; conv => lhs; whnf
    rw [decA_e g0 (by assumption)]; rfl
  · rw [hc0]; replace hc0 := of_ine_f hc0; try simp only [llen_eq] at hc0
    subst hc0
    conv => lhs; whnf
    rw [toReq_call]
    rw [ev_magic]
    conv => lhs; whnf
    rw [toReq_call]
    rw [ev_same _ _ (by (simp only [llen_eq, lapp_eq, lrep_eq, lcpy_eq, lset_eq, List.length_append, List.length_take, List.length_drop, List.length_cons, List.length_nil, List.length_replicate, List.length_set, Int.toNat_natCast] at *; omega))]
    conv => lhs; whnf
    rw [bnot_eq]; conv => lhs; whnf
    rcases Bool.eq_false_or_eq_true (decide ((v0, p0, 0).fst = magicB)) with hc1 | hc1
    · rw [hc1]; replace hc1 := of_decide_eq_true hc1; try simp only at hc1
      conv => lhs; whnf
      rw [toReq_call]
      rw [ev_r3rblob b p0 0 32 hb k0]; generalize g1 : rdB b p0 0 32 = x1; obtain ⟨v1, p1, er1⟩ := x1; have k1 : p1 ≤ b.length := (by have := rdB_le (b := b) (at' := p0) (e := 0) (most := 32) k0; rw [g1] at this; exact this); have l1 : v1.length ≤ b.length := (by have := rdB_len (b := b) (at' := p0) (e := 0) (most := 32); rw [g1] at this; exact this)
      conv => lhs; whnf
      rw [toReq_call]
      rw [ev_r3rblob b p1 er1 128 hb k1]; generalize g2 : rdB b p1 er1 128 = x2; obtain ⟨v2, p2, er2⟩ := x2; have k2 : p2 ≤ b.length := (by have := rdB_le (b := b) (at' := p1) (e := er1) (most := 128) k1; rw [g2] at this; exact this); have l2 : v2.length ≤ b.length := (by have := rdB_len (b := b) (at' := p1) (e := er1) (most := 128); rw [g2] at this; exact this)
      conv => lhs; whnf
      rw [toReq_call]
      rw [ev_r3ruint b p2 er2 8 hb k2]; generalize g3 : rdU b p2 er2 8 = x3; obtain ⟨v3, p3, er3⟩ := x3; have k3 : p3 ≤ b.length := (by have := rdU_le (b := b) (at' := p2) (e := er2) (size := 8) k2; rw [g3] at this; exact this)
      conv => lhs; whnf
      rw [toReq_call]
      rw [ev_r3ruint b p3 er3 8 hb k3]; generalize g4 : rdU b p3 er3 8 = x4; obtain ⟨v4, p4, er4⟩ := x4; have k4 : p4 ≤ b.length := (by have := rdU_le (b := b) (at' := p3) (e := er3) (size := 8) k3; rw [g4] at this; exact this)
      conv => lhs; whnf
      rw [toReq_call]
      rw [ev_r3ruint b p4 er4 8 hb k4]; generalize g5 : rdU b p4 er4 8 = x5; obtain ⟨v5, p5, er5⟩ := x5; have k5 : p5 ≤ b.length := (by have := rdU_le (b := b) (at' := p4) (e := er4) (size := 8) k4; rw [g5] at this; exact this)
      conv => lhs; whnf
      rw [toReq_call]
      rw [ev_r3ruint b p5 er5 1 hb k5]; generalize g6 : rdU b p5 er5 1 = x6; obtain ⟨v6, p6, er6⟩ := x6; have k6 : p6 ≤ b.length := (by have := rdU_le (b := b) (at' := p5) (e := er5) (size := 1) k5; rw [g6] at this; exact this)
      conv => lhs; whnf
      rw [toReq_call]
      rw [ev_r3ruint b p6 er6 8 hb k6]; generalize g7 : rdU b p6 er6 8 = x7; obtain ⟨v7, p7, er7⟩ := x7; have k7 : p7 ≤ b.length := (by have := rdU_le (b := b) (at' := p6) (e := er6) (size := 8) k6; rw [g7] at this; exact this)
      conv => lhs; whnf
      rw [toReq_call]
      rw [ev_r3ruint b p7 er7 2 hb k7]; generalize g8 : rdU b p7 er7 2 = x8; obtain ⟨v8, p8, er8⟩ := x8; have k8 : p8 ≤ b.length := (by have := rdU_le (b := b) (at' := p7) (e := er7) (size := 2) k7; rw [g8] at this; exact this)
      conv => lhs; whnf
      rw [ile_t (by omega)]
      conv => lhs; whnf
      rw [ilt_t (by omega)]
      conv => lhs; whnf
      rw [toReq_call]
      rw [ev_r3ruint b p8 er8 2 hb k8]; generalize g9 : rdU b p8 er8 2 = x9; obtain ⟨v9, p9, er9⟩ := x9; have k9 : p9 ≤ b.length := (by have := rdU_le (b := b) (at' := p8) (e := er8) (size := 2) k8; rw [g9] at this; exact this)
      conv => lhs; whnf
      rw [ile_t (by omega)]
      conv => lhs; whnf
      rw [ilt_t (by omega)]
      conv => lhs; whnf
      rw [toReq_call]
      rw [ev_r3raw b p9 er9 32 hb k9 (by decide)]; generalize g10 : rdR b p9 er9 32 = x10; obtain ⟨v10, p10, er10⟩ := x10; have k10 : p10 ≤ b.length := (by have := rdR_le (b := b) (at' := p9) (e := er9) (n := 32) k9; rw [g10] at this; exact this); have l10 : v10.length ≤ b.length := (by have := rdR_len (b := b) (at' := p9) (e := er9) (n := 32); rw [g10] at this; exact this)
      conv => lhs; whnf
      rw [toReq_call]
      rw [ev_r3end _ _ _ (by omega) (by omega)]
      conv => lhs; whnf
      rw [Y_go]; conv => lhs; whnf
      rcases Bool.eq_false_or_eq_true (ine (rdE b (v10, p10, er10).snd.fst (v10, p10, er10).snd.snd) 0) with hc2 | hc2
      · rw [hc2]; replace hc2 := of_ine_t hc2; try simp only [llen_eq] at hc2
        conv => lhs; whnf
        rw [decA_of g0 (by assumption) g1 g2 g3 g4 g5 g6 g7 g8 g9 g10]; (repeat (first | rw [if_pos (by first | omega | decide | assumption | (simp only [llen_eq, lapp_eq, lrep_eq, lcpy_eq, lset_eq, List.length_append, List.length_take, List.length_drop, List.length_cons, List.length_nil, List.length_replicate, List.length_set, Int.toNat_natCast] at *; omega) | (simp; omega))] | rw [if_neg (by first | omega | decide | assumption | (simp only [llen_eq, lapp_eq, lrep_eq, lcpy_eq, lset_eq, List.length_append, List.length_take, List.length_drop, List.length_cons, List.length_nil, List.length_replicate, List.length_set, Int.toNat_natCast] at *; omega) | (simp; omega))])); rfl
      · rw [hc2]; replace hc2 := of_ine_f hc2; try simp only [llen_eq] at hc2
        conv => lhs; whnf
        rcases Bool.eq_false_or_eq_true (ine (llen (v1, p1, er1).fst) 32) with hc3 | hc3
        · rw [hc3]; replace hc3 := of_ine_t hc3; try simp only [llen_eq] at hc3
          conv => lhs; whnf
          rw [decA_of g0 (by assumption) g1 g2 g3 g4 g5 g6 g7 g8 g9 g10]; (repeat (first | rw [if_pos (by first | omega | decide | assumption | (simp only [llen_eq, lapp_eq, lrep_eq, lcpy_eq, lset_eq, List.length_append, List.length_take, List.length_drop, List.length_cons, List.length_nil, List.length_replicate, List.length_set, Int.toNat_natCast] at *; omega) | (simp; omega))] | rw [if_neg (by first | omega | decide | assumption | (simp only [llen_eq, lapp_eq, lrep_eq, lcpy_eq, lset_eq, List.length_append, List.length_take, List.length_drop, List.length_cons, List.length_nil, List.length_replicate, List.length_set, Int.toNat_natCast] at *; omega) | (simp; omega))])); rfl
        · rw [hc3]; replace hc3 := of_ine_f hc3; try simp only [llen_eq] at hc3
          conv => lhs; whnf
          rcases Bool.eq_false_or_eq_true (ilt 1 (v6, p6, er6).fst) with hc4 | hc4
          · rw [hc4]; replace hc4 := of_ilt_t hc4; try simp only [llen_eq] at hc4
            conv => lhs; whnf
            rw [decA_of g0 (by assumption) g1 g2 g3 g4 g5 g6 g7 g8 g9 g10]; (repeat (first | rw [if_pos (by first | omega | decide | assumption | (simp only [llen_eq, lapp_eq, lrep_eq, lcpy_eq, lset_eq, List.length_append, List.length_take, List.length_drop, List.length_cons, List.length_nil, List.length_replicate, List.length_set, Int.toNat_natCast] at *; omega) | (simp; omega))] | rw [if_neg (by first | omega | decide | assumption | (simp only [llen_eq, lapp_eq, lrep_eq, lcpy_eq, lset_eq, List.length_append, List.length_take, List.length_drop, List.length_cons, List.length_nil, List.length_replicate, List.length_set, Int.toNat_natCast] at *; omega) | (simp; omega))])); rfl
          · rw [hc4]; replace hc4 := of_ilt_f hc4; try simp only [llen_eq] at hc4
            conv => lhs; whnf
            rw [decA_of g0 (by assumption) g1 g2 g3 g4 g5 g6 g7 g8 g9 g10]; (repeat (first | rw [if_pos (by first | omega | decide | assumption | (simp only [llen_eq, lapp_eq, lrep_eq, lcpy_eq, lset_eq, List.length_append, List.length_take, List.length_drop, List.length_cons, List.length_nil, List.length_replicate, List.length_set, Int.toNat_natCast] at *; omega) | (simp; omega))] | rw [if_neg (by first | omega | decide | assumption | (simp only [llen_eq, lapp_eq, lrep_eq, lcpy_eq, lset_eq, List.length_append, List.length_take, List.length_drop, List.length_cons, List.length_nil, List.length_replicate, List.length_set, Int.toNat_natCast] at *; omega) | (simp; omega))])); rw [← ieq_beq]
    · rw [hc1]; replace hc1 := of_decide_eq_false hc1; try simp only at hc1
      conv => lhs; whnf
      rw [decA_m g0 (by assumption)]; rfl
end Go.Proofs.Ytlaglaehkhmklaa
