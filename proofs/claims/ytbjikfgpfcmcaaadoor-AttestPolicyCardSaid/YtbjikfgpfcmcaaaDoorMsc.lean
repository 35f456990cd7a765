/-
  Own texts, laid together for this claim: contracts of functions of the program and its references, used by the statements of this seat.
-/
import Derived.Test.YtbjikfgpfcmcaaaDoorMsb

namespace Go.Ax
abbrev attX (a : Att) : List AV := [.sl .u8 a.key, .sl .u8 a.nonce, .i a.resets, .i a.restarts, .i a.clock, .b a.safe, .i a.updates, .i a.s0, .i a.s1, .sl .u8 a.digest]
theorem magicB_len : magicB.length = 4 := rfl
end Go.Ax
namespace Go.Proofs.YtbjikfgpfcmcaaaDoor
open Go Go.Ax
set_option linter.unusedVariables false
set_option linter.unusedSimpArgs false
attribute [local irreducible] iadd isub imul iquo irem ibit ineg ieq ine ilt ile ishl ishr beq' bnot and' seq' u8op u8rem u32op u64op u8shr u8shl u64shr u64shl u32shr u32shl i64w u8i u64i iu8 iu32 iu64 u8u64 u64u8 u32u8 u64cmp u8cmp u32cmp llen lget linb lset lcut lrep lapp lcpy lemp fits fitn sealed drawChk fpSame
set_option maxHeartbeats 1000000
set_option maxRecDepth 100000
theorem ev_magic : Y E0 (.call 69 [] []) = some (.ret (.sl .u8 magicB) []) := by
  rw [Y_go]; conv => lhs; whnf
  rfl
theorem ev_att_encode_loop (b : List UInt8) (a : Att) (s0 s1 : Int) (hb : b.length ≤ 1000000) : Y E0 (.loop 35 0 0 2 [(1, .pa 0 0), (3, .nm 1), (37, .agg [.i s0, .i s1]), (38, .i 0)] [(0, some (.var (attX a))), (1, some (.row 5 .u8 b))]) = some (.fin (.exit 0) 2 [(1, .pa 0 0), (3, .nm 1)] [(0, some (.var (attX a))), (1, some (.row 5 .u8 (uintB (uintB b 2 s0) 2 s1)))]) := by
  dsimp only [attX]
  rw [Y_go]; conv => lhs; whnf
  rw [ilt_t (by omega)]
  conv => lhs; whnf
  rw [ile_t (by omega)]
  conv => lhs; whnf
  rw [ilt_t (by omega)]
  conv => lhs; whnf
  rw [toReq_call]
  rw [ev_uint _ _ _ (by omega)]
  conv => lhs; whnf
  rw [iadd_eq (by omega)]
  rw [Y_go]; conv => lhs; whnf
  rw [ilt_t (by omega)]
  conv => lhs; whnf
  rw [ile_t (by omega)]
  conv => lhs; whnf
  rw [ilt_t (by omega)]
  conv => lhs; whnf
  rw [toReq_call]
  rw [ev_uint _ _ _ (by (simp only [uintB_l8, uintB_l4, uintB_l3, uintB_l2, uintB_l1, blobB_l, seedB_len, magicB_len, LL] at * <;> omega))]
  conv => lhs; whnf
  rw [iadd_eq (by omega)]
  rw [Y_go]; conv => lhs; whnf
  rw [ilt_f (by omega)]
  conv => lhs; whnf
theorem ev_att_encode (a : Att) (hk : a.key.length ≤ 100000) (hn : a.nonce.length ≤ 100000) (hd : a.digest.length ≤ 100000) : Y E0 (.call 35 [.agg (attX a)] []) = some (.ret (.sl .u8 (encA a)) []) := by
  obtain ⟨key, nonce, resets, restarts, clock, safe, updates, s0, s1, digest⟩ := a
  simp only at hk hn hd
  dsimp only [attX]
  cases safe
  · have hlp := fun b hb => ev_att_encode_loop b ⟨key, nonce, resets, restarts, clock, false, updates, s0, s1, digest⟩ s0 s1 hb
    dsimp only [attX] at hlp
    rw [Y_go]; conv => lhs; whnf
    rw [toReq_call]
    rw [ev_blob _ _ (by (simp only [uintB_l8, uintB_l4, uintB_l3, uintB_l2, uintB_l1, blobB_l, seedB_len, magicB_len, LL] at * <;> omega))]
    conv => lhs; whnf
    rw [toReq_call]
    rw [ev_blob _ _ (by (simp only [uintB_l8, uintB_l4, uintB_l3, uintB_l2, uintB_l1, blobB_l, seedB_len, magicB_len, LL] at * <;> omega))]
    conv => lhs; whnf
    rw [drw (by kernel_rfl)]; conv => lhs; whnf
    rw [toReq_call]
    rw [ev_uint _ _ _ (by (simp only [uintB_l8, uintB_l4, uintB_l3, uintB_l2, uintB_l1, blobB_l, seedB_len, magicB_len, LL] at * <;> omega))]
    conv => lhs; whnf
    rw [toReq_call]
    rw [ev_uint _ _ _ (by (simp only [uintB_l8, uintB_l4, uintB_l3, uintB_l2, uintB_l1, blobB_l, seedB_len, magicB_len, LL] at * <;> omega))]
    conv => lhs; whnf
    rw [toReq_call]
    rw [ev_uint _ _ _ (by (simp only [uintB_l8, uintB_l4, uintB_l3, uintB_l2, uintB_l1, blobB_l, seedB_len, magicB_len, LL] at * <;> omega))]
    conv => lhs; whnf
    rw [Y_go]; conv => lhs; whnf
    rw [toReq_call]
    rw [ev_uint _ _ _ (by (simp only [uintB_l8, uintB_l4, uintB_l3, uintB_l2, uintB_l1, blobB_l, seedB_len, magicB_len, LL] at * <;> omega))]
    conv => lhs; whnf
    rw [toReq_call]
    rw [ev_uint _ _ _ (by (simp only [uintB_l8, uintB_l4, uintB_l3, uintB_l2, uintB_l1, blobB_l, seedB_len, magicB_len, LL] at * <;> omega))]
    conv => lhs; whnf
    rw [toReq_loop]
    rw [hlp _ (by first | omega | decide | assumption | (simp only [uintB_l8, uintB_l4, uintB_l3, uintB_l2, uintB_l1, blobB_l, seedB_len, magicB_len, LL] at * <;> omega) | (simp; omega))]
    conv => lhs; whnf
    rw [fits_t (by (simp only [uintB_l8, uintB_l4, uintB_l3, uintB_l2, uintB_l1, blobB_l, seedB_len, magicB_len, LL] at * <;> omega))]
    conv => lhs; whnf
    rw [lapp_eq]; rfl
  · have hlp := fun b hb => ev_att_encode_loop b ⟨key, nonce, resets, restarts, clock, true, updates, s0, s1, digest⟩ s0 s1 hb
    dsimp only [attX] at hlp
    rw [Y_go]; conv => lhs; whnf
    rw [toReq_call]
    rw [ev_blob _ _ (by (simp only [uintB_l8, uintB_l4, uintB_l3, uintB_l2, uintB_l1, blobB_l, seedB_len, magicB_len, LL] at * <;> omega))]
    conv => lhs; whnf
    rw [toReq_call]
    rw [ev_blob _ _ (by (simp only [uintB_l8, uintB_l4, uintB_l3, uintB_l2, uintB_l1, blobB_l, seedB_len, magicB_len, LL] at * <;> omega))]
    conv => lhs; whnf
    rw [drw (by kernel_rfl)]; conv => lhs; whnf
    rw [toReq_call]
    rw [ev_uint _ _ _ (by (simp only [uintB_l8, uintB_l4, uintB_l3, uintB_l2, uintB_l1, blobB_l, seedB_len, magicB_len, LL] at * <;> omega))]
    conv => lhs; whnf
    rw [toReq_call]
    rw [ev_uint _ _ _ (by (simp only [uintB_l8, uintB_l4, uintB_l3, uintB_l2, uintB_l1, blobB_l, seedB_len, magicB_len, LL] at * <;> omega))]
    conv => lhs; whnf
    rw [toReq_call]
    rw [ev_uint _ _ _ (by (simp only [uintB_l8, uintB_l4, uintB_l3, uintB_l2, uintB_l1, blobB_l, seedB_len, magicB_len, LL] at * <;> omega))]
    conv => lhs; whnf
    rw [Y_go]; conv => lhs; whnf
    rw [toReq_call]
    rw [ev_uint _ _ _ (by (simp only [uintB_l8, uintB_l4, uintB_l3, uintB_l2, uintB_l1, blobB_l, seedB_len, magicB_len, LL] at * <;> omega))]
    conv => lhs; whnf
    rw [toReq_call]
    rw [ev_uint _ _ _ (by (simp only [uintB_l8, uintB_l4, uintB_l3, uintB_l2, uintB_l1, blobB_l, seedB_len, magicB_len, LL] at * <;> omega))]
    conv => lhs; whnf
    rw [toReq_loop]
    rw [hlp _ (by first | omega | decide | assumption | (simp only [uintB_l8, uintB_l4, uintB_l3, uintB_l2, uintB_l1, blobB_l, seedB_len, magicB_len, LL] at * <;> omega) | (simp; omega))]
    conv => lhs; whnf
    rw [fits_t (by (simp only [uintB_l8, uintB_l4, uintB_l3, uintB_l2, uintB_l1, blobB_l, seedB_len, magicB_len, LL] at * <;> omega))]
    conv => lhs; whnf
    rw [lapp_eq]; rfl
theorem ev_r16_encode (a : Att) (hk : a.key.length ≤ 100000) (hn : a.nonce.length ≤ 100000) (hd : a.digest.length ≤ 100000) : Y E0 (.call 31 [.agg (attX a)] []) = some (.ret (.nm 0) [some (.row 5 .u8 (encA a))]) := by
  obtain ⟨key, nonce, resets, restarts, clock, safe, updates, s0, s1, digest⟩ := a
  simp only at hk hn hd
  dsimp only [attX]
  cases safe
  · rw [Y_go]; conv => lhs; whnf
    rw [toReq_call]
    rw [ev_magic]
    conv => lhs; whnf
    rw [toReq_call]
    rw [ev_r3blob _ _ (by (simp only [uintB_l8, uintB_l4, uintB_l3, uintB_l2, uintB_l1, blobB_l, seedB_len, magicB_len, LL] at * <;> omega))]
    conv => lhs; whnf
    rw [toReq_call]
    rw [ev_r3blob _ _ (by (simp only [uintB_l8, uintB_l4, uintB_l3, uintB_l2, uintB_l1, blobB_l, seedB_len, magicB_len, LL] at * <;> omega))]
    conv => lhs; whnf
    rw [drw (by kernel_rfl)]; conv => lhs; whnf
    rw [toReq_call]
    rw [ev_r3uint _ _ _ (by (simp only [uintB_l8, uintB_l4, uintB_l3, uintB_l2, uintB_l1, blobB_l, seedB_len, magicB_len, LL] at * <;> omega))]
    conv => lhs; whnf
    rw [toReq_call]
    rw [ev_r3uint _ _ _ (by (simp only [uintB_l8, uintB_l4, uintB_l3, uintB_l2, uintB_l1, blobB_l, seedB_len, magicB_len, LL] at * <;> omega))]
    conv => lhs; whnf
    rw [toReq_call]
    rw [ev_r3uint _ _ _ (by (simp only [uintB_l8, uintB_l4, uintB_l3, uintB_l2, uintB_l1, blobB_l, seedB_len, magicB_len, LL] at * <;> omega))]
    conv => lhs; whnf
    rw [drw (by kernel_rfl)]; conv => lhs; whnf
    rw [Y_go]; conv => lhs; whnf
    rw [fits_t (by (simp only [uintB_l8, uintB_l4, uintB_l3, uintB_l2, uintB_l1, blobB_l, seedB_len, magicB_len, LL] at * <;> omega))]
    conv => lhs; whnf
    rw [toReq_call]
    rw [ev_r3uint _ _ _ (by (simp only [uintB_l8, uintB_l4, uintB_l3, uintB_l2, uintB_l1, blobB_l, seedB_len, magicB_len, LL] at * <;> omega))]
    conv => lhs; whnf
    rw [drw (by kernel_rfl)]; conv => lhs; whnf
    rw [ile_t (by omega)]
    conv => lhs; whnf
    rw [ilt_t (by omega)]
    conv => lhs; whnf
    rw [toReq_call]
    rw [ev_r3uint _ _ _ (by (simp only [uintB_l8, uintB_l4, uintB_l3, uintB_l2, uintB_l1, blobB_l, seedB_len, magicB_len, LL] at * <;> omega))]
    conv => lhs; whnf
    rw [ile_t (by omega)]
    conv => lhs; whnf
    rw [ilt_t (by omega)]
    conv => lhs; whnf
    rw [toReq_call]
    rw [ev_r3uint _ _ _ (by (simp only [uintB_l8, uintB_l4, uintB_l3, uintB_l2, uintB_l1, blobB_l, seedB_len, magicB_len, LL] at * <;> omega))]
    conv => lhs; whnf
    rw [fits_t (by (simp only [uintB_l8, uintB_l4, uintB_l3, uintB_l2, uintB_l1, blobB_l, seedB_len, magicB_len, LL] at * <;> omega))]
    conv => lhs; whnf
    rw [drw (by kernel_rfl)]; conv => lhs; whnf
    simp only [lapp_eq, encA, cond_false, cond_true, uintB0, uintB1, iu8_eq]; rfl
  · rw [Y_go]; conv => lhs; whnf
    rw [toReq_call]
    rw [ev_magic]
    conv => lhs; whnf
    rw [toReq_call]
    rw [ev_r3blob _ _ (by (simp only [uintB_l8, uintB_l4, uintB_l3, uintB_l2, uintB_l1, blobB_l, seedB_len, magicB_len, LL] at * <;> omega))]
    conv => lhs; whnf
    rw [toReq_call]
    rw [ev_r3blob _ _ (by (simp only [uintB_l8, uintB_l4, uintB_l3, uintB_l2, uintB_l1, blobB_l, seedB_len, magicB_len, LL] at * <;> omega))]
    conv => lhs; whnf
    rw [drw (by kernel_rfl)]; conv => lhs; whnf
    rw [toReq_call]
    rw [ev_r3uint _ _ _ (by (simp only [uintB_l8, uintB_l4, uintB_l3, uintB_l2, uintB_l1, blobB_l, seedB_len, magicB_len, LL] at * <;> omega))]
    conv => lhs; whnf
    rw [toReq_call]
    rw [ev_r3uint _ _ _ (by (simp only [uintB_l8, uintB_l4, uintB_l3, uintB_l2, uintB_l1, blobB_l, seedB_len, magicB_len, LL] at * <;> omega))]
    conv => lhs; whnf
    rw [toReq_call]
    rw [ev_r3uint _ _ _ (by (simp only [uintB_l8, uintB_l4, uintB_l3, uintB_l2, uintB_l1, blobB_l, seedB_len, magicB_len, LL] at * <;> omega))]
    conv => lhs; whnf
    rw [drw (by kernel_rfl)]; conv => lhs; whnf
    rw [Y_go]; conv => lhs; whnf
    rw [fits_t (by (simp only [uintB_l8, uintB_l4, uintB_l3, uintB_l2, uintB_l1, blobB_l, seedB_len, magicB_len, LL] at * <;> omega))]
    conv => lhs; whnf
    rw [toReq_call]
    rw [ev_r3uint _ _ _ (by (simp only [uintB_l8, uintB_l4, uintB_l3, uintB_l2, uintB_l1, blobB_l, seedB_len, magicB_len, LL] at * <;> omega))]
    conv => lhs; whnf
    rw [drw (by kernel_rfl)]; conv => lhs; whnf
    rw [ile_t (by omega)]
    conv => lhs; whnf
    rw [ilt_t (by omega)]
    conv => lhs; whnf
    rw [toReq_call]
    rw [ev_r3uint _ _ _ (by (simp only [uintB_l8, uintB_l4, uintB_l3, uintB_l2, uintB_l1, blobB_l, seedB_len, magicB_len, LL] at * <;> omega))]
    conv => lhs; whnf
    rw [ile_t (by omega)]
    conv => lhs; whnf
    rw [ilt_t (by omega)]
    conv => lhs; whnf
    rw [toReq_call]
    rw [ev_r3uint _ _ _ (by (simp only [uintB_l8, uintB_l4, uintB_l3, uintB_l2, uintB_l1, blobB_l, seedB_len, magicB_len, LL] at * <;> omega))]
    conv => lhs; whnf
    rw [fits_t (by (simp only [uintB_l8, uintB_l4, uintB_l3, uintB_l2, uintB_l1, blobB_l, seedB_len, magicB_len, LL] at * <;> omega))]
    conv => lhs; whnf
    rw [drw (by kernel_rfl)]; conv => lhs; whnf
    simp only [lapp_eq, encA, cond_false, cond_true, uintB0, uintB1, iu8_eq]; rfl
end Go.Proofs.YtbjikfgpfcmcaaaDoor

namespace Go.Proofs.YtbjikfgpfcmcaaaDoor
open Go Go.Ax
set_option linter.unusedVariables false
set_option linter.unusedSimpArgs false
attribute [local irreducible] iadd isub imul iquo irem ibit ineg ieq ine ilt ile ishl ishr beq' bnot and' seq' u8op u8rem u32op u64op u8shr u8shl u64shr u64shl u32shr u32shl i64w u8i u64i iu8 iu32 iu64 u8u64 u64u8 u32u8 u64cmp u8cmp u32cmp llen lget linb lset lcut lrep lapp lcpy lemp fits fitn sealed drawChk fpSame
set_option maxHeartbeats 4000000
set_option maxRecDepth 100000
theorem ev_r16_decode (b : List UInt8) (hb : b.length ≤ 4294967296) : Y E0 (.call 74 [.sl .u8 b] []) = some (.ret (.tup [.agg (attX (decA b).1), .i (decA b).2]) []) := by
  rw [Y_go]; conv => lhs; whnf
  rw [toReq_call]
  rw [ev_r3new _]
  conv => lhs; whnf
  rw [toReq_call]
  rw [show Y E0 (.call 125 [.pa 0 0, .i 4] [.var [.sl .u8 b, .i 0, .i 0]]) = _ from ev_r3raw b 0 0 4 hb (Nat.zero_le _) (by decide)]; generalize g0 : rdR b 0 0 4 = x0; obtain ⟨v0, p0, er0⟩ := x0; have k0 : p0 ≤ b.length := (by have := rdR_le (b := b) (at' := 0) (e := 0) (n := 4) (Nat.zero_le _); rw [g0] at this; exact this); have l0 : v0.length ≤ b.length := (by have := rdR_len (b := b) (at' := 0) (e := 0) (n := 4); rw [g0] at this; exact this)
  conv => lhs; whnf
  rcases Bool.eq_false_or_eq_true (ine (v0, p0, er0).snd.snd 0) with hc0 | hc0
  · rw [hc0]; replace hc0 := of_ine_t hc0; try simp only [llen_eq] at hc0
    conv => lhs; whnf
    rw [drw (by kernel_rfl)]; conv => lhs; whnf
    rw [decA_e g0 (by assumption)]; rfl
  · rw [hc0]; replace hc0 := of_ine_f hc0; try simp only [llen_eq] at hc0
    subst hc0
    conv => lhs; whnf
    rw [toReq_call]
    rw [ev_magic]
    conv => lhs; whnf
    rw [toReq_call]
    rw [ev_same _ _ (by (simp only [LL] at * <;> omega))]
    conv => lhs; whnf
    rw [bnot_eq]; conv => lhs; whnf
    rcases Bool.eq_false_or_eq_true (decide ((v0, p0, 0).fst = magicB)) with hc1 | hc1
    · rw [hc1]; replace hc1 := of_decide_eq_true hc1; try simp only at hc1
      conv => lhs; whnf
      rw [toReq_call]
      rw [ev_r3rblob b p0 0 32 hb k0]; generalize g1 : rdB b p0 0 32 = x1; obtain ⟨v1, p1, er1⟩ := x1; have k1 : p1 ≤ b.length := (by have := rdB_le (b := b) (at' := p0) (e := 0) (most := 32) k0; rw [g1] at this; exact this); have l1 : v1.length ≤ b.length := (by have := rdB_len (b := b) (at' := p0) (e := 0) (most := 32); rw [g1] at this; exact this)
      conv => lhs; whnf
      rw [toReq_call]
      rw [ev_r3rblob b p1 er1 128 hb k1]; generalize g2 : rdB b p1 er1 128 = x2; obtain ⟨v2, p2, er2⟩ := x2; have k2 : p2 ≤ b.length := (by have := rdB_le (b := b) (at' := p1) (e := er1) (most := 128) k1; rw [g2] at this; exact this); have l2 : v2.length ≤ b.length := (by have := rdB_len (b := b) (at' := p1) (e := er1) (most := 128); rw [g2] at this; exact this)
      conv => lhs; whnf
      rw [toReq_call]
      rw [ev_r3ruint b p2 er2 8 hb k2]; generalize g3 : rdU b p2 er2 8 = x3; obtain ⟨v3, p3, er3⟩ := x3; have k3 : p3 ≤ b.length := (by have := rdU_le (b := b) (at' := p2) (e := er2) (size := 8) k2; rw [g3] at this; exact this)
      conv => lhs; whnf
      rw [toReq_call]
      rw [ev_r3ruint b p3 er3 8 hb k3]; generalize g4 : rdU b p3 er3 8 = x4; obtain ⟨v4, p4, er4⟩ := x4; have k4 : p4 ≤ b.length := (by have := rdU_le (b := b) (at' := p3) (e := er3) (size := 8) k3; rw [g4] at this; exact this)
      conv => lhs; whnf
      rw [toReq_call]
      rw [ev_r3ruint b p4 er4 8 hb k4]; generalize g5 : rdU b p4 er4 8 = x5; obtain ⟨v5, p5, er5⟩ := x5; have k5 : p5 ≤ b.length := (by have := rdU_le (b := b) (at' := p4) (e := er4) (size := 8) k4; rw [g5] at this; exact this)
      conv => lhs; whnf
      rw [toReq_call]
      rw [ev_r3ruint b p5 er5 1 hb k5]; generalize g6 : rdU b p5 er5 1 = x6; obtain ⟨v6, p6, er6⟩ := x6; have k6 : p6 ≤ b.length := (by have := rdU_le (b := b) (at' := p5) (e := er5) (size := 1) k5; rw [g6] at this; exact this)
      conv => lhs; whnf
      rw [toReq_call]
      rw [ev_r3ruint b p6 er6 8 hb k6]; generalize g7 : rdU b p6 er6 8 = x7; obtain ⟨v7, p7, er7⟩ := x7; have k7 : p7 ≤ b.length := (by have := rdU_le (b := b) (at' := p6) (e := er6) (size := 8) k6; rw [g7] at this; exact this)
      conv => lhs; whnf
      rw [toReq_call]
      rw [ev_r3ruint b p7 er7 2 hb k7]; generalize g8 : rdU b p7 er7 2 = x8; obtain ⟨v8, p8, er8⟩ := x8; have k8 : p8 ≤ b.length := (by have := rdU_le (b := b) (at' := p7) (e := er7) (size := 2) k7; rw [g8] at this; exact this)
      conv => lhs; whnf
      rw [ile_t (by omega)]
      conv => lhs; whnf
      rw [ilt_t (by omega)]
      conv => lhs; whnf
      rw [toReq_call]
      rw [ev_r3ruint b p8 er8 2 hb k8]; generalize g9 : rdU b p8 er8 2 = x9; obtain ⟨v9, p9, er9⟩ := x9; have k9 : p9 ≤ b.length := (by have := rdU_le (b := b) (at' := p8) (e := er8) (size := 2) k8; rw [g9] at this; exact this)
      conv => lhs; whnf
      rw [ile_t (by omega)]
      conv => lhs; whnf
      rw [ilt_t (by omega)]
      conv => lhs; whnf
      rw [toReq_call]
      rw [ev_r3raw b p9 er9 32 hb k9 (by decide)]; generalize g10 : rdR b p9 er9 32 = x10; obtain ⟨v10, p10, er10⟩ := x10; have k10 : p10 ≤ b.length := (by have := rdR_le (b := b) (at' := p9) (e := er9) (n := 32) k9; rw [g10] at this; exact this); have l10 : v10.length ≤ b.length := (by have := rdR_len (b := b) (at' := p9) (e := er9) (n := 32); rw [g10] at this; exact this)
      conv => lhs; whnf
      rw [toReq_call]
      rw [ev_r3end _ _ _ (by omega) (by omega)]
      conv => lhs; whnf
      rw [Y_go]; conv => lhs; whnf
      rcases Bool.eq_false_or_eq_true (ine (rdE b (v10, p10, er10).snd.fst (v10, p10, er10).snd.snd) 0) with hc2 | hc2
      · rw [hc2]; replace hc2 := of_ine_t hc2; try simp only [llen_eq] at hc2
        conv => lhs; whnf
        rw [decA_of g0 (by assumption) g1 g2 g3 g4 g5 g6 g7 g8 g9 g10]; (repeat (first | rw [if_pos (by first | omega | decide | assumption | (simp only [LL] at * <;> omega) | (simp; omega))] | rw [if_neg (by first | omega | decide | assumption | (simp only [LL] at * <;> omega) | (simp; omega))])); rfl
      · rw [hc2]; replace hc2 := of_ine_f hc2; try simp only [llen_eq] at hc2
        conv => lhs; whnf
        rcases Bool.eq_false_or_eq_true (ine (llen (v1, p1, er1).fst) 32) with hc3 | hc3
        · rw [hc3]; replace hc3 := of_ine_t hc3; try simp only [llen_eq] at hc3
          conv => lhs; whnf
          rw [decA_of g0 (by assumption) g1 g2 g3 g4 g5 g6 g7 g8 g9 g10]; (repeat (first | rw [if_pos (by first | omega | decide | assumption | (simp only [LL] at * <;> omega) | (simp; omega))] | rw [if_neg (by first | omega | decide | assumption | (simp only [LL] at * <;> omega) | (simp; omega))])); rfl
        · rw [hc3]; replace hc3 := of_ine_f hc3; try simp only [llen_eq] at hc3
          conv => lhs; whnf
          rcases Bool.eq_false_or_eq_true (ilt 1 (v6, p6, er6).fst) with hc4 | hc4
          · rw [hc4]; replace hc4 := of_ilt_t hc4; try simp only [llen_eq] at hc4
            conv => lhs; whnf
            rw [decA_of g0 (by assumption) g1 g2 g3 g4 g5 g6 g7 g8 g9 g10]; (repeat (first | rw [if_pos (by first | omega | decide | assumption | (simp only [LL] at * <;> omega) | (simp; omega))] | rw [if_neg (by first | omega | decide | assumption | (simp only [LL] at * <;> omega) | (simp; omega))])); rfl
          · rw [hc4]; replace hc4 := of_ilt_f hc4; try simp only [llen_eq] at hc4
            conv => lhs; whnf
            rw [decA_of g0 (by assumption) g1 g2 g3 g4 g5 g6 g7 g8 g9 g10]; (repeat (first | rw [if_pos (by first | omega | decide | assumption | (simp only [LL] at * <;> omega) | (simp; omega))] | rw [if_neg (by first | omega | decide | assumption | (simp only [LL] at * <;> omega) | (simp; omega))])); rw [← ieq_beq]
    · rw [hc1]; replace hc1 := of_decide_eq_false hc1; try simp only at hc1
      conv => lhs; whnf
      rw [decA_m g0 (by assumption)]; rfl
end Go.Proofs.YtbjikfgpfcmcaaaDoor

namespace Go.Proofs.YtbjikfgpfcmcaaaDoor
open Go Go.Ax
set_option linter.unusedVariables false
set_option linter.unusedSimpArgs false
attribute [local irreducible] iadd isub imul iquo irem ibit ineg ieq ine ilt ile ishl ishr beq' bnot and' seq' u8op u8rem u32op u64op u8shr u8shl u64shr u64shl u32shr u32shl i64w u8i u64i iu8 iu32 iu64 u8u64 u64u8 u32u8 u64cmp u8cmp u32cmp llen lget linb lset lcut lrep lapp lcpy lemp fits fitn sealed drawChk fpSame
set_option maxHeartbeats 4000000
set_option maxRecDepth 100000
theorem ev_att_decode_loop (b v1 v2 : List UInt8) (v3 v4 v5 v6 v7 : Int) {p p8 p9 : Nat} {e v8 e8 v9 e9 : Int} (hb : b.length ≤ 4294967296) (hp : p ≤ b.length) (g8 : rdU b p e 2 = (v8, p8, e8)) (g9 : rdU b p8 e8 2 = (v9, p9, e9)) :
    Y E0 (.loop 65 0 0 2 [(2, .pa 0 0), (4, .pa 1 0), (6, .i v6), (43, .i 0)] [(0, some (.var [.sl .u8 v1, .sl .u8 v2, .i v3, .i v4, .i v5, .b false, .i v7, .i 0, .i 0, .nil])), (1, some (.var [.sl .u8 b, .i p, .i e]))]) = some (.fin (.exit 0) 2 [(2, .pa 0 0), (4, .pa 1 0), (6, .i v6)] [(0, some (.var [.sl .u8 v1, .sl .u8 v2, .i v3, .i v4, .i v5, .b false, .i v7, .i v8, .i v9, .nil])), (1, some (.var [.sl .u8 b, .i p9, .i e9]))]) := by
  have k8 : p8 ≤ b.length := by have := rdU_le (b := b) (at' := p) (e := e) (size := 2) hp; rw [g8] at this; exact this
  rw [Y_go]; conv => lhs; whnf
  rw [ilt_t (by omega)]
  conv => lhs; whnf
  rw [toReq_call]
  rw [ev_ruint b p e 2 hb hp, g8]
  conv => lhs; whnf
  rw [ile_t (by omega)]
  conv => lhs; whnf
  rw [ilt_t (by omega)]
  conv => lhs; whnf
  rw [iadd_eq (by omega)]
  rw [Y_go]; conv => lhs; whnf
  rw [ilt_t (by omega)]
  conv => lhs; whnf
  rw [toReq_call]
  rw [ev_ruint b p8 e8 2 hb k8, g9]
  conv => lhs; whnf
  rw [ile_t (by omega)]
  conv => lhs; whnf
  rw [ilt_t (by omega)]
  conv => lhs; whnf
  rw [iadd_eq (by omega)]
  rw [Y_go]; conv => lhs; whnf
  rw [ilt_f (by omega)]
  conv => lhs; whnf
theorem ev_att_decode (b : List UInt8) (hb : b.length ≤ 4294967296) : Y E0 (.call 65 [.sl .u8 b] []) = some (.ret (.tup [.agg (attX (decA b).1), .i (decA b).2]) []) := by
  rw [Y_go]; conv => lhs; whnf
  rw [toReq_call]
  rw [ev_new _ (by omega)]
  conv => lhs; whnf
  rw [toReq_call]
  rw [show Y E0 (.call 117 [.pa 0 0, .i 4] [.var [.sl .u8 b, .i 0, .i 0]]) = _ from ev_raw b 0 0 4 hb (Nat.zero_le _) (by decide)]; generalize g0 : rdR b 0 0 4 = x0; obtain ⟨v0, p0, er0⟩ := x0; have k0 : p0 ≤ b.length := (by have := rdR_le (b := b) (at' := 0) (e := 0) (n := 4) (Nat.zero_le _); rw [g0] at this; exact this); have l0 : v0.length ≤ b.length := (by have := rdR_len (b := b) (at' := 0) (e := 0) (n := 4); rw [g0] at this; exact this)
  conv => lhs; whnf
  rw [toReq_call]
  rw [ev_rerr _ _ _]
  conv => lhs; whnf
  rcases Bool.eq_false_or_eq_true (ine (v0, p0, er0).snd.snd 0) with hc0 | hc0
  · rw [hc0]; replace hc0 := of_ine_t hc0; try simp only [llen_eq] at hc0
    conv => lhs; whnf
    rw [toReq_call]
    rw [ev_rerr _ _ _]
    conv => lhs; whnf
    rw [decA_e g0 (by assumption)]; rfl
  · rw [hc0]; replace hc0 := of_ine_f hc0; try simp only [llen_eq] at hc0
    subst hc0
    conv => lhs; whnf
    rw [bnot_eq]; conv => lhs; whnf
    rcases Bool.eq_false_or_eq_true (seq' (v0, p0, 0).fst (strOf { data := #[83, 87, 81, 49] })) with hc1 | hc1
    · rw [hc1]; replace hc1 := of_seq_t hc1; try simp only [llen_eq] at hc1
      conv => lhs; whnf
      rw [toReq_call]
      rw [ev_rblob b p0 0 32 hb k0]; generalize g1 : rdB b p0 0 32 = x1; obtain ⟨v1, p1, er1⟩ := x1; have k1 : p1 ≤ b.length := (by have := rdB_le (b := b) (at' := p0) (e := 0) (most := 32) k0; rw [g1] at this; exact this); have l1 : v1.length ≤ b.length := (by have := rdB_len (b := b) (at' := p0) (e := 0) (most := 32); rw [g1] at this; exact this)
      conv => lhs; whnf
      rw [toReq_call]
      rw [ev_rblob b p1 er1 128 hb k1]; generalize g2 : rdB b p1 er1 128 = x2; obtain ⟨v2, p2, er2⟩ := x2; have k2 : p2 ≤ b.length := (by have := rdB_le (b := b) (at' := p1) (e := er1) (most := 128) k1; rw [g2] at this; exact this); have l2 : v2.length ≤ b.length := (by have := rdB_len (b := b) (at' := p1) (e := er1) (most := 128); rw [g2] at this; exact this)
      conv => lhs; whnf
      rw [toReq_call]
      rw [ev_ruint b p2 er2 8 hb k2]; generalize g3 : rdU b p2 er2 8 = x3; obtain ⟨v3, p3, er3⟩ := x3; have k3 : p3 ≤ b.length := (by have := rdU_le (b := b) (at' := p2) (e := er2) (size := 8) k2; rw [g3] at this; exact this)
      conv => lhs; whnf
      rw [toReq_call]
      rw [ev_ruint b p3 er3 8 hb k3]; generalize g4 : rdU b p3 er3 8 = x4; obtain ⟨v4, p4, er4⟩ := x4; have k4 : p4 ≤ b.length := (by have := rdU_le (b := b) (at' := p3) (e := er3) (size := 8) k3; rw [g4] at this; exact this)
      conv => lhs; whnf
      rw [toReq_call]
      rw [ev_ruint b p4 er4 8 hb k4]; generalize g5 : rdU b p4 er4 8 = x5; obtain ⟨v5, p5, er5⟩ := x5; have k5 : p5 ≤ b.length := (by have := rdU_le (b := b) (at' := p4) (e := er4) (size := 8) k4; rw [g5] at this; exact this)
      conv => lhs; whnf
      rw [toReq_call]
      rw [ev_ruint b p5 er5 1 hb k5]; generalize g6 : rdU b p5 er5 1 = x6; obtain ⟨v6, p6, er6⟩ := x6; have k6 : p6 ≤ b.length := (by have := rdU_le (b := b) (at' := p5) (e := er5) (size := 1) k5; rw [g6] at this; exact this)
      conv => lhs; whnf
      rw [toReq_call]
      rw [ev_ruint b p6 er6 8 hb k6]; generalize g7 : rdU b p6 er6 8 = x7; obtain ⟨v7, p7, er7⟩ := x7; have k7 : p7 ≤ b.length := (by have := rdU_le (b := b) (at' := p6) (e := er6) (size := 8) k6; rw [g7] at this; exact this)
      conv => lhs; whnf
      rw [toReq_loop]
      generalize g8 : rdU b p7 er7 2 = x8; obtain ⟨v8, p8, er8⟩ := x8; generalize g9 : rdU b p8 er8 2 = x9; obtain ⟨v9, p9, er9⟩ := x9; have k8 : p8 ≤ b.length := (by have := rdU_le (b := b) (at' := p7) (e := er7) (size := 2) k7; rw [g8] at this; exact this); have k9 : p9 ≤ b.length := (by have := rdU_le (b := b) (at' := p8) (e := er8) (size := 2) k8; rw [g9] at this; exact this); rw [ev_att_decode_loop b v1 v2 v3 v4 v5 v6 v7 hb k7 g8 g9]
      conv => lhs; whnf
      rw [toReq_call]
      rw [ev_raw b p9 er9 32 hb k9 (by decide)]; generalize g10 : rdR b p9 er9 32 = x10; obtain ⟨v10, p10, er10⟩ := x10; have k10 : p10 ≤ b.length := (by have := rdR_le (b := b) (at' := p9) (e := er9) (n := 32) k9; rw [g10] at this; exact this); have l10 : v10.length ≤ b.length := (by have := rdR_len (b := b) (at' := p9) (e := er9) (n := 32); rw [g10] at this; exact this)
      conv => lhs; whnf
      rw [toReq_call]
      rw [ev_rend _ _ _ (by omega) (by omega)]
      conv => lhs; whnf
      rcases Bool.eq_false_or_eq_true (ine (rdE b (v10, p10, er10).snd.fst (v10, p10, er10).snd.snd) 0) with hc2 | hc2
      · rw [hc2]; replace hc2 := of_ine_t hc2; try simp only [llen_eq] at hc2
        conv => lhs; whnf
        rw [decA_of g0 (by assumption) g1 g2 g3 g4 g5 g6 g7 g8 g9 g10]; (repeat (first | rw [if_pos (by first | omega | decide | assumption | (simp only [LL] at * <;> omega) | (simp; omega))] | rw [if_neg (by first | omega | decide | assumption | (simp only [LL] at * <;> omega) | (simp; omega))])); rfl
      · rw [hc2]; replace hc2 := of_ine_f hc2; try simp only [llen_eq] at hc2
        conv => lhs; whnf
        rcases Bool.eq_false_or_eq_true (ine (llen v1) 32) with hc3 | hc3
        · rw [hc3]; replace hc3 := of_ine_t hc3; try simp only [llen_eq] at hc3
          conv => lhs; whnf
          rw [Y_go]; conv => lhs; whnf
          rw [decA_of g0 (by assumption) g1 g2 g3 g4 g5 g6 g7 g8 g9 g10]; (repeat (first | rw [if_pos (by first | omega | decide | assumption | (simp only [LL] at * <;> omega) | (simp; omega))] | rw [if_neg (by first | omega | decide | assumption | (simp only [LL] at * <;> omega) | (simp; omega))])); rfl
        · rw [hc3]; replace hc3 := of_ine_f hc3; try simp only [llen_eq] at hc3
          conv => lhs; whnf
          rw [Y_go]; conv => lhs; whnf
          rcases Bool.eq_false_or_eq_true (ilt 1 v6) with hc4 | hc4
          · rw [hc4]; replace hc4 := of_ilt_t hc4; try simp only [llen_eq] at hc4
            conv => lhs; whnf
            rw [decA_of g0 (by assumption) g1 g2 g3 g4 g5 g6 g7 g8 g9 g10]; (repeat (first | rw [if_pos (by first | omega | decide | assumption | (simp only [LL] at * <;> omega) | (simp; omega))] | rw [if_neg (by first | omega | decide | assumption | (simp only [LL] at * <;> omega) | (simp; omega))])); rfl
          · rw [hc4]; replace hc4 := of_ilt_f hc4; try simp only [llen_eq] at hc4
            conv => lhs; whnf
            rw [decA_of g0 (by assumption) g1 g2 g3 g4 g5 g6 g7 g8 g9 g10]; (repeat (first | rw [if_pos (by first | omega | decide | assumption | (simp only [LL] at * <;> omega) | (simp; omega))] | rw [if_neg (by first | omega | decide | assumption | (simp only [LL] at * <;> omega) | (simp; omega))])); rw [← ieq_beq]
    · rw [hc1]; replace hc1 := of_seq_f hc1; try simp only [llen_eq] at hc1
      conv => lhs; whnf
      rw [decA_m g0 (by assumption)]; rfl
end Go.Proofs.YtbjikfgpfcmcaaaDoor

namespace Go.Ax
def sameQ (a b : Att) : Bool := decide (a.key = b.key) && (decide (a.nonce = b.nonce) && (decide (a.resets = b.resets) && (decide (a.restarts = b.restarts) && (decide (a.clock = b.clock) && ((a.safe == b.safe) && (decide (a.updates = b.updates) && ((decide (a.s0 = b.s0) && decide (a.s1 = b.s1)) && decide (a.digest = b.digest))))))))
theorem sameQ_refl (a : Att) : sameQ a a = true := by simp [sameQ]
def validA (a : Att) : Att := { key := seedB a.key, nonce := a.nonce.take 128, digest := seedB a.digest, resets := a.resets % 4611686018427387904, restarts := a.restarts % 4611686018427387904, clock := a.clock % 4611686018427387904, safe := a.safe, updates := a.updates % 4611686018427387904, s0 := a.s0 % 65536, s1 := a.s1 % 65536 }
theorem validA_ok (a : Att) : OkA (validA a) := by
  refine ⟨seedB_len _, by simp only [validA, List.length_take]; omega, ?_, ?_, ?_, ?_, ?_, ?_, seedB_len _⟩
  all_goals simp only [validA]; omega
def fewA (a : Att) : Bool := decide ((a.key.length : Int) ≤ 60) && (decide ((a.nonce.length : Int) ≤ 200) && decide ((a.digest.length : Int) ≤ 60))
theorem fewA_t {a : Att} (h : fewA a = true) : a.key.length ≤ 60 ∧ a.nonce.length ≤ 200 ∧ a.digest.length ≤ 60 := by
  simp only [fewA, Bool.and_eq_true, decide_eq_true_eq] at h; omega
theorem fewA_f {a : Att} (h : 60 < a.key.length ∨ 200 < a.nonce.length ∨ 60 < a.digest.length) : fewA a = false := by
  cases hf : fewA a with
  | false => rfl
  | true => have := fewA_t hf; omega
end Go.Ax
namespace Go.Proofs.YtbjikfgpfcmcaaaDoor
open Go Go.Ax
set_option linter.unusedVariables false
set_option linter.unusedSimpArgs false
attribute [local irreducible] iadd isub imul iquo irem ibit ineg ieq ine ilt ile ishl ishr beq' bnot and' seq' u8op u8rem u32op u64op u8shr u8shl u64shr u64shl u32shr u32shl i64w u8i u64i iu8 iu32 iu64 u8u64 u64u8 u32u8 u64cmp u8cmp u32cmp llen lget linb lset lcut lrep lapp lcpy lemp fits fitn sealed drawChk fpSame
set_option maxHeartbeats 4000000
set_option maxRecDepth 100000
theorem ev_r16_same (a b : Att) (h1 : a.key.length ≤ 100000) (h2 : a.nonce.length ≤ 100000) (h3 : a.digest.length ≤ 100000) : Y E0 (.call 34 [.agg (attX a), .agg (attX b)] []) = some (.ret (.b (sameQ a b)) []) := by
  obtain ⟨key, nonce, resets, restarts, clock, safe, updates, s0, s1, digest⟩ := a
  obtain ⟨key', nonce', resets', restarts', clock', safe', updates', s0', s1', digest'⟩ := b
  simp only at h1 h2 h3
  dsimp only [attX]
  rw [Y_go]; conv => lhs; whnf
  rw [toReq_call]
  rw [ev_same _ _ (by omega)]
  conv => lhs; whnf
  rcases Bool.eq_false_or_eq_true (decide (key = key')) with hc0 | hc0
  · rw [hc0]; replace hc0 := of_decide_eq_true hc0; try simp only at hc0
    conv => lhs; whnf
    rw [toReq_call]
    rw [ev_same _ _ (by omega)]
    conv => lhs; whnf
    rcases Bool.eq_false_or_eq_true (decide (nonce = nonce')) with hc1 | hc1
    · rw [hc1]; replace hc1 := of_decide_eq_true hc1; try simp only at hc1
      conv => lhs; whnf
      rcases Bool.eq_false_or_eq_true (ieq resets resets') with hc2 | hc2
      · rw [hc2]; replace hc2 := of_ieq_t hc2; try simp only [llen_eq] at hc2
        subst hc2
        conv => lhs; whnf
        rcases Bool.eq_false_or_eq_true (ieq restarts restarts') with hc3 | hc3
        · rw [hc3]; replace hc3 := of_ieq_t hc3; try simp only [llen_eq] at hc3
          subst hc3
          conv => lhs; whnf
          rw [Y_go]; conv => lhs; whnf
          rcases Bool.eq_false_or_eq_true (ieq clock clock') with hc4 | hc4
          · rw [hc4]; replace hc4 := of_ieq_t hc4; try simp only [llen_eq] at hc4
            subst hc4
            conv => lhs; whnf
            rcases Bool.eq_false_or_eq_true (beq' safe safe') with hc5 | hc5
            · rw [hc5]; replace hc5 := of_beq_t hc5; try simp only [llen_eq] at hc5
              conv => lhs; whnf
              rcases Bool.eq_false_or_eq_true (ieq updates updates') with hc6 | hc6
              · rw [hc6]; replace hc6 := of_ieq_t hc6; try simp only [llen_eq] at hc6
                subst hc6
                conv => lhs; whnf
                rw [Y_go]; conv => lhs; whnf
                rw [and_eq]; conv => lhs; whnf
                rcases Bool.eq_false_or_eq_true (ieq s0 s0') with hc7 | hc7
                · rw [hc7]; replace hc7 := of_ieq_t hc7; try simp only [llen_eq] at hc7
                  subst hc7
                  conv => lhs; whnf
                  rcases Bool.eq_false_or_eq_true (ieq s1 s1') with hc8 | hc8
                  · rw [hc8]; replace hc8 := of_ieq_t hc8; try simp only [llen_eq] at hc8
                    subst hc8
                    conv => lhs; whnf
                    rw [toReq_call]
                    rw [ev_same _ _ (by omega)]
                    conv => lhs; whnf
                    simp_all [sameQ, ieq_eq, beq_eq]
                  · rw [hc8]; replace hc8 := of_ieq_f hc8; try simp only [llen_eq] at hc8
                    conv => lhs; whnf
                    simp_all [sameQ, ieq_eq, beq_eq]
                · rw [hc7]; replace hc7 := of_ieq_f hc7; try simp only [llen_eq] at hc7
                  conv => lhs; whnf
                  simp_all [sameQ, ieq_eq, beq_eq]
              · rw [hc6]; replace hc6 := of_ieq_f hc6; try simp only [llen_eq] at hc6
                conv => lhs; whnf
                rw [Y_go]; conv => lhs; whnf
                simp_all [sameQ, ieq_eq, beq_eq]
            · rw [hc5]; replace hc5 := of_beq_f hc5; try simp only [llen_eq] at hc5
              conv => lhs; whnf
              simp_all [sameQ, ieq_eq, beq_eq]
          · rw [hc4]; replace hc4 := of_ieq_f hc4; try simp only [llen_eq] at hc4
            conv => lhs; whnf
            simp_all [sameQ, ieq_eq, beq_eq]
        · rw [hc3]; replace hc3 := of_ieq_f hc3; try simp only [llen_eq] at hc3
          conv => lhs; whnf
          rw [Y_go]; conv => lhs; whnf
          simp_all [sameQ, ieq_eq, beq_eq]
      · rw [hc2]; replace hc2 := of_ieq_f hc2; try simp only [llen_eq] at hc2
        conv => lhs; whnf
        rw [Y_go]; conv => lhs; whnf
        simp_all [sameQ, ieq_eq, beq_eq]
    · rw [hc1]; replace hc1 := of_decide_eq_false hc1; try simp only at hc1
      conv => lhs; whnf
      rw [Y_go]; conv => lhs; whnf
      simp_all [sameQ, ieq_eq, beq_eq]
  · rw [hc0]; replace hc0 := of_decide_eq_false hc0; try simp only at hc0
    conv => lhs; whnf
    rw [Y_go]; conv => lhs; whnf
    simp_all [sameQ, ieq_eq, beq_eq]
theorem ev_few (a : Att) : Y E0 (.call 27 [.agg (attX a)] []) = some (.ret (.b (fewA a)) []) := by
  rw [Y_go]; conv => lhs; whnf
  rcases Bool.eq_false_or_eq_true (ile (llen a.key) 60) with hc0 | hc0
  · rw [hc0]; replace hc0 := of_ile_t hc0; try simp only [llen_eq] at hc0
    conv => lhs; whnf
    rcases Bool.eq_false_or_eq_true (ile (llen a.nonce) 200) with hc1 | hc1
    · rw [hc1]; replace hc1 := of_ile_t hc1; try simp only [llen_eq] at hc1
      conv => lhs; whnf
      simp_all [fewA, ile_eq, llen_eq]; done
    · rw [hc1]; replace hc1 := of_ile_f hc1; try simp only [llen_eq] at hc1
      conv => lhs; whnf
      rw [fewA_f (by omega)]
  · rw [hc0]; replace hc0 := of_ile_f hc0; try simp only [llen_eq] at hc0
    conv => lhs; whnf
    rw [fewA_f (by omega)]
theorem ev_valid16 (a : Att) : Y E0 (.call 29 [.agg (attX a)] []) = some (.ret (.agg (attX (validA a))) []) := by
  rw [Y_go]; conv => lhs; whnf
  rw [toReq_call]
  rw [ev_seed _]
  conv => lhs; whnf
  rw [toReq_call]
  rw [ev_cut _ _ (by omega)]
  conv => lhs; whnf
  rw [toReq_call]
  rw [ev_seed _]
  conv => lhs; whnf
  rw [drw (by kernel_rfl)]; conv => lhs; whnf
  rw [drw (by kernel_rfl)]; conv => lhs; whnf
  rw [ile_t (by omega)]
  conv => lhs; whnf
  rw [ilt_t (by omega)]
  conv => lhs; whnf
  rw [ile_t (by omega)]
  conv => lhs; whnf
  rw [ilt_t (by omega)]
  conv => lhs; whnf
  (simp only [iand_62, iand_65535]; rfl)
end Go.Proofs.YtbjikfgpfcmcaaaDoor

namespace Go.Ax
theorem decA_len (b : List UInt8) : (decA b).1.key.length ≤ b.length ∧ (decA b).1.nonce.length ≤ b.length ∧ (decA b).1.digest.length ≤ b.length := by
  unfold decA
  dsimp only
  split
  · simp [att0]
  split
  · simp [att0]
  split
  · simp [att0]
  split
  · simp [att0]
  exact ⟨rdB_len, rdB_len, rdR_len⟩
def attW : Att := ⟨List.replicate 32 0, [], 0, 0, 5, false, 0, 0, 0, List.replicate 32 0⟩
theorem lenW : (encA attW).length = 109 := by decide +kernel
theorem decW : decA (encA attW) = (attW, 0) := dec_enc ⟨rfl, by decide, by decide, by decide, by decide, by decide, by decide, by decide, rfl⟩
theorem decT : decA [UInt8.ofNat 83, UInt8.ofNat 87, UInt8.ofNat 81, UInt8.ofNat 50] = (att0, 5) := by
  rw [show ([UInt8.ofNat 83, UInt8.ofNat 87, UInt8.ofNat 81, UInt8.ofNat 50] : List UInt8) = [83, 87, 81, 50] from rfl]
  exact decA_m (v0 := [83, 87, 81, 50]) (p0 := 4) rfl (by decide)
end Go.Ax
namespace Go.Proofs.YtbjikfgpfcmcaaaDoor
open Go Go.Ax
set_option linter.unusedVariables false
set_option linter.unusedSimpArgs false
attribute [local irreducible] iadd isub imul iquo irem ibit ineg ieq ine ilt ile ishl ishr beq' bnot and' seq' u8op u8rem u32op u64op u8shr u8shl u64shr u64shl u32shr u32shl i64w u8i u64i iu8 iu32 iu64 u8u64 u64u8 u32u8 u64cmp u8cmp u32cmp llen lget linb lset lcut lrep lapp lcpy lemp fits fitn sealed drawChk fpSame
set_option maxHeartbeats 4000000
set_option maxRecDepth 100000
theorem ev_awake : Y E0 (.call 26 [] []) = some (.ret (.b true) []) := by
  have henc := ev_att_encode attW (by decide) (by decide) (by decide)
  have hr : lrep 32 (0 : UInt8) = List.replicate 32 0 := by rw [lrep_eq]; rfl
  have hl := lenW
  dsimp only [attX, attW] at henc
  rw [Y_go]; conv => lhs; whnf
  rw [hr]; conv => lhs; whnf
  rw [fitn_t (by omega)]
  conv => lhs; whnf
  rw [ieq_t (by omega)]
  conv => lhs; whnf
  rw [hr]; conv => lhs; whnf
  rw [fitn_t (by omega)]
  conv => lhs; whnf
  rw [ieq_t (by omega)]
  conv => lhs; whnf
  rw [toReq_call]
  rw [henc]
  conv => lhs; whnf
  rw [drw (by kernel_rfl)]; conv => lhs; whnf
  rw [toReq_call]
  rw [ev_att_decode _ (by rw [show (encA ⟨List.replicate 32 0, [], 0, 0, 5, false, 0, 0, 0, List.replicate 32 0⟩).length = 109 from lenW]; decide), show decA (encA ⟨List.replicate 32 0, [], 0, 0, 5, false, 0, 0, 0, List.replicate 32 0⟩) = (attW, 0) from decW]
  conv => lhs; whnf
  rw [toReq_call]
  rw [ev_att_decode _ (by decide), decT]
  conv => lhs; whnf
  rw [ieq_t (by rw [llen_eq]; exact congrArg (fun n : Nat => (n : Int)) lenW)]; conv => lhs; whnf
  rw [ieq_t (by omega)]
  conv => lhs; whnf
  rw [ieq_t (by decide)]
  conv => lhs; whnf
  rw [ieq_t rfl]
end Go.Proofs.YtbjikfgpfcmcaaaDoor

namespace Go.Ax
open Go.Eng
def verX (c kind r : Int) (R : Int × Bool) (D : Att × Int) (nm : List UInt8) : Att × Int × Int :=
  if c ≠ 0 then (att0, 0, c) else if kind ≠ 2 then (att0, 0, 19) else if r = 0 then (att0, 0, 20) else if R.2 = false then (att0, 0, 17) else if D.2 ≠ 0 then (att0, 0, D.2) else if D.1.key ≠ nm then (att0, 0, 16) else (D.1, R.1, 0)
def verA (k : Pub) (b s : List UInt8) : Att × Int × Int := verX (chkP k) k.kind (bits .and .i64 k.attr 4) (verK k.unique b s) (decA b) (nameB k)
theorem verA_eq (kind attr height : Int) (policy unique b s : List UInt8) : verA ⟨kind, attr, height, policy, unique⟩ b s = verX (chkP ⟨kind, attr, height, policy, unique⟩) kind (bits .and .i64 attr 4) (verK unique b s) (decA b) (nameB ⟨kind, attr, height, policy, unique⟩) := rfl
theorem nameB_32 (p : Pub) : (nameB p).length = 32 := sha256_len _
def kattr (a : UInt8) : Int := bits .or .i64 (bits .or .i64 ((a.toNat % 4 : Nat) : Int) 1) 4
theorem four {a : Int} (h : 0 ≤ a ∧ a ≤ 3) : a = 0 ∨ a = 1 ∨ a = 2 ∨ a = 3 := by omega
theorem kattr_ok (a : UInt8) : 0 ≤ kattr a ∧ kattr a ≤ 7 ∧ bits .and .i64 (kattr a) 4 ≠ 0 ∧ bits .and .i64 (kattr a) 1 ≠ 0 := by
  unfold kattr
  rcases four (show 0 ≤ ((a.toNat % 4 : Nat) : Int) ∧ ((a.toNat % 4 : Nat) : Int) ≤ 3 by omega) with h | h | h | h <;> rw [h] <;> decide
def keyP (seed : List UInt8) (h : Int) (a : UInt8) : Pub := ⟨2, kattr a, h, [], pubK seed h⟩
theorem keyP_ok {seed : List UInt8} {h : Int} {a : UInt8} (hh : 0 ≤ h ∧ h ≤ 3) : chkP (keyP seed h a) = 0 := by
  obtain ⟨h1, h2, h3, h4⟩ := kattr_ok a
  unfold chkP
  simp only [keyP, pubK_len hh, List.length_nil]
  rw [if_neg (by omega), if_neg, if_neg]
  · rintro (q | q | q | q | q)
    · omega
    · omega
    · exact q.2 rfl
    · omega
    · exact q (by decide)
  · rintro (q | q | q | q)
    · omega
    · omega
    · exact q.2 rfl
    · exact h4 q.1
theorem verA_ok {seed m s : List UInt8} {h leaf : Int} {t : UInt8} {A : Att} (hh : 0 ≤ h ∧ h ≤ 3) (hv : verK (pubK seed h) m s = (leaf, true)) (hd : decA m = (A, 0)) (hn : A.key = nameB (keyP seed h t)) : verA (keyP seed h t) m s = (A, leaf, 0) := by
  have h1 : verA (keyP seed h t) m s = verX (chkP (keyP seed h t)) 2 (bits .and .i64 (kattr t) 4) (verK (pubK seed h) m s) (decA m) (nameB (keyP seed h t)) := rfl
  rw [h1, keyP_ok hh, hv, hd, verX, if_neg (by decide), if_neg (by decide), if_neg (kattr_ok t).2.2.1, if_neg (by simp), if_neg (by simp), if_neg (by simpa using hn)]
theorem verA_len {k : Pub} {b s : List UInt8} : (verA k b s).1.key.length ≤ b.length ∧ (verA k b s).1.nonce.length ≤ b.length ∧ (verA k b s).1.digest.length ≤ b.length := by
  have h := decA_len b
  unfold verA verX
  repeat' split
  all_goals first | exact h | simp [att0]
def keyQ (seed : List UInt8) (t : UInt8) (o : List UInt8) : Pub := ⟨2, kattr t, 0, seedB o, pubK seed 0⟩
theorem keyQ_ok {seed o : List UInt8} {t : UInt8} : chkP (keyQ seed t o) = 0 := by
  obtain ⟨h1, h2, h3, h4⟩ := kattr_ok t
  unfold chkP
  simp only [keyQ, pubK_len (seed := seed) (h := 0) (by omega), seedB_len]
  rw [if_neg (by omega), if_neg, if_neg]
  · rintro (q | q | q | q | q)
    · omega
    · omega
    · exact q.2 rfl
    · omega
    · exact q (by decide)
  · rintro (q | q | q | q)
    · omega
    · omega
    · exact q.2 rfl
    · exact h4 q.1
theorem verA_Q {seed m s o : List UInt8} {leaf : Int} {t : UInt8} {A : Att} (hv : verK (pubK seed 0) m s = (leaf, true)) (hd : decA m = (A, 0)) : verA (keyQ seed t o) m s = if A.key = nameB (keyQ seed t o) then (A, leaf, 0) else (att0, 0, 16) := by
  have h1 : verA (keyQ seed t o) m s = verX (chkP (keyQ seed t o)) 2 (bits .and .i64 (kattr t) 4) (verK (pubK seed 0) m s) (decA m) (nameB (keyQ seed t o)) := rfl
  rw [h1, keyQ_ok, hv, hd, verX, if_neg (by decide), if_neg (by decide), if_neg (kattr_ok t).2.2.1, if_neg (by simp), if_neg (by simp)]
  by_cases h : A.key = nameB (keyQ seed t o)
  · rw [if_neg (by simpa using h), if_pos h]
  · rw [if_pos h, if_neg h]
end Go.Ax
namespace Go.Proofs.YtbjikfgpfcmcaaaDoor
open Go Go.Ax Go.Eng
set_option linter.unusedVariables false
set_option linter.unusedSimpArgs false
attribute [local irreducible] iadd isub imul iquo irem ibit ineg ieq ine ilt ile ishl ishr beq' bnot and' seq' u8op u8rem u32op u64op u8shr u8shl u64shr u64shl u32shr u32shl i64w u8i u64i iu8 iu32 iu64 u8u64 u64u8 u32u8 u64cmp u8cmp u32cmp llen lget linb lset lcut lrep lapp lcpy lemp fits fitn sealed drawChk fpSame
attribute [local irreducible] pubK sigK verK verA decA encA chkP nameB fewA validA kattr
set_option maxHeartbeats 4000000
set_option maxRecDepth 100000
theorem ev_averify (kind attr height : Int) (policy unique b s : List UInt8) (hp : policy.length ≤ 60000) (hu : unique.length ≤ 60000) (hb : b.length ≤ 1000000) : Y E0 (.call 32 [.agg [.i kind, .i attr, .i height, .sl .u8 policy, .sl .u8 unique], .sl .u8 b, .sl .u8 s] []) = some (.ret (.tup [.agg (attX (verA ⟨kind, attr, height, policy, unique⟩ b s).1), .i (verA ⟨kind, attr, height, policy, unique⟩ b s).2.1, .i (verA ⟨kind, attr, height, policy, unique⟩ b s).2.2]) []) := by
  have ed := ev_att_decode b (by omega)
  have ev := ev_sver unique b s (by omega)
  have en := ev_aname kind attr height policy unique hp hu
  have hn : (nameB ⟨kind, attr, height, policy, unique⟩).length = 32 := nameB_32 _
  have hk := decA_len b
  rw [verA_eq]
  rw [show bits .and .i64 attr 4 = ibit .and attr 4 from (ibit_eq _ _ _).symm]
  generalize verK unique b s = R at *
  obtain ⟨leaf, ok⟩ := R
  generalize decA b = D at *
  obtain ⟨A, e⟩ := D
  obtain ⟨key, nonce, resets, restarts, clock, safe, updates, s0, s1, digest⟩ := A
  dsimp only [attX] at *
  obtain ⟨hk1, hk2, hk3⟩ := hk
  generalize nameB ⟨kind, attr, height, policy, unique⟩ = nm at *
  cases ok
  · rw [Y_go]; conv => lhs; whnf
    dsimp -iota -beta -eta -zeta only
    rw [toReq_call]
    rw [ev_acheck _ _ _ _ _]
    conv => lhs; whnf
    rcases Bool.eq_false_or_eq_true (ine (chkP { kind := kind, attr := attr, height := height, policy := policy, unique := unique }) 0) with hc0 | hc0
    · rw [hc0]; replace hc0 := of_ine_t hc0; try simp only [llen_eq] at hc0
      conv => lhs; whnf
      dsimp -iota -beta -eta -zeta only
      (unfold verX; dsimp only; (repeat (first | rw [if_pos (by first | assumption | omega | decide)] | rw [if_neg (by first | assumption | omega | decide | (simp; assumption) | simp)])); try rfl)
    · rw [hc0]; replace hc0 := of_ine_f hc0; try simp only [llen_eq] at hc0
      conv => lhs; whnf
      rcases Bool.eq_false_or_eq_true (ine kind 2) with hc1 | hc1
      · rw [hc1]; replace hc1 := of_ine_t hc1; try simp only [llen_eq] at hc1
        conv => lhs; whnf
        dsimp -iota -beta -eta -zeta only
        (unfold verX; dsimp only; (repeat (first | rw [if_pos (by first | assumption | omega | decide)] | rw [if_neg (by first | assumption | omega | decide | (simp; assumption) | simp)])); try rfl)
      · rw [hc1]; replace hc1 := of_ine_f hc1; try simp only [llen_eq] at hc1
        subst hc1
        conv => lhs; whnf
        rcases Bool.eq_false_or_eq_true (ieq (ibit BinOp.and attr 4) 0) with hc2 | hc2
        · rw [hc2]; replace hc2 := of_ieq_t hc2; try simp only [llen_eq] at hc2
          conv => lhs; whnf
          dsimp -iota -beta -eta -zeta only
          (unfold verX; dsimp only; (repeat (first | rw [if_pos (by first | assumption | omega | decide)] | rw [if_neg (by first | assumption | omega | decide | (simp; assumption) | simp)])); try rfl)
        · rw [hc2]; replace hc2 := of_ieq_f hc2; try simp only [llen_eq] at hc2
          conv => lhs; whnf
          dsimp -iota -beta -eta -zeta only
          rw [toReq_call]
          rw [ev]
          conv => lhs; whnf
          rw [bnot_eq]; conv => lhs; whnf
          dsimp -iota -beta -eta -zeta only
          (unfold verX; dsimp only; (repeat (first | rw [if_pos (by first | assumption | omega | decide)] | rw [if_neg (by first | assumption | omega | decide | (simp; assumption) | simp)])); try rfl)
  · rw [Y_go]; conv => lhs; whnf
    dsimp -iota -beta -eta -zeta only
    rw [toReq_call]
    rw [ev_acheck _ _ _ _ _]
    conv => lhs; whnf
    rcases Bool.eq_false_or_eq_true (ine (chkP { kind := kind, attr := attr, height := height, policy := policy, unique := unique }) 0) with hc0 | hc0
    · rw [hc0]; replace hc0 := of_ine_t hc0; try simp only [llen_eq] at hc0
      conv => lhs; whnf
      dsimp -iota -beta -eta -zeta only
      (unfold verX; dsimp only; (repeat (first | rw [if_pos (by first | assumption | omega | decide)] | rw [if_neg (by first | assumption | omega | decide | (simp; assumption) | simp)])); try rfl)
    · rw [hc0]; replace hc0 := of_ine_f hc0; try simp only [llen_eq] at hc0
      conv => lhs; whnf
      rcases Bool.eq_false_or_eq_true (ine kind 2) with hc1 | hc1
      · rw [hc1]; replace hc1 := of_ine_t hc1; try simp only [llen_eq] at hc1
        conv => lhs; whnf
        dsimp -iota -beta -eta -zeta only
        (unfold verX; dsimp only; (repeat (first | rw [if_pos (by first | assumption | omega | decide)] | rw [if_neg (by first | assumption | omega | decide | (simp; assumption) | simp)])); try rfl)
      · rw [hc1]; replace hc1 := of_ine_f hc1; try simp only [llen_eq] at hc1
        subst hc1
        conv => lhs; whnf
        rcases Bool.eq_false_or_eq_true (ieq (ibit BinOp.and attr 4) 0) with hc2 | hc2
        · rw [hc2]; replace hc2 := of_ieq_t hc2; try simp only [llen_eq] at hc2
          conv => lhs; whnf
          dsimp -iota -beta -eta -zeta only
          (unfold verX; dsimp only; (repeat (first | rw [if_pos (by first | assumption | omega | decide)] | rw [if_neg (by first | assumption | omega | decide | (simp; assumption) | simp)])); try rfl)
        · rw [hc2]; replace hc2 := of_ieq_f hc2; try simp only [llen_eq] at hc2
          conv => lhs; whnf
          dsimp -iota -beta -eta -zeta only
          rw [toReq_call]
          rw [ev]
          conv => lhs; whnf
          rw [bnot_eq]; conv => lhs; whnf
          dsimp -iota -beta -eta -zeta only
          rw [toReq_call]
          rw [ed]
          conv => lhs; whnf
          rcases Bool.eq_false_or_eq_true (ine e 0) with hc3 | hc3
          · rw [hc3]; replace hc3 := of_ine_t hc3; try simp only [llen_eq] at hc3
            conv => lhs; whnf
            dsimp -iota -beta -eta -zeta only
            (unfold verX; dsimp only; (repeat (first | rw [if_pos (by first | assumption | omega | decide)] | rw [if_neg (by first | assumption | omega | decide | (simp; assumption) | simp)])); try rfl)
          · rw [hc3]; replace hc3 := of_ine_f hc3; try simp only [llen_eq] at hc3
            subst hc3
            conv => lhs; whnf
            dsimp -iota -beta -eta -zeta only
            rw [toReq_call]
            rw [en]
            conv => lhs; whnf
            dsimp -iota -beta -eta -zeta only
            rw [drw (by kernel_rfl)]; conv => lhs; whnf
            rw [bnot_eq]; conv => lhs; whnf
            rcases Bool.eq_false_or_eq_true (seq' key nm) with hc4 | hc4
            · rw [hc4]; replace hc4 := of_seq_t hc4; try simp only [llen_eq] at hc4
              conv => lhs; whnf
              dsimp -iota -beta -eta -zeta only
              (unfold verX; dsimp only; (repeat (first | rw [if_pos (by first | assumption | omega | decide)] | rw [if_neg (by first | assumption | omega | decide | (simp; assumption) | simp)])); try rfl)
            · rw [hc4]; replace hc4 := of_seq_f hc4; try simp only [llen_eq] at hc4
              conv => lhs; whnf
              dsimp -iota -beta -eta -zeta only
              (unfold verX; dsimp only; (repeat (first | rw [if_pos (by first | assumption | omega | decide)] | rw [if_neg (by first | assumption | omega | decide | (simp; assumption) | simp)])); try rfl)
theorem ev_raverify (kind attr height : Int) (policy unique b s : List UInt8) (hp : policy.length ≤ 60000) (hu : unique.length ≤ 60000) (hb : b.length ≤ 1000000) : Y E0 (.call 33 [.agg [.i kind, .i attr, .i height, .sl .u8 policy, .sl .u8 unique], .sl .u8 b, .sl .u8 s] []) = some (.ret (.tup [.agg (attX (verA ⟨kind, attr, height, policy, unique⟩ b s).1), .i (verA ⟨kind, attr, height, policy, unique⟩ b s).2.1, .i (verA ⟨kind, attr, height, policy, unique⟩ b s).2.2]) []) := by
  have ed := ev_r16_decode b (by omega)
  have ev := ev_rsver unique b s (by omega)
  have en := ev_r10name kind attr height policy unique hp hu
  have hn : (nameB ⟨kind, attr, height, policy, unique⟩).length = 32 := nameB_32 _
  have hk := decA_len b
  rw [verA_eq]
  rw [show bits .and .i64 attr 4 = ibit .and attr 4 from (ibit_eq _ _ _).symm]
  generalize verK unique b s = R at *
  obtain ⟨leaf, ok⟩ := R
  generalize decA b = D at *
  obtain ⟨A, e⟩ := D
  obtain ⟨key, nonce, resets, restarts, clock, safe, updates, s0, s1, digest⟩ := A
  dsimp only [attX] at *
  obtain ⟨hk1, hk2, hk3⟩ := hk
  generalize nameB ⟨kind, attr, height, policy, unique⟩ = nm at *
  cases ok
  · rw [Y_go]; conv => lhs; whnf
    dsimp -iota -beta -eta -zeta only
    rw [toReq_call]
    rw [ev_r10check _ _ _ _ _]
    conv => lhs; whnf
    rcases Bool.eq_false_or_eq_true (ine (chkP { kind := kind, attr := attr, height := height, policy := policy, unique := unique }) 0) with hc0 | hc0
    · rw [hc0]; replace hc0 := of_ine_t hc0; try simp only [llen_eq] at hc0
      conv => lhs; whnf
      dsimp -iota -beta -eta -zeta only
      (unfold verX; dsimp only; (repeat (first | rw [if_pos (by first | assumption | omega | decide)] | rw [if_neg (by first | assumption | omega | decide | (simp; assumption) | simp)])); try rfl)
    · rw [hc0]; replace hc0 := of_ine_f hc0; try simp only [llen_eq] at hc0
      conv => lhs; whnf
      rcases Bool.eq_false_or_eq_true (ine kind 2) with hc1 | hc1
      · rw [hc1]; replace hc1 := of_ine_t hc1; try simp only [llen_eq] at hc1
        conv => lhs; whnf
        dsimp -iota -beta -eta -zeta only
        (unfold verX; dsimp only; (repeat (first | rw [if_pos (by first | assumption | omega | decide)] | rw [if_neg (by first | assumption | omega | decide | (simp; assumption) | simp)])); try rfl)
      · rw [hc1]; replace hc1 := of_ine_f hc1; try simp only [llen_eq] at hc1
        subst hc1
        conv => lhs; whnf
        rcases Bool.eq_false_or_eq_true (ieq (ibit BinOp.and attr 4) 0) with hc2 | hc2
        · rw [hc2]; replace hc2 := of_ieq_t hc2; try simp only [llen_eq] at hc2
          conv => lhs; whnf
          dsimp -iota -beta -eta -zeta only
          (unfold verX; dsimp only; (repeat (first | rw [if_pos (by first | assumption | omega | decide)] | rw [if_neg (by first | assumption | omega | decide | (simp; assumption) | simp)])); try rfl)
        · rw [hc2]; replace hc2 := of_ieq_f hc2; try simp only [llen_eq] at hc2
          conv => lhs; whnf
          dsimp -iota -beta -eta -zeta only
          rw [toReq_call]
          rw [ev]
          conv => lhs; whnf
          rw [bnot_eq]; conv => lhs; whnf
          dsimp -iota -beta -eta -zeta only
          (unfold verX; dsimp only; (repeat (first | rw [if_pos (by first | assumption | omega | decide)] | rw [if_neg (by first | assumption | omega | decide | (simp; assumption) | simp)])); try rfl)
  · rw [Y_go]; conv => lhs; whnf
    dsimp -iota -beta -eta -zeta only
    rw [toReq_call]
    rw [ev_r10check _ _ _ _ _]
    conv => lhs; whnf
    rcases Bool.eq_false_or_eq_true (ine (chkP { kind := kind, attr := attr, height := height, policy := policy, unique := unique }) 0) with hc0 | hc0
    · rw [hc0]; replace hc0 := of_ine_t hc0; try simp only [llen_eq] at hc0
      conv => lhs; whnf
      dsimp -iota -beta -eta -zeta only
      (unfold verX; dsimp only; (repeat (first | rw [if_pos (by first | assumption | omega | decide)] | rw [if_neg (by first | assumption | omega | decide | (simp; assumption) | simp)])); try rfl)
    · rw [hc0]; replace hc0 := of_ine_f hc0; try simp only [llen_eq] at hc0
      conv => lhs; whnf
      rcases Bool.eq_false_or_eq_true (ine kind 2) with hc1 | hc1
      · rw [hc1]; replace hc1 := of_ine_t hc1; try simp only [llen_eq] at hc1
        conv => lhs; whnf
        dsimp -iota -beta -eta -zeta only
        (unfold verX; dsimp only; (repeat (first | rw [if_pos (by first | assumption | omega | decide)] | rw [if_neg (by first | assumption | omega | decide | (simp; assumption) | simp)])); try rfl)
      · rw [hc1]; replace hc1 := of_ine_f hc1; try simp only [llen_eq] at hc1
        subst hc1
        conv => lhs; whnf
        rcases Bool.eq_false_or_eq_true (ieq (ibit BinOp.and attr 4) 0) with hc2 | hc2
        · rw [hc2]; replace hc2 := of_ieq_t hc2; try simp only [llen_eq] at hc2
          conv => lhs; whnf
          dsimp -iota -beta -eta -zeta only
          (unfold verX; dsimp only; (repeat (first | rw [if_pos (by first | assumption | omega | decide)] | rw [if_neg (by first | assumption | omega | decide | (simp; assumption) | simp)])); try rfl)
        · rw [hc2]; replace hc2 := of_ieq_f hc2; try simp only [llen_eq] at hc2
          conv => lhs; whnf
          dsimp -iota -beta -eta -zeta only
          rw [toReq_call]
          rw [ev]
          conv => lhs; whnf
          rw [bnot_eq]; conv => lhs; whnf
          dsimp -iota -beta -eta -zeta only
          rw [toReq_call]
          rw [ed]
          conv => lhs; whnf
          rcases Bool.eq_false_or_eq_true (ine e 0) with hc3 | hc3
          · rw [hc3]; replace hc3 := of_ine_t hc3; try simp only [llen_eq] at hc3
            conv => lhs; whnf
            dsimp -iota -beta -eta -zeta only
            (unfold verX; dsimp only; (repeat (first | rw [if_pos (by first | assumption | omega | decide)] | rw [if_neg (by first | assumption | omega | decide | (simp; assumption) | simp)])); try rfl)
          · rw [hc3]; replace hc3 := of_ine_f hc3; try simp only [llen_eq] at hc3
            subst hc3
            conv => lhs; whnf
            dsimp -iota -beta -eta -zeta only
            rw [toReq_call]
            rw [en]
            conv => lhs; whnf
            dsimp -iota -beta -eta -zeta only
            rw [toReq_call]
            rw [ev_same _ _ (by omega)]
            conv => lhs; whnf
            dsimp -iota -beta -eta -zeta only
            rw [drw (by kernel_rfl)]; conv => lhs; whnf
            rw [bnot_eq]; conv => lhs; whnf
            rcases Bool.eq_false_or_eq_true (decide (key = nm)) with hc4 | hc4
            · rw [hc4]; replace hc4 := of_decide_eq_true hc4; try simp only at hc4
              conv => lhs; whnf
              dsimp -iota -beta -eta -zeta only
              (unfold verX; dsimp only; (repeat (first | rw [if_pos (by first | assumption | omega | decide)] | rw [if_neg (by first | assumption | omega | decide | (simp; assumption) | simp)])); try rfl)
            · rw [hc4]; replace hc4 := of_decide_eq_false hc4; try simp only at hc4
              conv => lhs; whnf
              dsimp -iota -beta -eta -zeta only
              (unfold verX; dsimp only; (repeat (first | rw [if_pos (by first | assumption | omega | decide)] | rw [if_neg (by first | assumption | omega | decide | (simp; assumption) | simp)])); try rfl)
theorem ev_key16 (seed : List UInt8) (h : Int) (a : UInt8) (hs : seed.length ≤ 1000000) : Y E0 (.call 28 [.sl .u8 seed, .i h, .u8 a] []) = some (.ret (.agg (pubX (keyP seed (h % 2) a))) []) := by
  have h1 : ibit .and h 1 = h % 2 := iand_1 h
  have h2 : ibit .or (ibit .or (u8i (u8op .and a (UInt8.ofNat 3))) 1) 4 = kattr a := by
    rw [ibit_eq, ibit_eq, u8i_eq, u8and_eq, kattr, show (a &&& UInt8.ofNat 3).toNat = a.toNat % 4 from by rw [UInt8.toNat_and, show (UInt8.ofNat 3).toNat = 2 ^ 2 - 1 from rfl, Nat.and_two_pow_sub_one_eq_mod]]
  rw [Y_go]; conv => lhs; whnf
  dsimp -iota -beta -eta -zeta only
  rw [h1]
  rw [h2]
  rw [toReq_call]
  rw [ev_rspub _ _ (by omega)]
  conv => lhs; whnf
  dsimp -iota -beta -eta -zeta only
  (unfold keyP; rfl)
theorem ev_AttestTrip (a : Att) (seed : List UInt8) (leaf : UInt8) : Y E0 (.call 10 [.agg (attX a), .sl .u8 seed, .u8 leaf] []) = some (.ret (.b true) []) := by
  have el : u8i (u8op .and leaf (UInt8.ofNat 1)) = ((leaf.toNat % 2 : Nat) : Int) := by
    rw [u8i_eq, u8and_eq, UInt8.toNat_and, show (UInt8.ofNat 1).toNat = 2 ^ 1 - 1 from rfl, Nat.and_two_pow_sub_one_eq_mod]
  obtain ⟨i, hi⟩ : ∃ i, leaf.toNat % 2 = i := ⟨_, rfl⟩
  have hi2 : i < 2 := by omega
  rw [hi] at el
  have hok := validA_ok a
  have ev0 := ev_valid16 a
  generalize validA a = V at *
  obtain ⟨vk, vn, vr, vs, vc, vf, vu, v0, v1, vg⟩ := V
  have ev : Y E0 (.call 29 [.agg (attX a)] []) = some (.ret (.agg [.sl .u8 vk, .sl .u8 vn, .i vr, .i vs, .i vc, .b vf, .i vu, .i v0, .i v1, .sl .u8 vg]) []) := ev0
  obtain ⟨o1, o2, o3, o4, o5, o6, o7, o8, o9⟩ := hok
  simp only at o1 o2 o3 o4 o5 o6 o7 o8 o9
  have ek : seed.length ≤ 60 → Y E0 (.call 28 [.sl .u8 seed, .i 1, .u8 (UInt8.ofNat 0)] []) = some (.ret (.agg [.i 2, .i (kattr (UInt8.ofNat 0)), .i 1, .sl .u8 [], .sl .u8 (pubK seed 1)]) []) := fun h => ev_key16 seed 1 (UInt8.ofNat 0) (by omega)
  have hpk := pubK_len (seed := seed) (h := 1) (by omega)
  have hnm := nameB_32 (keyP seed 1 (UInt8.ofNat 0))
  have en : Y E0 (.call 30 [.agg [.i 2, .i (kattr (UInt8.ofNat 0)), .i 1, .sl .u8 [], .sl .u8 (pubK seed 1)]] []) = some (.ret (.sl .u8 (nameB (keyP seed 1 (UInt8.ofNat 0)))) []) := ev_r10name 2 (kattr (UInt8.ofNat 0)) 1 [] (pubK seed 1) (by simp) (by omega)
  obtain ⟨nm, hnmE⟩ : ∃ nm, nameB (keyP seed 1 (UInt8.ofNat 0)) = nm := ⟨_, rfl⟩
  rw [hnmE] at hnm en
  have hd := dec_enc (a := ⟨nm, vn, vr, vs, vc, vf, vu, v0, v1, vg⟩) ⟨hnm, o2, o3, o4, o5, o6, o7, o8, o9⟩
  have hle := encA_le ⟨nm, vn, vr, vs, vc, vf, vu, v0, v1, vg⟩ (by simp only; omega) (by simp only; omega) (by simp only; omega)
  have ee : Y E0 (.call 35 [.agg [.sl .u8 nm, .sl .u8 vn, .i vr, .i vs, .i vc, .b vf, .i vu, .i v0, .i v1, .sl .u8 vg]] []) = some (.ret (.sl .u8 (encA ⟨nm, vn, vr, vs, vc, vf, vu, v0, v1, vg⟩)) []) := ev_att_encode ⟨nm, vn, vr, vs, vc, vf, vu, v0, v1, vg⟩ (by simp only; omega) (by simp only; omega) (by simp only; omega)
  have hv := sig_trip (seed := seed) (m := encA ⟨nm, vn, vr, vs, vc, vf, vu, v0, v1, vg⟩) (h := 1) (leaf := (i : Int)) (by omega) (by rw [show (2 : Int) ^ (1 : Int).toNat = 2 from rfl]; omega)
  have hva := verA_ok (t := UInt8.ofNat 0) (by omega) hv hd hnmE.symm
  have eva := ev_averify 2 (kattr (UInt8.ofNat 0)) 1 [] (pubK seed 1) (encA ⟨nm, vn, vr, vs, vc, vf, vu, v0, v1, vg⟩) (sigK seed 1 (i : Int) (encA ⟨nm, vn, vr, vs, vc, vf, vu, v0, v1, vg⟩)) (by simp) (by omega) (by omega)
  rw [show (⟨2, kattr (UInt8.ofNat 0), 1, [], pubK seed 1⟩ : Pub) = keyP seed 1 (UInt8.ofNat 0) from rfl, hva] at eva
  have es : Y E0 (.call 34 [.agg [.sl .u8 nm, .sl .u8 vn, .i vr, .i vs, .i vc, .b vf, .i vu, .i v0, .i v1, .sl .u8 vg], .agg [.sl .u8 nm, .sl .u8 vn, .i vr, .i vs, .i vc, .b vf, .i vu, .i v0, .i v1, .sl .u8 vg]] []) = some (.ret (.b (sameQ ⟨nm, vn, vr, vs, vc, vf, vu, v0, v1, vg⟩ ⟨nm, vn, vr, vs, vc, vf, vu, v0, v1, vg⟩)) []) := ev_r16_same ⟨nm, vn, vr, vs, vc, vf, vu, v0, v1, vg⟩ ⟨nm, vn, vr, vs, vc, vf, vu, v0, v1, vg⟩ (by simp only; omega) (by simp only; omega) (by simp only; omega)
  rw [sameQ_refl] at es
  dsimp only [attX] at eva
  rw [Y_go]; conv => lhs; whnf
  dsimp -iota -beta -eta -zeta only
  rw [toReq_call]
  rw [ev_awake]
  conv => lhs; whnf
  rw [bnot_eq]; conv => lhs; whnf
  dsimp -iota -beta -eta -zeta only
  rw [toReq_call]
  rw [ev_few _]
  conv => lhs; whnf
  rw [bnot_eq]; conv => lhs; whnf
  rcases Bool.eq_false_or_eq_true (fewA a) with hc0 | hc0
  · rw [hc0]
    conv => lhs; whnf
    rcases Bool.eq_false_or_eq_true (ilt 60 (llen seed)) with hc1 | hc1
    · rw [hc1]; replace hc1 := of_ilt_t hc1; try simp only [llen_eq] at hc1
      conv => lhs; whnf
    · rw [hc1]; replace hc1 := of_ilt_f hc1; try simp only [llen_eq] at hc1
      conv => lhs; whnf
      dsimp -iota -beta -eta -zeta only
      rw [toReq_call]
      rw [ek (by omega)]
      conv => lhs; whnf
      dsimp -iota -beta -eta -zeta only
      rw [toReq_call]
      rw [ev]
      conv => lhs; whnf
      dsimp -iota -beta -eta -zeta only
      rw [toReq_call]
      rw [en]
      conv => lhs; whnf
      dsimp -iota -beta -eta -zeta only
      rw [toReq_call]
      rw [ee]
      conv => lhs; whnf
      dsimp -iota -beta -eta -zeta only
      rw [el]
      rw [toReq_call]
      rw [ev_rssign _ _ _ _ (by omega) (by omega)]
      conv => lhs; whnf
      dsimp -iota -beta -eta -zeta only
      rw [toReq_call]
      rw [eva]
      conv => lhs; whnf
      dsimp -iota -beta -eta -zeta only
      rw [drw (by kernel_rfl)]; conv => lhs; whnf
      rw [ieq_t (by omega)]
      conv => lhs; whnf
      rw [el]
      rw [Y_go]; conv => lhs; whnf
      rw [ieq_t (by omega)]
      conv => lhs; whnf
      dsimp -iota -beta -eta -zeta only
      rw [toReq_call]
      rw [es]
      conv => lhs; whnf
  · rw [hc0]
    conv => lhs; whnf
theorem ev_AttestPolicy (a : Att) (seed other : List UInt8) : Y E0 (.call 11 [.agg (attX a), .sl .u8 seed, .sl .u8 other] []) = some (.ret (.b true) []) := by
  have hok := validA_ok a
  have ev0 := ev_valid16 a
  generalize validA a = V at *
  obtain ⟨vk, vn, vr, vs, vc, vf, vu, v0, v1, vg⟩ := V
  have ev : Y E0 (.call 29 [.agg (attX a)] []) = some (.ret (.agg [.sl .u8 vk, .sl .u8 vn, .i vr, .i vs, .i vc, .b vf, .i vu, .i v0, .i v1, .sl .u8 vg]) []) := ev0
  obtain ⟨o1, o2, o3, o4, o5, o6, o7, o8, o9⟩ := hok
  simp only at o1 o2 o3 o4 o5 o6 o7 o8 o9
  have ek : seed.length ≤ 60 → Y E0 (.call 28 [.sl .u8 seed, .i 0, .u8 (UInt8.ofNat 0)] []) = some (.ret (.agg [.i 2, .i (kattr (UInt8.ofNat 0)), .i 0, .sl .u8 [], .sl .u8 (pubK seed 0)]) []) := fun h => ev_key16 seed 0 (UInt8.ofNat 0) (by omega)
  have hpk := pubK_len (seed := seed) (h := 0) (by omega)
  have hnm := nameB_32 (keyP seed 0 (UInt8.ofNat 0))
  have hnq := nameB_32 (keyQ seed (UInt8.ofNat 0) other)
  have hsd := seedB_len other
  have en : Y E0 (.call 30 [.agg [.i 2, .i (kattr (UInt8.ofNat 0)), .i 0, .sl .u8 [], .sl .u8 (pubK seed 0)]] []) = some (.ret (.sl .u8 (nameB (keyP seed 0 (UInt8.ofNat 0)))) []) := ev_r10name 2 (kattr (UInt8.ofNat 0)) 0 [] (pubK seed 0) (by simp) (by omega)
  have enq : Y E0 (.call 30 [.agg [.i 2, .i (kattr (UInt8.ofNat 0)), .i 0, .sl .u8 (seedB other), .sl .u8 (pubK seed 0)]] []) = some (.ret (.sl .u8 (nameB (keyQ seed (UInt8.ofNat 0) other))) []) := ev_r10name 2 (kattr (UInt8.ofNat 0)) 0 (seedB other) (pubK seed 0) (by omega) (by omega)
  obtain ⟨nm, hnmE⟩ : ∃ nm, nameB (keyP seed 0 (UInt8.ofNat 0)) = nm := ⟨_, rfl⟩
  rw [hnmE] at hnm en
  have hd := dec_enc (a := ⟨nm, vn, vr, vs, vc, vf, vu, v0, v1, vg⟩) ⟨hnm, o2, o3, o4, o5, o6, o7, o8, o9⟩
  have hle := encA_le ⟨nm, vn, vr, vs, vc, vf, vu, v0, v1, vg⟩ (by simp only; omega) (by simp only; omega) (by simp only; omega)
  have ee : Y E0 (.call 35 [.agg [.sl .u8 nm, .sl .u8 vn, .i vr, .i vs, .i vc, .b vf, .i vu, .i v0, .i v1, .sl .u8 vg]] []) = some (.ret (.sl .u8 (encA ⟨nm, vn, vr, vs, vc, vf, vu, v0, v1, vg⟩)) []) := ev_att_encode ⟨nm, vn, vr, vs, vc, vf, vu, v0, v1, vg⟩ (by simp only; omega) (by simp only; omega) (by simp only; omega)
  have hv := sig_trip (seed := seed) (m := encA ⟨nm, vn, vr, vs, vc, vf, vu, v0, v1, vg⟩) (h := 0) (leaf := 0) (by omega) (by decide)
  have hva := verA_ok (t := (UInt8.ofNat 0)) (by omega) hv hd hnmE.symm
  have hvq := verA_Q (t := (UInt8.ofNat 0)) (o := other) hv hd
  have eva := ev_averify 2 (kattr (UInt8.ofNat 0)) 0 [] (pubK seed 0) (encA ⟨nm, vn, vr, vs, vc, vf, vu, v0, v1, vg⟩) (sigK seed 0 0 (encA ⟨nm, vn, vr, vs, vc, vf, vu, v0, v1, vg⟩)) (by simp) (by omega) (by omega)
  have evq := ev_averify 2 (kattr (UInt8.ofNat 0)) 0 (seedB other) (pubK seed 0) (encA ⟨nm, vn, vr, vs, vc, vf, vu, v0, v1, vg⟩) (sigK seed 0 0 (encA ⟨nm, vn, vr, vs, vc, vf, vu, v0, v1, vg⟩)) (by omega) (by omega) (by omega)
  rw [show (⟨2, kattr (UInt8.ofNat 0), 0, [], pubK seed 0⟩ : Pub) = keyP seed 0 (UInt8.ofNat 0) from rfl, hva] at eva
  rw [show (⟨2, kattr (UInt8.ofNat 0), 0, seedB other, pubK seed 0⟩ : Pub) = keyQ seed (UInt8.ofNat 0) other from rfl, hvq] at evq
  dsimp only [attX] at eva
  by_cases hq : nm = nameB (keyQ seed (UInt8.ofNat 0) other)
  · rw [if_pos hq] at evq
    dsimp only [attX] at evq
    rw [Y_go]; conv => lhs; whnf
    dsimp -iota -beta -eta -zeta only
    rw [toReq_call]
    rw [ev_awake]
    conv => lhs; whnf
    rw [bnot_eq]; conv => lhs; whnf
    dsimp -iota -beta -eta -zeta only
    rw [toReq_call]
    rw [ev_few _]
    conv => lhs; whnf
    rw [bnot_eq]; conv => lhs; whnf
    rcases Bool.eq_false_or_eq_true (fewA a) with hc0 | hc0
    · rw [hc0]
      conv => lhs; whnf
      rcases Bool.eq_false_or_eq_true (ilt 60 (llen seed)) with hc1 | hc1
      · rw [hc1]; replace hc1 := of_ilt_t hc1; try simp only [llen_eq] at hc1
        conv => lhs; whnf
      · rw [hc1]; replace hc1 := of_ilt_f hc1; try simp only [llen_eq] at hc1
        conv => lhs; whnf
        rcases Bool.eq_false_or_eq_true (ilt 60 (llen other)) with hc2 | hc2
        · rw [hc2]; replace hc2 := of_ilt_t hc2; try simp only [llen_eq] at hc2
          conv => lhs; whnf
        · rw [hc2]; replace hc2 := of_ilt_f hc2; try simp only [llen_eq] at hc2
          conv => lhs; whnf
          dsimp -iota -beta -eta -zeta only
          rw [toReq_call]
          rw [ek (by omega)]
          conv => lhs; whnf
          dsimp -iota -beta -eta -zeta only
          rw [toReq_call]
          rw [ev]
          conv => lhs; whnf
          dsimp -iota -beta -eta -zeta only
          rw [toReq_call]
          rw [en]
          conv => lhs; whnf
          dsimp -iota -beta -eta -zeta only
          rw [toReq_call]
          rw [ee]
          conv => lhs; whnf
          dsimp -iota -beta -eta -zeta only
          rw [toReq_call]
          rw [ev_rssign _ _ _ _ (by omega) (by omega)]
          conv => lhs; whnf
          dsimp -iota -beta -eta -zeta only
          rw [toReq_call]
          rw [ev_seed _]
          conv => lhs; whnf
          dsimp -iota -beta -eta -zeta only
          rw [toReq_call]
          rw [eva]
          conv => lhs; whnf
          dsimp -iota -beta -eta -zeta only
          rw [toReq_call]
          rw [evq]
          conv => lhs; whnf
          rw [Y_go]; conv => lhs; whnf
          rw [ieq_t (by omega)]
          conv => lhs; whnf
          rw [ieq_f (by omega)]
          conv => lhs; whnf
          dsimp -iota -beta -eta -zeta only
          rw [toReq_call]
          rw [en]
          conv => lhs; whnf
          dsimp -iota -beta -eta -zeta only
          rw [toReq_call]
          rw [enq]
          conv => lhs; whnf
          dsimp -iota -beta -eta -zeta only
          rw [toReq_call]
          rw [ev_same _ _ (by omega), decide_eq_true hq]
          conv => lhs; whnf
          dsimp -iota -beta -eta -zeta only
          rw [drw (by kernel_rfl)]; conv => lhs; whnf
    · rw [hc0]
      conv => lhs; whnf
  · rw [if_neg hq] at evq
    dsimp only [attX, att0] at evq
    rw [Y_go]; conv => lhs; whnf
    dsimp -iota -beta -eta -zeta only
    rw [toReq_call]
    rw [ev_awake]
    conv => lhs; whnf
    rw [bnot_eq]; conv => lhs; whnf
    dsimp -iota -beta -eta -zeta only
    rw [toReq_call]
    rw [ev_few _]
    conv => lhs; whnf
    rw [bnot_eq]; conv => lhs; whnf
    rcases Bool.eq_false_or_eq_true (fewA a) with hc0 | hc0
    · rw [hc0]
      conv => lhs; whnf
      rcases Bool.eq_false_or_eq_true (ilt 60 (llen seed)) with hc1 | hc1
      · rw [hc1]; replace hc1 := of_ilt_t hc1; try simp only [llen_eq] at hc1
        conv => lhs; whnf
      · rw [hc1]; replace hc1 := of_ilt_f hc1; try simp only [llen_eq] at hc1
        conv => lhs; whnf
        rcases Bool.eq_false_or_eq_true (ilt 60 (llen other)) with hc2 | hc2
        · rw [hc2]; replace hc2 := of_ilt_t hc2; try simp only [llen_eq] at hc2
          conv => lhs; whnf
        · rw [hc2]; replace hc2 := of_ilt_f hc2; try simp only [llen_eq] at hc2
          conv => lhs; whnf
          dsimp -iota -beta -eta -zeta only
          rw [toReq_call]
          rw [ek (by omega)]
          conv => lhs; whnf
          dsimp -iota -beta -eta -zeta only
          rw [toReq_call]
          rw [ev]
          conv => lhs; whnf
          dsimp -iota -beta -eta -zeta only
          rw [toReq_call]
          rw [en]
          conv => lhs; whnf
          dsimp -iota -beta -eta -zeta only
          rw [toReq_call]
          rw [ee]
          conv => lhs; whnf
          dsimp -iota -beta -eta -zeta only
          rw [toReq_call]
          rw [ev_rssign _ _ _ _ (by omega) (by omega)]
          conv => lhs; whnf
          dsimp -iota -beta -eta -zeta only
          rw [toReq_call]
          rw [ev_seed _]
          conv => lhs; whnf
          dsimp -iota -beta -eta -zeta only
          rw [toReq_call]
          rw [eva]
          conv => lhs; whnf
          dsimp -iota -beta -eta -zeta only
          rw [toReq_call]
          rw [evq]
          conv => lhs; whnf
          rw [Y_go]; conv => lhs; whnf
          rw [ieq_t (by omega)]
          conv => lhs; whnf
          rw [ieq_t (by omega)]
          conv => lhs; whnf
          dsimp -iota -beta -eta -zeta only
          rw [drw (by kernel_rfl)]; conv => lhs; whnf
    · rw [hc0]
      conv => lhs; whnf
theorem ev_AttestVerify_m3 (a b c : Int) (p u B S : List UInt8) (hp : p.length ≤ 32) (hu : u.length ≤ 32) (hB : B.length ≤ 2000) : Y E0 (.ops ⟨142, 9, 0⟩ [true, true, true, true, true, true, true, true, true, true, false] 0 [Fr.seq [true, true, true, true, true, true, true, true, true, true, true] 0, Fr.ret] 1 [(15, .pa 0 0), (17, .sl .u8 B), (18, .sl .u8 S)] [(0, some (.var [.i a, .i b, .i c, .sl .u8 p, .sl .u8 u]))]) = some (.ret (.b true) []) := by
  have ea := ev_averify a b c p u B S (by first | omega | simp) (by first | omega | simp) (by omega)
  have er := ev_raverify a b c p u B S (by first | omega | simp) (by first | omega | simp) (by omega)
  have hA := verA_len (k := ⟨a, b, c, p, u⟩) (b := B) (s := S)
  generalize verA ⟨a, b, c, p, u⟩ B S = D at *
  obtain ⟨A, l, e⟩ := D
  have hs := ev_r16_same A A (by have := hA.1; simp only at this; omega) (by have := hA.2.1; simp only at this; omega) (by have := hA.2.2; simp only at this; omega)
  rw [sameQ_refl] at hs
  obtain ⟨key, nonce, r, q, cc, f, uu, s0, s1, digest⟩ := A
  dsimp only [attX] at *
  rw [Y_go]; conv => lhs; whnf
  dsimp -iota -beta -eta -zeta only
  rw [toReq_call]
  rw [ea]
  conv => lhs; whnf
  dsimp -iota -beta -eta -zeta only
  rw [toReq_call]
  rw [er]
  conv => lhs; whnf
  rw [ieq_t (by omega)]
  conv => lhs; whnf
  rw [ieq_t (by omega)]
  conv => lhs; whnf
  dsimp -iota -beta -eta -zeta only
  rw [toReq_call]
  rw [hs]
  conv => lhs; whnf
theorem ev_AttestVerify_m4 (B S : List UInt8) (hB : B.length ≤ 2000) : Y E0 (.ops ⟨142, 9, 0⟩ [true, true, true, true, true, true, true, true, true, true, false] 0 [Fr.seq [true, true, true, true, true, true, true, true, true, true, true] 0, Fr.ret] 1 [(15, .pa 0 0), (17, .sl .u8 B), (18, .sl .u8 S)] [(0, some (.var [.i 1, .i 1, .i 0, .nil, .sl .u8 (lrep 32 0)]))]) = some (.ret (.b true) []) := by
  have hu : (lrep 32 (0 : UInt8)).length = 32 := by rw [lrep_eq]; rfl
  have ea := ev_averify 1 1 0 [] (lrep 32 0) B S (by first | omega | simp) (by first | omega | simp) (by omega)
  have er := ev_raverify 1 1 0 [] (lrep 32 0) B S (by first | omega | simp) (by first | omega | simp) (by omega)
  have hA := verA_len (k := ⟨1, 1, 0, [], lrep 32 0⟩) (b := B) (s := S)
  generalize verA ⟨1, 1, 0, [], lrep 32 0⟩ B S = D at *
  obtain ⟨A, l, e⟩ := D
  have hs := ev_r16_same A A (by have := hA.1; simp only at this; omega) (by have := hA.2.1; simp only at this; omega) (by have := hA.2.2; simp only at this; omega)
  rw [sameQ_refl] at hs
  obtain ⟨key, nonce, r, q, cc, f, uu, s0, s1, digest⟩ := A
  dsimp only [attX] at *
  rw [Y_go]; conv => lhs; whnf
  dsimp -iota -beta -eta -zeta only
  rw [toReq_call]
  rw [ea]
  conv => lhs; whnf
  dsimp -iota -beta -eta -zeta only
  rw [toReq_call]
  rw [er]
  conv => lhs; whnf
  rw [ieq_t (by omega)]
  conv => lhs; whnf
  rw [ieq_t (by omega)]
  conv => lhs; whnf
  dsimp -iota -beta -eta -zeta only
  rw [toReq_call]
  rw [hs]
  conv => lhs; whnf
theorem ev_AttestVerify_m2 (seed : List UInt8) (how : UInt8) (at' : Int) (x : UInt8) (ka hh : Int) (pk B : List UInt8) (hs : seed.length ≤ 60) (hpk : pk.length = 17) (hB : B.length ≤ 2000) : Y E0 (.ops ⟨142, 9, 0⟩ [true, true, true, true, true, true, true, true, false] 0 [Fr.seq [true, true, true, true, true, true, true, true, true] 0, Fr.ret] 2 [(1, .sl .u8 seed), (4, .u8 how), (5, .i at'), (6, .u8 x), (15, .pa 0 0), (17, .nm 1)] [(0, some (.var [.i 2, .i ka, .i hh, .sl .u8 [], .sl .u8 pk])), (1, some (.row 5 .u8 B))]) = some (.ret (.b true) []) := by
  have hl := sigK_le seed B hh 0
  have hd : List.take (llen pk - 1).toNat (List.drop (Int.toNat 1) pk) = pk.drop 1 := List.take_of_length_le (by rw [llen_eq, List.length_drop]; omega)
  rw [Y_go]; conv => lhs; whnf
  dsimp -iota -beta -eta -zeta only
  rw [toReq_call]
  rw [ev_rssign _ _ _ _ (by omega) (by omega)]
  conv => lhs; whnf
  rw [u8cmp_eql]
  rcases Bool.eq_false_or_eq_true (ieq ↑(u8op BinOp.and how (UInt8.ofNat 7)).toNat ↑(UInt8.ofNat 0).toNat) with hc0 | hc0
  · rw [hc0]; replace hc0 := of_ieq_t hc0; try simp only [llen_eq] at hc0
    conv => lhs; whnf
    rcases Bool.eq_false_or_eq_true (ile 0 at') with hc1 | hc1
    · rw [hc1]; replace hc1 := of_ile_t hc1; try simp only [llen_eq] at hc1
      conv => lhs; whnf
      rcases Bool.eq_false_or_eq_true (ilt at' (llen (sigK seed hh 0 B))) with hc2 | hc2
      · rw [hc2]; replace hc2 := of_ilt_t hc2; try simp only [llen_eq] at hc2
        conv => lhs; whnf
        rw [linb_t (by omega)]
        conv => lhs; whnf
        dsimp -iota -beta -eta -zeta only
        rw [lget_i (by omega)]
        conv => lhs; whnf
        rw [linb_t (by omega)]
        conv => lhs; whnf
        rw [lget_i (by omega)]
        conv => lhs; whnf
        rw [ev_AttestVerify_m3 _ _ _ _ _ _ _ (by simp) (by first | omega | (rw [List.length_drop]; omega)) (by first | omega | (rw [lset_eq, List.length_set]; omega))]
      · rw [hc2]; replace hc2 := of_ilt_f hc2; try simp only [llen_eq] at hc2
        conv => lhs; whnf
        rw [ev_AttestVerify_m3 _ _ _ _ _ _ _ (by simp) (by first | omega | (rw [List.length_drop]; omega)) (by first | omega | (rw [lset_eq, List.length_set]; omega))]
    · rw [hc1]; replace hc1 := of_ile_f hc1; try simp only [llen_eq] at hc1
      conv => lhs; whnf
      rw [ev_AttestVerify_m3 _ _ _ _ _ _ _ (by simp) (by first | omega | (rw [List.length_drop]; omega)) (by first | omega | (rw [lset_eq, List.length_set]; omega))]
  · rw [hc0]; replace hc0 := of_ieq_f hc0; try simp only [llen_eq] at hc0
    conv => lhs; whnf
    rw [u8cmp_eql]
    rcases Bool.eq_false_or_eq_true (ieq ↑(u8op BinOp.and how (UInt8.ofNat 7)).toNat ↑(UInt8.ofNat 1).toNat) with hc3 | hc3
    · rw [hc3]; replace hc3 := of_ieq_t hc3; try simp only [llen_eq] at hc3
      conv => lhs; whnf
      rcases Bool.eq_false_or_eq_true (ile 0 at') with hc4 | hc4
      · rw [hc4]; replace hc4 := of_ile_t hc4; try simp only [llen_eq] at hc4
        conv => lhs; whnf
        rcases Bool.eq_false_or_eq_true (ilt at' (llen B)) with hc5 | hc5
        · rw [hc5]; replace hc5 := of_ilt_t hc5; try simp only [llen_eq] at hc5
          conv => lhs; whnf
          rw [linb_t (by omega)]
          conv => lhs; whnf
          dsimp -iota -beta -eta -zeta only
          rw [lget_i (by omega)]
          conv => lhs; whnf
          rw [linb_t (by omega)]
          conv => lhs; whnf
          rw [lget_i (by omega)]
          conv => lhs; whnf
          rw [ev_AttestVerify_m3 _ _ _ _ _ _ _ (by simp) (by first | omega | (rw [List.length_drop]; omega)) (by first | omega | (rw [lset_eq, List.length_set]; omega))]
        · rw [hc5]; replace hc5 := of_ilt_f hc5; try simp only [llen_eq] at hc5
          conv => lhs; whnf
          rw [ev_AttestVerify_m3 _ _ _ _ _ _ _ (by simp) (by first | omega | (rw [List.length_drop]; omega)) (by first | omega | (rw [lset_eq, List.length_set]; omega))]
      · rw [hc4]; replace hc4 := of_ile_f hc4; try simp only [llen_eq] at hc4
        conv => lhs; whnf
        rw [ev_AttestVerify_m3 _ _ _ _ _ _ _ (by simp) (by first | omega | (rw [List.length_drop]; omega)) (by first | omega | (rw [lset_eq, List.length_set]; omega))]
    · rw [hc3]; replace hc3 := of_ieq_f hc3; try simp only [llen_eq] at hc3
      conv => lhs; whnf
      rw [u8cmp_eql]
      rcases Bool.eq_false_or_eq_true (ieq ↑(u8op BinOp.and how (UInt8.ofNat 7)).toNat ↑(UInt8.ofNat 2).toNat) with hc6 | hc6
      · rw [hc6]; replace hc6 := of_ieq_t hc6; try simp only [llen_eq] at hc6
        conv => lhs; whnf
        rw [ev_AttestVerify_m3 _ _ _ _ _ _ _ (by simp) (by first | omega | (rw [List.length_drop]; omega)) (by first | omega | (rw [lset_eq, List.length_set]; omega))]
      · rw [hc6]; replace hc6 := of_ieq_f hc6; try simp only [llen_eq] at hc6
        conv => lhs; whnf
        rw [u8cmp_eql]
        rcases Bool.eq_false_or_eq_true (ieq ↑(u8op BinOp.and how (UInt8.ofNat 7)).toNat ↑(UInt8.ofNat 3).toNat) with hc7 | hc7
        · rw [hc7]; replace hc7 := of_ieq_t hc7; try simp only [llen_eq] at hc7
          conv => lhs; whnf
          rw [fitn_t (by omega)]
          conv => lhs; whnf
          rw [ieq_t (by omega)]
          conv => lhs; whnf
          rw [ev_AttestVerify_m4 _ _ (by omega)]
        · rw [hc7]; replace hc7 := of_ieq_f hc7; try simp only [llen_eq] at hc7
          conv => lhs; whnf
          rw [u8cmp_eql]
          rcases Bool.eq_false_or_eq_true (ieq ↑(u8op BinOp.and how (UInt8.ofNat 7)).toNat ↑(UInt8.ofNat 5).toNat) with hc8 | hc8
          · rw [hc8]; replace hc8 := of_ieq_t hc8; try simp only [llen_eq] at hc8
            conv => lhs; whnf
            rw [lcut_s (by (simp only [sha256_len, lsB_len, lvB_len, chunk_len, LL] at * <;> omega))]
            conv => lhs; whnf
            rw [hd]
            rw [ev_AttestVerify_m3 _ _ _ _ _ _ _ (by simp) (by first | omega | (rw [List.length_drop]; omega)) (by first | omega | (rw [lset_eq, List.length_set]; omega))]
          · rw [hc8]; replace hc8 := of_ieq_f hc8; try simp only [llen_eq] at hc8
            conv => lhs; whnf
            rw [ev_AttestVerify_m3 _ _ _ _ _ _ _ (by simp) (by first | omega | (rw [List.length_drop]; omega)) (by first | omega | (rw [lset_eq, List.length_set]; omega))]
theorem ev_AttestVerify_m1 (seed : List UInt8) (how : UInt8) (at' : Int) (x : UInt8) (ka hh : Int) (pk key nonce digest : List UInt8) (r q c u s0 s1 : Int) (f : Bool) (hs : seed.length ≤ 60) (hpk : pk.length = 17) (h1 : key.length ≤ 32) (h2 : nonce.length ≤ 128) (h3 : digest.length ≤ 32) : Y E0 (.ops ⟨142, 9, 0⟩ [true, true, true, true, true, true, false] 0 [Fr.seq [true, true, true, true, true, true, true] 0, Fr.ret] 2 [(1, .sl .u8 seed), (4, .u8 how), (5, .i at'), (6, .u8 x), (15, .pa 0 0), (16, .pa 1 0)] [(0, some (.var [.i 2, .i ka, .i hh, .sl .u8 [], .sl .u8 pk])), (1, some (.var [.sl .u8 key, .sl .u8 nonce, .i r, .i q, .i c, .b f, .i u, .i s0, .i s1, .sl .u8 digest]))]) = some (.ret (.b true) []) := by
  have hle := encA_le ⟨key, nonce, r, q, c, f, u, s0, s1, digest⟩ (by simp only; omega) (by simp only; omega) (by simp only; omega)
  have ee : Y E0 (.call 31 [.agg [.sl .u8 key, .sl .u8 nonce, .i r, .i q, .i c, .b f, .i u, .i s0, .i s1, .sl .u8 digest]] []) = some (.ret (.nm 0) [some (.row 5 .u8 (encA ⟨key, nonce, r, q, c, f, u, s0, s1, digest⟩))]) := ev_r16_encode ⟨key, nonce, r, q, c, f, u, s0, s1, digest⟩ (by simp only; omega) (by simp only; omega) (by simp only; omega)
  rw [Y_go]; conv => lhs; whnf
  dsimp -iota -beta -eta -zeta only
  rw [toReq_call]
  rw [ee]
  conv => lhs; whnf
  rw [u8cmp_eql]
  rcases Bool.eq_false_or_eq_true (ieq ↑(u8op BinOp.and how (UInt8.ofNat 7)).toNat ↑(UInt8.ofNat 4).toNat) with hc0 | hc0
  · rw [hc0]; replace hc0 := of_ieq_t hc0; try simp only [llen_eq] at hc0
    conv => lhs; whnf
    rw [fits_t (by (simp only [sha256_len, lsB_len, lvB_len, chunk_len, LL] at * <;> omega))]
    conv => lhs; whnf
    rw [ev_AttestVerify_m2 _ _ _ _ _ _ _ _ (by omega) (by omega) (by first | omega | (rw [lapp_eq, List.length_append, List.length_singleton]; omega))]
  · rw [hc0]; replace hc0 := of_ieq_f hc0; try simp only [llen_eq] at hc0
    conv => lhs; whnf
    rw [ev_AttestVerify_m2 _ _ _ _ _ _ _ _ (by omega) (by omega) (by first | omega | (rw [lapp_eq, List.length_append, List.length_singleton]; omega))]
theorem ev_AttestVerify (a : Att) (seed : List UInt8) (h : Int) (attr how : UInt8) (at' : Int) (x : UInt8) : Y E0 (.call 9 [.agg (attX a), .sl .u8 seed, .i h, .u8 attr, .u8 how, .i at', .u8 x] []) = some (.ret (.b true) []) := by
  have hok := validA_ok a
  have ev0 := ev_valid16 a
  generalize validA a = V at *
  obtain ⟨vk, vn, vr, vs, vc, vf, vu, v0, v1, vg⟩ := V
  have ev : Y E0 (.call 29 [.agg (attX a)] []) = some (.ret (.agg [.sl .u8 vk, .sl .u8 vn, .i vr, .i vs, .i vc, .b vf, .i vu, .i v0, .i v1, .sl .u8 vg]) []) := ev0
  obtain ⟨o1, o2, o3, o4, o5, o6, o7, o8, o9⟩ := hok
  simp only at o1 o2 o3 o4 o5 o6 o7 o8 o9
  have ek : seed.length ≤ 60 → Y E0 (.call 28 [.sl .u8 seed, .i h, .u8 attr] []) = some (.ret (.agg [.i 2, .i (kattr attr), .i (h % 2), .sl .u8 [], .sl .u8 (pubK seed (h % 2))]) []) := fun q => ev_key16 seed h attr (by omega)
  have hpk := pubK_len (seed := seed) (h := h % 2) (by omega)
  have hnm := nameB_32 (keyP seed (h % 2) attr)
  have en : Y E0 (.call 30 [.agg [.i 2, .i (kattr attr), .i (h % 2), .sl .u8 [], .sl .u8 (pubK seed (h % 2))]] []) = some (.ret (.sl .u8 (nameB (keyP seed (h % 2) attr))) []) := ev_r10name 2 (kattr attr) (h % 2) [] (pubK seed (h % 2)) (by simp) (by omega)
  rw [Y_go]; conv => lhs; whnf
  dsimp -iota -beta -eta -zeta only
  rw [toReq_call]
  rw [ev_awake]
  conv => lhs; whnf
  rw [bnot_eq]; conv => lhs; whnf
  dsimp -iota -beta -eta -zeta only
  rw [toReq_call]
  rw [ev_few _]
  conv => lhs; whnf
  rw [bnot_eq]; conv => lhs; whnf
  rcases Bool.eq_false_or_eq_true (fewA a) with hc0 | hc0
  · rw [hc0]
    conv => lhs; whnf
    rcases Bool.eq_false_or_eq_true (ilt 60 (llen seed)) with hc1 | hc1
    · rw [hc1]; replace hc1 := of_ilt_t hc1; try simp only [llen_eq] at hc1
      conv => lhs; whnf
    · rw [hc1]; replace hc1 := of_ilt_f hc1; try simp only [llen_eq] at hc1
      conv => lhs; whnf
      dsimp -iota -beta -eta -zeta only
      rw [toReq_call]
      rw [ek (by omega)]
      conv => lhs; whnf
      dsimp -iota -beta -eta -zeta only
      rw [toReq_call]
      rw [ev]
      conv => lhs; whnf
      rw [u8cmp_eql]
      rcases Bool.eq_false_or_eq_true (ieq ↑(u8op BinOp.and how (UInt8.ofNat 8)).toNat ↑(UInt8.ofNat 0).toNat) with hc2 | hc2
      · rw [hc2]; replace hc2 := of_ieq_t hc2; try simp only [llen_eq] at hc2
        conv => lhs; whnf
        dsimp -iota -beta -eta -zeta only
        rw [toReq_call]
        rw [en]
        conv => lhs; whnf
        rw [ev_AttestVerify_m1 _ _ _ _ _ _ _ _ _ _ _ _ _ _ _ _ _ (by omega) (by omega) (by omega) (by omega) (by omega)]
      · rw [hc2]; replace hc2 := of_ieq_f hc2; try simp only [llen_eq] at hc2
        conv => lhs; whnf
        rw [ev_AttestVerify_m1 _ _ _ _ _ _ _ _ _ _ _ _ _ _ _ _ _ (by omega) (by omega) (by omega) (by omega) (by omega)]
  · rw [hc0]
    conv => lhs; whnf
end Go.Proofs.YtbjikfgpfcmcaaaDoor
